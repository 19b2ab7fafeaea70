/- Machinery of this seat's proofs (S16, S17, Ty, Sx, Lp, Mx, Cl, Cn, Mt, Rf, O1, O2, O3, Lq, Br, Wf, MKN, GlKN, SeatKN, ShKN, It, TKN0, TKN, RKN, GlPN, ZKN): lemmas that the last text uses; no statement of its own. -/
import Derived.Test.YteafpnononppbaaDoorFwE
import Derived.Lib.ReflectliteSlice
import Derived.Laws.Externs
import Derived.Test.YteafpnononppbaaDoorFwA
import Derived.Test.YteafpnononppbaaDoorFwB
import Derived.WideKeyArgs
import Derived.Below
import Derived.RowKit
import Derived.OpenShut
import Derived.ChangeMaps5
import Derived.ChangeSame
import Derived.ProofKit
import Derived.JoinedCond
import Derived.Lib.ItoaNum
import Derived.Test.YteafpnononppbaaDoorProg
import Derived.Shelf.LaysM
import Derived.Shelf.Strconv.Itoa3
import Derived.Shelf.Strconv.Itoa4
import Derived.Lib.AppendIntMem
import Derived.Test.YteafpnononppbaaDoorRows
import Derived.Deep.DeepHandedRow
import Derived.SevenTiedAt
import Derived.MakeChecks
import Derived.Test.YteafpnononppbaaDoorCards
import Derived.Test.YteafpnononppbaaDoorTie
import Derived.Lib.LaidIn
section
set_option linter.unusedVariables false
set_option linter.unusedSimpArgs false
set_option linter.unusedSectionVars false
namespace Go.Fw
variable [Glob]
set_option linter.unusedSimpArgs false
set_option linter.unusedVariables false
set_option linter.unnecessarySimpa false
set_option linter.unusedSectionVars false
section
variable {P : Program} {ρ:List AV} {X:Ext'} {inl:Inl} {isI:FuncId→Bool}
def KOk (P:Program)(ρ:List AV)(N:Nat)(k:Pc→St'→Nat→Option CRes)(A:AFr→AH→Nat→AQ→Prop):Prop:=
 ∀pc st nv x,k pc st nv=some x→Pc.holds ρ pc→SidesX P ρ x.sd→AwOk P ρ x.aw→∀fr ah nx,StW ρ N st fr ah nx→A fr ah nx (Sel ρ N x.outs)
theorem sides_l {a b:List (Pc×Sd)}(h:SidesX P ρ (a++b)):SidesX P ρ a:=fun x hx=>h x (by simp [hx])
theorem sides_r {a b:List (Pc×Sd)}(h:SidesX P ρ (a++b)):SidesX P ρ b:=fun x hx=>h x (by simp [hx])
theorem aws_l {a b:List Lo}(h:AwOk P ρ (a++b)):AwOk P ρ a:=(LoL_app.1 h).1
theorem aws_r {a b:List Lo}(h:AwOk P ρ (a++b)):AwOk P ρ b:=(LoL_app.1 h).2
theorem sThen_ne {k:Pc→St'→Nat→Option CRes}(hk:∀pc st nv x,k pc st nv=some x→x.outs≠[]):∀{l:List Out} {pc:Pc} {nv:Nat} {x:CRes},sThen k pc l nv=some x→x.outs≠[]
 |[],pc,nv,x,h=>by simp [sThen] at h
 |[o],pc,nv,x,h=>by
  simp only [sThen] at h
  cases hn:isN o.e
  ·simp only [hn,cond_false,Option.some.injEq] at h;subst h;simp
  ·simp only [hn,cond_true] at h;exact hk _ _ _ _ h
 |o::o'::r,pc,nv,x,h=>by
  simp only [sThen] at h
  cases hn:isN o.e
  ·simp only [hn,cond_false] at h
   split at h
   ·cases h
   ·simp only [Option.some.injEq] at h;subst h;simp
  ·simp only [hn,cond_true] at h
   split at h
   ·cases h
   ·rename_i y hy
    split at h
    ·cases h
    ·rename_i z hz
     simp only [Option.some.injEq] at h;subst h
     have:=sThen_ne hk hz
     simp [this]
theorem sThen_ok {N:Nat}{k:Pc→St'→Nat→Option CRes}{A:AFr→AH→Nat→AQ→Prop}(hA:∀fr ah nx (Q Q':AQ),(∀e fr ah nx,Q e fr ah nx→Q' e fr ah nx)→A fr ah nx Q→A fr ah nx Q')
  (hne:∀pc st nv x,k pc st nv=some x→x.outs≠[]) (hk:KOk P ρ N k A):∀{l:List Out} {pc:Pc} {nv:Nat} {x:CRes},sThen k pc l nv=some x→Pc.holds ρ pc→SidesX P ρ x.sd→AwOk P ρ x.aw→
  ∀e fr ah nx,Sel ρ N l e fr ah nx→AThen (fun fr ah nx=>A fr ah nx (Sel ρ N x.outs)) (Sel ρ N x.outs) e fr ah nx
 |[],pc,nv,x,h,hp,hs,ha,e,fr,ah,nx,hsel=>by simp [sThen] at h
 |[o],pc,nv,x,h,hp,hs,ha,e,fr,ah,nx,hsel=>by
  obtain ⟨st,h1,h2⟩:=hsel
  simp only [sel,Option.some.injEq,Prod.mk.injEq] at h1
  obtain ⟨rfl,rfl⟩:=h1
  simp only [sThen] at h
  cases hn:isN o.e
  ·simp only [hn,cond_false,Option.some.injEq] at h;subst h
   have hQ:Sel ρ N [o] o.e fr ah nx:=⟨o.st,rfl,h2⟩
   revert hQ hn
   generalize o.e=e
   intro hn hQ
   cases e<;>first|(simp [isN] at hn;done)|exact hQ
  ·simp only [hn,cond_true] at h
   rw [isN_eq hn]
   exact hk _ _ _ _ h hp hs ha fr ah nx h2
 |o::o'::r,pc,nv,x,h,hp,hs,ha,e,fr,ah,nx,hsel=>by
  obtain ⟨st,h1,h2⟩:=hsel
  simp only [sel] at h1
  simp only [sThen] at h
  cases hn:isN o.e
  ·simp only [hn,cond_false] at h
   split at h
   ·cases h
   ·rename_i y hy
    simp only [Option.some.injEq] at h;subst h
    have hyne:=sThen_ne hne hy
    cases hg:(o.g.den ρ).B
    ·rw [hg] at h1
     have ih:=sThen_ok hA hne hk hy (addPc_holds hg hp) hs ha e fr ah nx ⟨st,h1,h2⟩
     have lift:∀e fr ah nx,Sel ρ N y.outs e fr ah nx→Sel ρ N (o::y.outs) e fr ah nx:=by
      intro e fr ah nx ⟨st,q1,q2⟩
      obtain ⟨z,s,hz⟩:=List.exists_cons_of_ne_nil hyne
      rw [hz] at q1 ⊢
      exact ⟨st,by simp [sel,hg,q1],q2⟩
     cases e with
     |normal=>exact hA _ _ _ _ _ lift ih
     |_=>exact lift _ _ _ _ ih
    ·rw [hg] at h1
     simp only [cond_true,Option.some.injEq,Prod.mk.injEq] at h1
     obtain ⟨rfl,rfl⟩:=h1
     obtain ⟨z,s,hz⟩:=List.exists_cons_of_ne_nil hyne
     have hQ:Sel ρ N (o::y.outs) o.e fr ah nx:=⟨o.st,by rw [hz];simp [sel,hg],h2⟩
     revert hQ hn
     generalize hoe:o.e=e
     intro hn hQ
     cases e<;>first|(simp [isN] at hn;done)|exact hQ
  ·simp only [hn,cond_true] at h
   split at h
   ·cases h
   ·rename_i y hy
    split at h
    ·cases h
    ·rename_i z hz
     simp only [Option.some.injEq] at h;subst h
     have hzne:=sThen_ne hne hz
     cases hg:(o.g.den ρ).B
     ·rw [hg] at h1
      have ih:=sThen_ok hA hne hk hz (addPc_holds hg hp) (sides_r hs) (aws_r ha) e fr ah nx ⟨st,h1,h2⟩
      have lift:∀e fr ah nx,Sel ρ N z.outs e fr ah nx→Sel ρ N (guardA o.g y.outs++z.outs) e fr ah nx:=by
       intro e fr ah nx ⟨st,q1,q2⟩
       exact ⟨st,by rw [sel_guardA hzne,hg];simpa using q1,q2⟩
      cases e with
      |normal=>exact hA _ _ _ _ _ lift ih
      |_=>exact lift _ _ _ _ ih
     ·rw [hg] at h1
      simp only [cond_true,Option.some.injEq,Prod.mk.injEq] at h1
      obtain ⟨rfl,rfl⟩:=h1
      rw [isN_eq hn]
      refine hA _ _ _ _ _ (fun e fr ah nx ⟨st,q1,q2⟩=>⟨st,?_,q2⟩) (hk _ _ _ _ hy (addPc_holds hg hp) (sides_l hs) (aws_l ha) fr ah nx h2)
      have hyne:y.outs≠[]:=sel_ne q1
      rw [sel_guardA hzne,hg]
      simpa [hyne] using q1
theorem sel_mapG {l:List (Tm×RQ)}:sel ρ (l.map fun x=>(⟨x.1,.normal,⟨x.2.tr,x.2.th,x.2.nx⟩⟩:Out))=(selG ρ l).map fun R=>(Exit.normal,(⟨R.tr,R.th,R.nx⟩:St')):=by
 induction l with
 |nil=>rfl
 |cons x l ih=>
  cases l with
  |nil=>rfl
  |cons y r=>
   simp only [List.map_cons,sel,selG] at ih ⊢
   rw [ih]
   cases (x.1.den ρ).B<;>rfl
theorem swE_swE (l:Nat)(e:Exit):swE l (swE l e)=e:=by
 cases e with
 |normal=>simp [swE]
 |goto m=>
  simp only [swE]
  cases h:Nat.beq m l
  ·simp [swE,h]
  ·simp only [cond_true,swE]
   rw [Nat.eq_of_beq_eq_true h]
 |_=>rfl
theorem sel_swO {l:Nat}:∀{o:List Out},sel ρ (swO l o)=(sel ρ o).map fun x=>(swE l x.1,x.2)
 |[]=>rfl
 |[x]=>rfl
 |x::y::r=>by
  have ih:=sel_swO (l:=l) (o:=y::r)
  simp only [swO,List.map_cons,sel] at ih ⊢
  rw [ih]
  cases (x.g.den ρ).B<;>rfl
theorem Sel.sw {N l:Nat}{o:List Out}{e:Exit}{fr:AFr}{ah:AH}{nx:Nat}(h:Sel ρ N o e fr ah nx):Sel ρ N (swO l o) (swE l e) fr ah nx:=by
 obtain ⟨st,h1,h2⟩:=h
 exact ⟨st,by rw [sel_swO,h1];rfl,h2⟩
theorem gotoOf_none : ∀{o:List Out} {x:Exit×St'},gotoOf o=none→sel ρ o=some x→∀l,x.1≠.goto l
 |[],x,h,hs,l=>by simp [sel] at hs
 |[y],x,h,hs,l=>by
  simp only [sel,Option.some.injEq] at hs;subst hs
  simp only [gotoOf] at h
  split at h
  ·cases h
  ·rename_i hn;exact hn l
 |y::z::r,x,h,hs,l=>by
  rw [gotoOf] at h
  split at h
  ·cases h
  ·rename_i hn
   simp only [sel] at hs
   cases hb:(y.g.den ρ).B
   ·rw [hb] at hs;exact gotoOf_none h hs l
   ·rw [hb] at hs;simp only [cond_true,Option.some.injEq] at hs;subst hs;exact hn l
theorem sJmp_ne {run:Pc→St'→Nat→Code→Option CRes}{c:Code}(hne:∀pc st nv c x,run pc st nv c=some x→x.outs≠[]):∀{n:Nat} {pc:Pc} {outs:List Out} {nv:Nat} {y:CRes},outs≠[]→sJmp run c n pc outs nv=some y→y.outs≠[]
 |0,pc,outs,nv,y,_,h=>by simp [sJmp] at h
 |n+1,pc,outs,nv,y,ho,h=>by
  simp only [sJmp] at h
  split at h
  ·simp only [Option.some.injEq] at h;subst h;exact ho
  ·split at h
   ·cases h
   ·split at h
    ·cases h
    ·rename_i y0 hy
     split at h
     ·simp only [Option.some.injEq] at h;subst h
      have:y0.outs≠[]:=sThen_ne (fun pc st nv x hx=>by
       split at hx
       ·cases hx
       ·rename_i x1 hx1
        split at hx
        ·cases hx
        ·rename_i y1 hy1
         simp only [Option.some.injEq] at hx;subst hx
         have:=sJmp_ne hne (hne _ _ _ _ _ hx1) hy1
         simp [swO,this]) hy
      simp [swO,this]
     ·cases h
theorem sJmp_ok {N:Nat}{run:Pc→St'→Nat→Code→Option CRes}{c:Code}(hrun:∀c,KOk P ρ N (fun pc st nv=>run pc st nv c) fun fr ah nx Q=>AW P c fr ah nx Q)(hne:∀pc st nv c x,run pc st nv c=some x→x.outs≠[]) :
  ∀{n:Nat} {pc:Pc} {outs:List Out} {nv:Nat} {y:CRes},sJmp run c n pc outs nv=some y→Pc.holds ρ pc→SidesX P ρ y.sd→AwOk P ρ y.aw→∀e fr ah nx,Sel ρ N outs e fr ah nx→AScQ P c (Sel ρ N y.outs) e fr ah nx
 |0,pc,outs,nv,y,h,_,_,_,_,_,_,_,_=>by simp [sJmp] at h
 |n+1,pc,outs,nv,y,h,hp,hs,haw,e,fr,ah,nx,hsel=>by
  simp only [sJmp] at h
  split at h
  ·rename_i hg
   simp only [Option.some.injEq] at h;subst h
   obtain ⟨st,h1,h2⟩:=hsel
   have:=gotoOf_none hg h1
   cases e with
   |goto l=>exact absurd rfl (this l)
   |_=>exact ⟨st,h1,h2⟩
  ·rename_i l hl
   split at h
   ·cases h
   ·rename_i rest hf
    split at h
    ·cases h
    ·rename_i y0 hy0
     split at h
     ·rename_i hgn
      simp only [Option.some.injEq] at h;subst h
      have key:=sThen_ok (P:=P) (ρ:=ρ) (N:=N) (A:=fun fr ah nx Q=>AScope P c rest fr ah nx (fun e fr ah nx=>Q (swE l e) fr ah nx))
       (fun _ _ _ _ _ hQ h=>AScope.mono h fun e=>hQ (swE l e)) (fun pc st nv x hx=>by
        split at hx
        ·cases hx
        ·rename_i x1 hx1
         split at hx
         ·cases hx
         ·rename_i y1 hy1
          simp only [Option.some.injEq] at hx;subst hx
          have:=sJmp_ne hne (hne _ _ _ _ _ hx1) hy1
          simp [swO,this])
       (fun pc st nv x hx hp hs haw fr ah nx hst=>by
        split at hx
        ·cases hx
        ·rename_i x1 hx1
         split at hx
         ·cases hx
         ·rename_i y1 hy1
          simp only [Option.some.injEq] at hx;subst hx
          refine AScope_step (AW.mono (hrun rest _ _ _ _ hx1 hp (sides_l hs) (aws_l haw) fr ah nx hst) fun e fr ah nx hsel=>?_)
          have ih:=sJmp_ok hrun hne hy1 hp (sides_r hs) (aws_r haw) e fr ah nx hsel
          cases e with
          |goto m=>
           simp only [AScQ] at ih ⊢
           split
           ·rename_i r hr
            rw [hr] at ih
            exact AScope.mono ih fun e fr ah nx h=>h.sw
           ·rename_i hr
            rw [hr] at ih
            exact ih.sw
          |_=>exact Sel.sw ih) hy0 hp hs haw (swE l e) fr ah nx hsel.sw
      have conv:∀e fr ah nx,Sel ρ N y0.outs (swE l e) fr ah nx→Sel ρ N (swO l y0.outs) e fr ah nx:=by
       intro e fr ah nx h
       have:=h.sw (l:=l)
       rwa [swE_swE] at this
      cases e with
      |normal=>exact conv .normal _ _ _ key
      |goto m=>
       by_cases hm:m=l
       ·subst hm
        simp only [swE,Nat.beq_refl,cond_true] at key
        simp only [AScQ,hf]
        exact AScope.mono key conv
       ·have hb:Nat.beq m l=false:=by
         cases hb:Nat.beq m l
         ·rfl
         ·exact absurd (Nat.eq_of_beq_eq_true hb) hm
        have e1:swE l (.goto m)=.goto m:=by simp [swE,hb]
        rw [e1] at key
        have k2:Sel ρ N (swO l y0.outs) (.goto m) fr ah nx:=conv (.goto m) _ _ _ (by rw [e1];exact key)
        obtain ⟨st,q1,q2⟩:=k2
        exact absurd rfl (gotoOf_none hgn q1 m)
      |exit id=>exact conv (.exit id) _ _ _ key
      |ret=>exact conv .ret _ _ _ key
      |panic ch=>exact conv (.panic ch) _ _ _ key
      |outgrown=>exact conv .outgrown _ _ _ key
     ·cases h
theorem sReg_ok {N:Nat}{pc:Pc}{st:St'}{nv:Nat}{id:Nat}{ops:Array Oper}{draw:Bool}{x:CRes}(hm:P.follows .mixedOrders=true)(hρ:fzL ρ=true)(hX:ExtOk P ρ X)(hI:InlOk P ρ inl)(h:sReg P X inl isI N pc st nv ops draw=some x)
  (hp:Pc.holds ρ pc) (hs:SidesX P ρ x.sd) {fr:AFr} {ah:AH} {nx:Nat} (hst:StW ρ N st fr ah nx):AW P (.region id ops draw) fr ah nx (Sel ρ N x.outs):=by
 refine AW_canon hst fun fr0 ah0 hf ha hN=>?_
 unfold sReg at h
 split at h
 ·cases h
 ·rename_i R hR
  simp only [Option.some.injEq] at h;subst h
  cases draw with
  |true=>
   simp only [cond_true] at hR
   cases hc:edgesOk ops&&slotsOk ops (masks ops.toList [])
   ·simp [hc] at hR
   ·simp only [hc,cond_true] at hR
    simp only [Bool.and_eq_true] at hc
    intro base w E a hsim
    refine wp_region_any hm ?_
    obtain ⟨d1,d2⟩:=draw_ok hsim.heap (w.drawn+1)
    obtain ⟨R',L,frE,ahE,q1,q2,q3,q4,q5,q6,q7,q8,q9⟩:=sDraw_ok (P:=P) (base:=base) hρ hX hI ops.toList 0 fr0 ah0 hR hp hs hf ha hN (by simp)
    have hsz:L.length=ops.size:=by rw [q2];simp
    have get:∀k,k<ops.size→∃o r,ops[k]?=some o∧L[k]?=some r∧DGood P ops base (masks ops.toList []) 0 ops.toList L frE ahE R'.nx [] [] [] k o r:=fun k hk=>by
     have h1:ops[k]?=some ops[k]:=by simp [hk]
     have h2:L[k]?=some L[k]:=by simp [hsz,hk]
     exact ⟨_,_,h1,h2,q9 k _ _ (by simpa using h1) h2⟩
    have atS:∀{α:Type} (f:OpRec→α) (e:α) (k:Nat) (r:OpRec),L[k]?=some r→atO f L e k=f r:=fun f e k r h=>by unfold atO;rw [h]
    have mono1:∀k,k<ops.size→atO (·.nx) L R'.nx k≤atO (·.nx) L R'.nx (k+1):=fun k hk=>by
     obtain ⟨o,r,h1,h2,g⟩:=get k hk
     rw [atS _ _ k r h2];exact g.nx
    have mono:∀n m,m+n≤ops.size→atO (·.nx) L R'.nx m≤atO (·.nx) L R'.nx (m+n):=by
     intro n
     induction n with
     |zero=>intro m _;exact Nat.le_refl _
     |succ n ih=>intro m hm;exact Nat.le_trans (ih m (by omega)) (mono1 (m+n) (by omega))
    have hend:atO (·.nx) L R'.nx ops.size=R'.nx:=by unfold atO;rw [List.getElem?_eq_none (by omega)]
    have hendf:atO (·.fr) L frE ops.size=frE:=by unfold atO;rw [List.getElem?_eq_none (by omega)]
    have henda:atO (·.ah) L ahE ops.size=ahE:=by unfold atO;rw [List.getElem?_eq_none (by omega)]
    have hL:DRec P ops base (masks ops.toList []) (fun b=>st.nx≤b) (fun k=>atO (·.fr) L frE k) (fun k=>atO (·.ah) L ahE k) (fun k=>atO (·.rv) L undefA k) (fun k=>atO (·.WR) L (fun _=>false) k) (fun k=>atO (·.RD) L (fun _=>false) k)
      (fun k=>atO (·.NEW) L (fun _=>False) k) (fun k=>atO (·.REQ) L (fun _=>False) k):=by
     refine ⟨fun j o ho=>?_,fun j o ho=>?_,fun j b hj=>?_,fun j hj j' hj'=>?_,fun j b hj=>?_,fun x y hx hy hxy=>?_⟩
     ·have hj:=(Array.getElem?_eq_some_iff.1 ho).1
      obtain ⟨o',r,h1,h2,g⟩:=get j hj
      rw [ho] at h1;cases h1
      simp only [atS _ _ j r h2]
      have:=g.step
      rw [Nat.zero_add] at this
      exact this
     ·have hj:=(Array.getElem?_eq_some_iff.1 ho).1
      obtain ⟨o',r,h1,h2,g⟩:=get j hj
      rw [ho] at h1;cases h1
      simp only [atS _ _ j r h2]
      exact g.fr
     ·obtain ⟨o,r,h1,h2,g⟩:=get j hj
      simp only [atS _ _ j r h2]
      exact g.ah b
     ·obtain ⟨o,r,h1,h2,g⟩:=get j hj
      obtain ⟨o',r',h1',h2',g'⟩:=get j' (by omega)
      simp only [atS _ _ j r h2,atS _ _ j' r' h2']
      have:=(g.prev j' r' hj' h2').1
      rw [Nat.zero_add,Nat.zero_add] at this
      exact this
     ·obtain ⟨o,r,h1,h2,g⟩:=get j hj
      simp only [atS _ _ j r h2]
      intro hb
      have e1:=g.req b hb
      have e2:=mono j 0 (by omega)
      rw [Nat.zero_add,q8,atS _ _ j r h2] at e2
      exact Nat.le_trans e2 e1
     ·obtain ⟨ox,rx,hx1,hx2,gx⟩:=get x hx
      obtain ⟨oy,ry,hy1,hy2,gy⟩:=get y hy
      simp only [atS _ _ x rx hx2,atS _ _ y ry hy2]
      rcases Nat.lt_or_gt_of_ne hxy with hlt|hgt
      ·refine .inr fun b hb hn=>?_
       have e1:=gx.new b hn
       have e2:=gy.req b hb
       have e3:=mono (y-(x+1)) (x+1) (by omega)
       rw [show x+1+(y-(x+1))=y by omega,atS _ _ y ry hy2] at e3
       have:b<ry.nx:=Nat.lt_of_lt_of_le e1 e3
       omega
      ·cases hcy:ry.call with
       |true=>
        rcases (gx.prev y ry hgt hy2).2.1 hcy with h|h
        ·rw [Nat.zero_add,Nat.zero_add] at h;exact .inl h
        ·exact .inr fun b hb hn=>h b hb hn
       |false=>
        cases hcx:rx.call with
        |true=>
         rcases (gx.prev y ry hgt hy2).2.2 hcx with h|h
         ·rw [Nat.zero_add,Nat.zero_add] at h;exact .inl h
         ·exact .inr fun b hb=>(h b hb).elim
        |false=>
         refine .inr fun b hb hn=>?_
         have e1:=(gy.plain hcy).1 b hb
         have e2:=(gx.plain hcx).2 b hn
         have e3:=mono (x-(y+1)) (y+1) (by omega)
         rw [show y+1+(x-(y+1))=x by omega,atS _ _ x rx hx2] at e3
         have:b<rx.nx:=Nat.lt_of_lt_of_le e1 e3
         omega
    refine drec_draw hc.1 hc.2 hL (by simp only [q7];exact d2) (by simp only [q6];exact hsim.fr.mono d1.ext) (fun a' w' hp'=>?_)
    obtain ⟨E',p1,p2,p3,p4⟩:=hp'
    simp only [hendf,henda] at p2 p3
    refine ⟨E',frE,ahE,R'.nx,⟨⟨R'.tr,R'.th,R'.nx⟩,by rw [sel_mapG,q1];rfl,StW.of q3 q4 q5 (Nat.le_refl _)⟩,⟨p2.weaken fun b hb=>⟨?_,fun i hi hn=>?_⟩,p3,by rw [p4];exact hsim.defers⟩,d1.trans p1⟩
    ·have:=mono ops.size 0 (by omega)
     rw [Nat.zero_add,hend,q8] at this
     exact Nat.le_trans this hb
    ·obtain ⟨o,r,h1,h2,g⟩:=get i hi
     rw [atS _ _ i r h2] at hn
     have e1:=g.new b hn
     have e3:=mono (ops.size-(i+1)) (i+1) (by omega)
     rw [show i+1+(ops.size-(i+1))=ops.size by omega,hend] at e3
     have:b<R'.nx:=Nat.lt_of_lt_of_le e1 e3
     have hb':R'.nx≤b:=hb
     omega
  |false=>
   simp only [cond_false] at hR
   intro base w E a hsim
   refine wp_region ?_
   have:=sSeq_ok (isI:=isI) (Q:=APost base w E (Sel ρ N (R.outs.map fun x=>⟨x.1,.normal,⟨x.2.tr,x.2.th,x.2.nx⟩⟩))) (base:=base) hρ hX hI ops.toList 0 fr0 ah0 w E a hR hp hs hf ha hN (by simp) hsim.heap hsim.fr (fun R' hR' a' w' hpost=>?_)
   ·simpa [List.range_eq_range'] using this
   ·obtain ⟨E',fr',ah',q1,q2,q3,q4,q5,q6,q7⟩:=hpost
    exact ⟨E',fr',ah',R'.nx,⟨⟨R'.tr,R'.th,R'.nx⟩,by rw [sel_mapG,hR'];rfl,StW.of q1 q2 q3 (Nat.le_refl _)⟩,⟨q5,q6,by rw [q7];exact hsim.defers⟩,q4⟩
def RoundsA (P:Program)(c:Code)(Q:AQ):Nat→AFr→AH→Nat→Prop
 |0,_,_,_=>False
 |n+1,fr,ah,nx=>AW P c fr ah nx (AThen (RoundsA P c Q n) Q)
theorem AThen_mono {K K':AFr→AH→Nat→Prop}{Q Q':AQ}(hK:∀fr ah nx,K fr ah nx→K' fr ah nx)(hQ:∀e fr ah nx,Q e fr ah nx→Q' e fr ah nx):∀e fr ah nx,AThen K Q e fr ah nx→AThen K' Q' e fr ah nx:=by
 intro e fr ah nx h
 cases e<;>first|exact hK _ _ _ h|exact hQ _ _ _ _ h
theorem RoundsA_mono {c:Code}{Q Q':AQ}(hQ:∀e fr ah nx,Q e fr ah nx→Q' e fr ah nx):∀{n:Nat} {fr:AFr} {ah:AH} {nx:Nat},RoundsA P c Q n fr ah nx→RoundsA P c Q' n fr ah nx
 |0,_,_,_,h=>h
 |n+1,fr,ah,nx,h=>AW.mono h (AThen_mono (fun _ _ _ h=>RoundsA_mono hQ h) hQ)
theorem FrLe.refl : ∀fr:AFr,FrLe fr fr
 |[]=>trivial
 |none::r=>FrLe.refl r
 |some a::r=>⟨rfl,FrLe.refl r⟩
theorem AW_rounds {c:Code}{Q:AQ}{n:Nat}{fr:AFr}{ah:AH}{nx:Nat}(h:RoundsA P c Q n fr ah nx):AW P (.loop c) fr ah nx Q:=by
 refine AW_loop (fun n fr ah nx=>RoundsA P c Q n fr ah nx) n fr (FrLe.refl fr) h fun n fr ah nx h K hK=>?_
 cases n with
 |zero=>exact h.elim
 |succ n=>exact AW.mono h (AThen_mono (fun fr ah nx h=>hK fr ah nx ⟨n,Nat.lt_succ_self n,fr,FrLe.refl fr,h⟩) fun _ _ _ _ h=>h)
theorem sLoop_ne {body:Pc→St'→Nat→Option CRes}:∀{m:Nat} {pc:Pc} {st:St'} {nv:Nat} {x:CRes},sLoop body m pc st nv=some x→x.outs≠[]
 |0,pc,st,nv,x,h=>by simp [sLoop] at h
 |m+1,pc,st,nv,x,h=>by
  simp only [sLoop] at h
  split at h
  ·cases h
  ·split at h
   ·cases h
   ·rename_i y hy
    simp only [Option.some.injEq] at h;subst h
    exact (sThen_ne (k:=sLoop body m) (fun _ _ _ _ h=>sLoop_ne h) hy:y.outs≠[])
theorem sLoop_ok {N:Nat}{body:Pc→St'→Nat→Option CRes}{c:Code}(hb:KOk P ρ N body fun fr ah nx Q=>AW P c fr ah nx Q):∀{m:Nat},KOk P ρ N (sLoop body m) fun fr ah nx Q=>RoundsA P c Q m fr ah nx
 |0=>fun pc st nv x h=>by simp [sLoop] at h
 |m+1=>fun pc st nv x h hp hs ha fr ah nx hst=>by
  simp only [sLoop] at h
  split at h
  ·cases h
  ·rename_i x1 hx1
   split at h
   ·cases h
   ·rename_i y hy
    simp only [Option.some.injEq] at h;subst h
    refine AW.mono (hb _ _ _ _ hx1 hp (sides_l hs) (aws_l ha) fr ah nx hst) fun e fr ah nx hsel=>?_
    exact sThen_ok (A:=fun fr ah nx Q=>RoundsA P c Q m fr ah nx) (fun _ _ _ _ _ hQ h=>RoundsA_mono hQ h) (fun _ _ _ _ h=>sLoop_ne h) (sLoop_ok hb) hy hp (sides_r hs) (aws_r ha) e fr ah nx hsel
theorem get_only {tr:Tr Ent}:∀{l:List Nat} {t:Nat} {e:Ent},(Tr.only tr l).get t=some e→tr.get t=some e
 |[],t,e,h=>by simp [Tr.only,Tr.get] at h
 |s::r,t,e,h=>by
  simp only [Tr.only] at h
  split at h
  ·rename_i x hx
   rcases Tr.get_upd _ _ _ _ _ _ h with ⟨rfl,h1⟩|⟨-,h1⟩
   ·simp only [Option.some.injEq] at h1;subst h1;exact hx
   ·exact get_only h1
  ·exact get_only h
theorem get_reach {th:Tr SB}:∀{n:Nat} {l:List Nat} {acc:Tr SB},(∀b k,acc.get b=some k→th.get b=some k)→∀b k,(reach th n l acc).get b=some k→th.get b=some k
 |0,l,acc,h=>h
 |n+1,[],acc,h=>h
 |n+1,b::r,acc,h=>by
  simp only [reach]
  split
  ·exact get_reach h
  ·split
   ·exact get_reach h
   ·rename_i k hk
    refine get_reach fun j y hj=>?_
    rcases Tr.get_upd _ _ _ _ _ _ hj with ⟨rfl,h1⟩|⟨-,h1⟩
    ·simp only [Option.some.injEq] at h1;subst h1;exact hk
    ·exact h _ _ h1
theorem StW.only {N:Nat}{st:St'}{fr:AFr}{ah:AH}{nx:Nat}(h:StW ρ N st fr ah nx)(l:List Nat):StW ρ N (st.only l) fr ah nx:=
 ⟨fun t e he=>h.fr t e (get_only he),fun b k hk=>h.ah b k (get_reach (acc:=.e) (fun b k h=>by simp [Tr.get] at h) b k hk),h.len,h.nx⟩
theorem sel_leave {id:Nat}:∀{l:List Out},sel ρ (leave id l)=(sel ρ l).map fun x=>(lvE id x.1,x.2)
 |[]=>rfl
 |[o]=>rfl
 |o::o'::r=>by
  have ih:=sel_leave (id:=id) (l:=o'::r)
  simp only [leave,List.map_cons,sel] at ih ⊢
  rw [ih]
  cases hb:(o.g.den ρ).B<;>rfl
theorem Sel.leave {N id:Nat}{l:List Out}{e:Exit}{fr:AFr}{ah:AH}{nx:Nat}(h:Sel ρ N l e fr ah nx):AIn id (Sel ρ N (Go.Fw.leave id l)) e fr ah nx:=by
 obtain ⟨st,h1,h2⟩:=h
 have e1:=sel_leave (ρ:=ρ) (id:=id) (l:=l)
 rw [h1] at e1
 cases e with
 |exit j=>
  simp only [AIn]
  split
  ·rename_i hj;subst hj;exact ⟨st,by rw [e1];simp [lvE],h2⟩
  ·rename_i hj
   refine ⟨st,?_,h2⟩
   rw [e1]
   have:Nat.beq j id=false:=by
    cases hb:Nat.beq j id
    ·rfl
    ·exact absurd (Nat.eq_of_beq_eq_true hb) hj
   simp [lvE,this]
 |_=>exact ⟨st,e1,h2⟩
theorem mrgO_ne {keep:Kp}:∀{l:List Out},l≠[]→mrgO keep l≠[]
 |[],h=>absurd rfl h
 |o::r,_=>by
  unfold mrgO
  cases isN o.e
  ·simp
  ·simp only [cond_true]
   split
   ·simp
   ·rename_i l n _
    cases isN n.e
    ·simp
    ·simp only [cond_true];split<;>simp
theorem xOuts_ne {cs:St'}{nv k q:Nat}{x:Exit×Pats}{r:List (Exit×Pats)}:xOuts cs nv k q (x::r)≠[]:=by cases r<;>simp [xOuts]
theorem sMark_ne {N:Nat}{pc:Pc}{st:St'}{nv id:Nat}{b:Code}{x:CRes}(h:sMark P N pc st nv id b=some x):x.outs≠[]:=by
 unfold sMark at h
 split at h
 ·cases h
 ·unfold sMarkV at h
  split at h
  ·split at h
   ·split at h
    ·rw [Bool.cond_eq_ite] at h
     split at h
     ·split at h
      ·simp only [Option.some.injEq] at h;subst h;simp
      ·cases h
     ·cases h
    ·cases h
   ·cases h
  ·cases h
theorem sCode_ne {G:Cfg}{F:FCfg}:∀{n:Nat} {pc:Pc} {st:St'} {nv:Nat} {c:Code} {x:CRes},sCode P G F n pc st nv c=some x→x.outs≠[]
 |0,pc,st,nv,c,x,h=>by simp [sCode] at h
 |n+1,pc,st,nv,c,x,h=>by
  unfold sCode at h
  split at h
  ·simp only [Option.some.injEq] at h;subst h;simp
  ·simp only [Option.some.injEq] at h;subst h;simp
  ·simp only [Option.some.injEq] at h;subst h;simp
  ·unfold sReg at h
   rename_i id ops draw
   split at h
   ·cases h
   ·rename_i S hS
    simp only [Option.some.injEq] at h;subst h
    have:S.outs≠[]:=by
     cases draw
     ·exact sSeq_ne hS
     ·simp only [cond_true] at hS
      generalize (edgesOk ops&&slotsOk ops (masks ops.toList []))=q at hS
      cases q
      ·cases hS
      ·exact sDraw_ne hS
    simp [this]
  ·split at h
   ·cases h
   ·split at h
    ·cases h
    ·rename_i y hy
     simp only [Option.some.injEq] at h;subst h
     exact mrgO_ne (sThen_ne (fun _ _ _ _ h=>sCode_ne h) hy)
  ·split at h
   ·split at h
    ·exact sCode_ne h
    ·exact sCode_ne h
    ·split at h
     ·cases h
     ·split at h
      ·cases h
      ·rename_i y hy
       simp only [Option.some.injEq] at h;subst h
       refine mrgO_ne ?_
       have:=sCode_ne hy
       simp [twoWays,this]
   ·cases h
  ·split at h
   ·rename_i c hh hm
    dsimp only at h
    split at h
    ·cases h
    ·split at h
     ·cases h
     ·split at h
      ·rename_i x r hxs
       simp only [Option.some.injEq] at h;subst h
       rw [hxs]
       exact xOuts_ne
      ·cases h
   ·split at h
    ·rename_i y hy
     simp only [Option.some.injEq] at h;subst h
     exact sMark_ne hy
    ·split at h
     ·cases h
     ·rename_i y hy
      simp only [Option.some.injEq] at h;subst h
      refine mrgO_ne ?_
      have:=sCode_ne hy
      simp [leave,this]
  ·simp only [Option.some.injEq] at h;subst h;simp
  ·simp only [Option.some.injEq] at h;subst h;simp
  ·split at h
   ·cases h
   ·rename_i x1 hx1
    split at h
    ·cases h
    ·rename_i y hy
     simp only [Option.some.injEq] at h;subst h
     exact mrgO_ne (sJmp_ne (fun _ _ _ _ _ h=>sCode_ne h) (sCode_ne hx1) hy)
  ·exact sLoop_ne h
  ·cases h
end
section
variable {P : Program}
theorem sMark_ok {N:Nat}{ρ:List AV}{pc:Pc}{st:St'}{nv id:Nat}{b:Code}{x:CRes}{fr:AFr}{ah:AH}{nx:Nat}(hp:pc.holds ρ)(hs:SidesX P ρ x.sd)(hst:StW ρ N st fr ah nx)(h:sMark P N pc st nv id b=some x) :
  AW P (.block id b) fr ah nx (Sel ρ N x.outs):=by
 unfold sMark at h
 split at h
 ·cases h
 rename_i m hm
 obtain ⟨r1,r2,r3,id5,o1,o2,p1,p2,p3,q1,q2,q3,q4,hmo,rfl⟩:=markCode_ok hm
 refine AW_canon hst fun fr ah hf ha hN=>?_
 unfold sMarkV at h
 split at h
 ·rename_i q sq bd len h1 h2
  split at h
  ·rename_i mb n d h3 h4
   split at h
   ·rename_i mk t h5
    rw [Bool.cond_eq_ite] at h
    split at h
    case isFalse=>cases h
    case isTrue hg=>
     split at h
     ·rename_i e9 hT hTB
      simp only [Option.some.injEq] at h;subst h
      simp only [Bool.and_eq_true,List.all_eq_true,Bool.not_eq_true',List.contains_eq_mem,decide_eq_false_iff_not] at hg
      obtain ⟨g1,g2,g3,g4,g5,g6,g7,g8,g9⟩:=hg
      have bne:∀{a b:Nat},Nat.beq a b=false→a≠b:=fun {a b} h e=>by subst e;simp at h
      obtain rfl:=Tm.beq_eq g1
      obtain ⟨k1,k2,k3,k4⟩:=hs (pc,.s (.mark mk t d len (.var nv []))) (by simp) hp
      have hq:fget fr m.it=some (.op q sq 0 0):=evS_ev hp hf h1
      have hD:fget fr m.tD=some (.os bd 1 0 (len.den ρ).I.toNat):=evS_ev hp hf h2
      have hqa:ah q=some (.it mb ((t.den ρ).R.map (entOf mk)).length 0):=by
       rw [ha _ _ h3];simp [SB.den,Tm.den,D.I,lLen]
      refine AW_mark (es:=(t.den ρ).R.map (entOf mk)) (rs:=(d.den ρ).R) hmo (fun t ht=>by rw [hN];exact Nat.le_of_ble_eq_true (g2 t ht)) g3 g4 (bne g5) (bne g6) hq hqa (ha _ _ h5) hD (ha _ _ h4) k1 hT hTB k2 (bne g7) (bne g8) (bne g9) ?_
      intro fr' rs' hl hfr hrl hrs
      refine ⟨_,rfl,StW.of (fun t e he=>?_) (fun b k hk=>?_) (hl.trans hN) (Nat.le_refl _)⟩
      ·obtain ⟨h6,h7⟩:=dropTs_get he
       rw [hfr t h6];exact hf t e h7
      ·rcases Tr.get_upd _ _ _ _ _ _ hk with ⟨rfl,h6⟩|⟨hne,h6⟩
       ·simp only [Option.some.injEq] at h6;subst h6
        rw [upd_eq rfl]
        have:rs'=(Tm.den ρ (.var nv [])).R:=by
         apply List.ext_getElem?
         intro i
         by_cases hi:i<(d.den ρ).R.length
         ·rw [hrs i hi,k4 i hi]
         ·rw [List.getElem?_eq_none (by omega),List.getElem?_eq_none (by omega)]
        rw [this];rfl
       ·rw [upd_ne hne]
        rcases Tr.get_upd _ _ _ _ _ _ h6 with ⟨_,h7⟩|⟨hne2,h7⟩
        ·cases h7
        ·rw [upd_ne hne2];exact ha _ _ h7
     ·cases h
   ·cases h
  ·cases h
 ·cases h
theorem sCode_ok {G:Cfg}{F:FCfg}(hm:P.follows .mixedOrders=true)(hX:∀σ:List AV,fzL σ=true→ExtOk P σ G.X)(hI:∀σ:List AV,fzL σ=true→InlOk P σ G.inl):∀{n:Nat} {c:Code} {ρ:List AV},fzL ρ=true→KOk P ρ F.N (fun pc st nv=>sCode P G F n pc st nv c) fun fr ah nx Q=>AW P c fr ah nx Q
 |0,c,ρ,hρ=>fun pc st nv x h=>by simp [sCode] at h
 |n+1,c,ρ,hρ=>fun pc st nv x h hp hs ha fr ah nx hst=>by
  unfold sCode at h
  dsimp only at h
  split at h
  ·simp only [Option.some.injEq] at h;subst h;exact AW_skip ⟨st,rfl,hst⟩
  ·simp only [Option.some.injEq] at h;subst h;exact AW_exit ⟨st,rfl,hst⟩
  ·simp only [Option.some.injEq] at h;subst h;exact AW_ret ⟨st,rfl,hst⟩
  ·exact sReg_ok hm hρ (hX ρ hρ) (hI ρ hρ) h hp hs hst
  ·split at h
   ·cases h
   ·rename_i x1 hx1
    split at h
    ·cases h
    ·rename_i y hy
     simp only [Option.some.injEq] at h;subst h
     refine AW_seq' (AW.mono (sCode_ok hm hX hI hρ _ _ _ _ hx1 hp (sides_l hs) (aws_l ha) fr ah nx hst) fun e fr ah nx hsel=>?_)
     have:=sThen_ok (A:=fun fr ah nx Q=>AW P _ fr ah nx Q) (fun _ _ _ _ _ hQ h=>AW.mono h hQ) (fun _ _ _ _ h=>sCode_ne h) (sCode_ok hm hX hI hρ) hy hp (sides_r hs) (aws_r ha) e fr ah nx hsel
     exact AThen_mono (fun fr ah nx h=>AW.mono h fun _ _ _ _ h=>mrgO_ok h) (fun _ _ _ _ h=>mrgO_ok h) _ _ _ _ this
  ·split at h
   ·rename_i t ht
    refine AW_canon hst fun fr0 ah0 hf hah hN=>?_
    have hev:=evS_ev hp hf ht
    have hst0:StW ρ F.N st fr0 ah0 st.nx:=StW.of hf hah hN (Nat.le_refl _)
    refine AW_cond (t.den ρ).B hev ?_
    split at h
    ·rename_i hk
     rw [if_pos (Pc.known_holds hp hk)]
     exact sCode_ok hm hX hI hρ _ _ _ _ h hp hs ha fr0 ah0 _ hst0
    ·rename_i hk
     rw [if_neg (by rw [Pc.known_holds hp hk];simp)]
     exact sCode_ok hm hX hI hρ _ _ _ _ h hp hs ha fr0 ah0 _ hst0
    ·split at h
     ·cases h
     ·rename_i x1 hx1
      split at h
      ·cases h
      ·rename_i y hy
       simp only [Option.some.injEq] at h;subst h
       have n1:=sCode_ne hx1
       have n2:=sCode_ne hy
       cases hb:(t.den ρ).B
       ·rw [if_neg (by simp)]
        refine AW.mono (sCode_ok hm hX hI hρ _ _ _ _ hy (addPc_holds hb hp) (sides_r hs) (aws_r ha) fr0 ah0 _ hst0) fun e fr ah nx ⟨st',q1,q2⟩=>mrgO_ok ⟨st',?_,q2⟩
        rw [sel_two n1 n2,hb];simpa using q1
       ·rw [if_pos rfl]
        refine AW.mono (sCode_ok hm hX hI hρ _ _ _ _ hx1 (addPc_holds hb hp) (sides_l hs) (aws_l ha) fr0 ah0 _ hst0) fun e fr ah nx ⟨st',q1,q2⟩=>mrgO_ok ⟨st',?_,q2⟩
        rw [sel_two n1 n2,hb];simpa using q1
   ·cases h
  ·rename_i id b
   split at h
   ·rename_i c' hh hmm
    split at h
    ·cases h
    ·rename_i ent hent
     split at h
     ·cases h
     ·rename_i x1 hx1
      split at h
      ·rename_i outs y r hcls hxs
       simp only [Option.some.injEq] at h;subst h
       obtain ⟨rfl,-⟩:=hintOf_eq hmm
       refine loop_case hρ hp hent hcls (fun s hm=>hs (pc,.s s) (List.mem_map.2 ⟨s,hm,rfl⟩) hp) (fun x hx=>List.mem_append_right _ hx) (fun σ hσ h1 h2 h3 fr ah nx h4=>sCode_ok hm hX hI hσ _ _ _ _ hx1 h1 (ex_ok (fun x hx=>h2 x (List.mem_append_left _ hx)) (LoL_app.1 (srtLo_ok h3)).2) (LoL_app.1 (srtLo_ok h3)).1 fr ah nx h4) ?_ rfl hst
       exact ha.1
      ·cases h
   ·split at h
    ·rename_i y hy
     simp only [Option.some.injEq] at h;subst h
     exact sMark_ok hp hs hst hy
    ·split at h
     ·cases h
     rename_i y hy
     simp only [Option.some.injEq] at h;subst h
     refine AW_block (AW.mono (sCode_ok hm hX hI hρ _ _ _ _ hy hp hs ha fr ah nx hst) fun e fr ah nx hsel=>?_)
     have:=Sel.leave (id:=id) hsel
     cases e with
     |exit j=>
      simp only [AIn] at this ⊢
      split
      ·rename_i hj;rw [if_pos hj] at this;exact mrgO_ok this
      ·rename_i hj;rw [if_neg hj] at this;exact mrgO_ok this
     |_=>exact mrgO_ok this
  ·simp only [Option.some.injEq] at h;subst h;exact AW_label ⟨st,rfl,hst⟩
  ·simp only [Option.some.injEq] at h;subst h;exact AW_goto ⟨st,rfl,hst⟩
  ·split at h
   ·cases h
   ·rename_i x1 hx1
    split at h
    ·cases h
    ·rename_i y hy
     simp only [Option.some.injEq] at h;subst h
     refine AW_scope (AScope_step (AW.mono (sCode_ok hm hX hI hρ _ _ _ _ hx1 hp (sides_l hs) (aws_l ha) fr ah nx hst) fun e fr ah nx hsel=>?_))
     have key:=sJmp_ok (fun c=>sCode_ok hm hX hI hρ) (fun _ _ _ _ _ h=>sCode_ne h) hy hp (sides_r hs) (aws_r ha) e fr ah nx hsel
     cases e with
     |goto m=>
      simp only [AScQ] at key ⊢
      split
      ·rename_i r hr;rw [hr] at key;exact AScope.mono key fun e fr ah nx h=>mrgO_ok h
      ·rename_i hr;rw [hr] at key;exact mrgO_ok key
     |_=>exact mrgO_ok key
  ·exact AW_rounds (sLoop_ok (sCode_ok hm hX hI hρ) _ _ _ _ h hp hs ha fr ah nx hst)
  ·cases h
end
end Go.Fw
end
section
set_option linter.unusedVariables false
set_option linter.unusedSimpArgs false
set_option linter.unusedSectionVars false
namespace Go.Fw
variable [Glob]
set_option linter.unusedSimpArgs false
set_option linter.unusedVariables false
set_option linter.unusedSectionVars false
def initT : Nat→List SV→Tr Ent
 |_,[]=>.e
 |i,a::r=>(initT (i+1) r).upd fuelT i (some ⟨[],a⟩)
def sRes (P:Program)(pc:Pc)(st:St'):Nat→List ResultVar→Option (List SV×Nat×List Side)
 |nv,[]=>some ([],nv,[])
 |nv,.tmp t::r=>match evS pc st.fr (.tmp t) with
  |none=>none
  |some v=>match sRes P pc st nv r with
   |none=>none
   |some (l,nv',sd)=>some (v::l,nv',sd)
 |nv,.cell t ty::r=>match evS pc st.fr (.tmp t) with
  |none=>none
  |some p=>match sLoad P pc st.ah nv ty p with
   |none=>none
   |some x=>match sRes P pc st x.nv r with
    |none=>none
    |some (l,nv',sd)=>some (x.v::l,nv',x.sd++sd)
def oneV : List SV→SV
 |[a]=>a
 |l=>.tup l
def isEnd : Exit→Bool | .normal | .ret=>true|_=>false
structure Lf where
 v:SV
 th:Tr SB
 nx:Nat
 nv:Nat
 sd:List (Pc×Sd)
def sLeaf (P:Program)(rs:List ResultVar)(pc:Pc)(nv:Nat)(o:Out):Option Lf:=
 bif isEnd o.e then
  match sRes P pc o.st nv rs with
  |none=>none
  |some (l,nv',sd)=>some ⟨oneV l,o.st.ah,o.st.nx,nv',tagX pc sd []⟩
 else none
structure EQ where
 outs:List (Tm×CO)
 nv:Nat
 sd:List (Pc×Sd)
def mrgC (low:Nat)(g:Tm)(c d:CO):Option CO:=
 match mrgV g c.v d.v with
 |none=>none
 |some v=>
  let th:=Tr.mrg (mrgSB g) c.th d.th
  bif lossB low v.rfs c.th d.th th then none else some ⟨v,th,Nat.max c.nx d.nx⟩
def mrgH (low:Nat)(g:Tm)(c:CO):List (Tm×CO)→List (Tm×CO)
 |[]=>[(g,c)]
 |x::r=>match mrgC low g c x.2 with
  |some m=>(mkOr g x.1,m)::r
  |none=>(g,c)::x::r
def sEnds (P:Program)(low:Nat)(rs:List ResultVar):Pc→Nat→List Out→Option EQ
 |_,_,[]=>none
 |pc,nv,[o]=>match sLeaf P rs pc nv o with
  |none=>none
  |some x=>some ⟨[(.lb true,⟨x.v,x.th,x.nx⟩)],x.nv,x.sd⟩
 |pc,nv,o::o'::r=>match sLeaf P rs (addPc o.g true pc) nv o with
  |none=>none
  |some x=>match sEnds P low rs (addPc o.g false pc) x.nv (o'::r) with
   |none=>none
   |some y=>some ⟨mrgH low o.g ⟨x.v,x.th,x.nx⟩ y.outs,y.nv,x.sd++y.sd⟩
def goodName (fn:Func):Bool:=decide (fn.name≠ "runtime.NumGoroutine")
abbrev Md :=FuncId→Nat
def is2 (md:Md):FuncId→Bool:=fun f=>Nat.beq (md f) 2
def awX (l:List Lo):List (Pc×Sd):=l.map fun x=>([],.l x)
theorem awX_ok {P:Program}{ρ:List AV}:∀{l:List Lo},SidesX P ρ (awX l)→LoL P l ρ
 |[],_=>trivial
 |x::r,h=>⟨h ([],.l x) (by simp [awX]) (fun y hy=>by cases hy),awX_ok (l:=r) fun y hy=>h y (by simp [awX] at hy ⊢;exact .inr hy)⟩
def deadV : SV→Bool
 | .tup (.agg [.nil]::_) | .tup (.agg [.slc [] _]::_)=>true
 |_=>false
def dropN (c:Bool):Pc→List (Tm×CO)→List (Tm×CO)×List (Pc×Sd)
 |pc,o::o'::r=>bif c&&deadV o.2.v then ((dropN c (addPc o.1 false pc) (o'::r)).1,(addPc o.1 true pc,.s (.tm (.lb false)))::(dropN c (addPc o.1 false pc) (o'::r)).2)
  else (o::(dropN c (addPc o.1 false pc) (o'::r)).1,(dropN c (addPc o.1 false pc) (o'::r)).2)
 |_,l=>(l,[])
theorem dropN_ok {P:Program}{ρ:List AV}{c:Bool}{d:CO}:∀{l:List (Tm×CO)} {pc:Pc},pc.holds ρ→SidesX P ρ (dropN c pc l).2→selG ρ l=some d→selG ρ (dropN c pc l).1=some d
 |[],pc,hp,hs,h=>by simp [selG] at h
 |[o],pc,hp,hs,h=>h
 |o::o'::r,pc,hp,hs,h=>by
  simp only [dropN] at hs ⊢
  cases hc:c&&deadV o.2.v
  ·simp only [hc,cond_false] at hs ⊢
   cases hg:(o.1.den ρ).B
   ·have h':selG ρ (o'::r)=some d:=by simpa [selG,hg] using h
    have ih:=dropN_ok (l:=o'::r) (addPc_holds hg hp) hs h'
    generalize (dropN c (addPc o.1 false pc) (o'::r)).1=q at ih ⊢
    cases q with
    |nil=>simp [selG] at ih
    |cons z q=>simpa [selG,hg] using ih
   ·have h':o.2=d:=by simpa [selG,hg] using h
    generalize (dropN c (addPc o.1 false pc) (o'::r)).1=q
    cases q with
    |nil=>simp [selG,h']
    |cons z q=>simp [selG,hg,h']
  ·simp only [hc,cond_true] at hs ⊢
   cases hg:(o.1.den ρ).B
   ·have h':selG ρ (o'::r)=some d:=by simpa [selG,hg] using h
    exact dropN_ok (l:=o'::r) (addPc_holds hg hp) (fun x hx=>hs x (List.mem_cons_of_mem _ hx)) h'
   ·have:=hs _ List.mem_cons_self (addPc_holds hg hp)
    exact absurd this (by show ¬(Tm.den ρ (.lb false)).B=true;simp [Tm.den,D.B])
def inlOf (P:Program)(I0:Inl)(L:Ext'×Inl)(md:Md)(FC:FuncId→FCfg)(unr CF:Nat):Inl:=fun pc th nx nv f args=>
 match I0 pc th nx nv f args with
 |some R=>some R
 |none=>
  match P.funcs[f]? with
  |none=>none
  |some fn=>match fn.body with
   |none=>none
   |some c=>bif goodName fn&&Nat.ble args.length fn.ntmps then
     match sCode P ⟨L.1,is2 md,L.2,unr⟩ {FC f with N:=fn.ntmps,keep:=⟨(FC f).keep.ks,nx⟩} CF pc ⟨initT 0 args,th,nx⟩ nv c with
     |none=>none
     |some x=>match sEnds P nx fn.results.toList pc x.nv x.outs with
      |none=>none
      |some y=>some ⟨(dropN ((FC f).loops 999999).isSome pc y.outs).1,y.nv,awX x.aw++((x.sd++y.sd)++(dropN ((FC f).loops 999999).isSome pc y.outs).2)⟩
    else none
def frzArg (FC:FuncId→FCfg)(inl:Inl):Inl:=fun pc th nx nv f args=>
 bif ((FC f).loops 999998).isSome&&!clnL args then
  match sfrzL (thN th deep) (preL th nv args).1,rchS th deep (rfsL args) with
  |some az,some rd=>match inl pc (wrT th (dropS rd)) nx (preL th nv args).2.1 f (nrmL az) with
   |some R=>some ⟨R.outs,R.nv,(preL th nv args).2.2.map (fun s=>(pc,Sd.s s))++R.sd⟩
   |none=>none
  |_,_=>none
 else inl pc th nx nv f args
theorem frzArg_ok {P:Program}{FC:FuncId→FCfg}{inl:Inl}{ρ:List AV}(hρ:fzL ρ=true)(hI:InlOk P ρ inl):InlOk P ρ (frzArg FC inl):=by
 intro pc th nx nv f args R h hp hs base w E ah vs hah hh hG hrep o a he next Q hnext
 unfold frzArg at h
 cases hc:((FC f).loops 999998).isSome&&!clnL args
 ·simp only [hc,cond_false] at h
  exact hI _ _ _ _ _ _ _ h hp hs base w E ah vs hah hh hG hrep o a he next Q hnext
 ·simp only [hc,cond_true] at h
  split at h
  rotate_left
  ·cases h
  rename_i az rd has hrd
  split at h
  rotate_left
  ·cases h
  rename_i R' hR
  simp only [Option.some.injEq] at h;subst h
  have hpre:∀s∈(preL th nv args).2.2,s.holds P ρ:=fun s hm=>hs (pc,.s s) (List.mem_append_left _ (List.mem_map.2 ⟨s,hm,rfl⟩)) hp
  have hfz:=(preL_den hρ hah hpre).trans (frzL_den hρ (thN_den hρ hah deep) has)
  have hrd2:rch ah deep (refsL (denL ρ args))=rd:=by rw [rfsL_den hρ,rchS_den hρ hah deep hrd]
  have hg:=goneL_rep hh hrep hfz
  rw [hrd2] at hg
  have e:(dropS rd).map (fun x=>(x.1,x.2.map (SB.den ρ)))=dropW rd:=by
   unfold dropS dropW
   rw [List.map_map]
   rfl
  have hah2:=AhR_wr (wr:=dropS rd) hah
  rw [e] at hah2
  have hrep1:RepL w (goneE E ah rd) (denL ρ (nrmL az)) vs:=RepL.weak (nrmL_weak (ρ:=ρ)).length (fun i a b h1 h2=>((nrmL_weak (ρ:=ρ)).get i a b h1 h2).1)
   ⟨hg.1,fun i a v h1 h2=>free_rep (fun _ _ h=>h) (hg.2 i a v h1 h2)⟩
  exact hI _ _ _ _ _ _ _ hR hp (fun x hx=>hs x (List.mem_append_right _ hx)) base w (goneE E ah rd) _ vs hah2 (gone_heap hh rd) (hG.mono (fun _ _ h=>.inl h) (fun _ _ _=>rfl) (fun _ arr _ fz h=>⟨arr,fz,h,rfl⟩)) hrep1 o a he next Q
   (fun c hc v w' E' ah' q1 q2 q3 q4=>hnext c hc v w' E' ah' q1 ((gone_step hh rd).trans q2) q3 q4)
def lastG (g:Tm):List Out→Tm
 |[]=>.lb true
 |_::_=>g
def sOutsN (P:Program)(rs:List ResultVar):Pc→Nat→List Out→Option (List (Tm×SV)×Nat×List (Pc×Sd))
 |_,nv,[]=>some ([],nv,[])
 |pc,nv,o::r=>match sLeaf P rs (addPc (lastG o.g r) true pc) nv o with
  |none=>none
  |some x=>match (preF x.th x.nv x.v).1.frz (thN x.th deep) with
   |none=>none
   |some v=>match sOutsN P rs (addPc o.g false pc) (preF x.th x.nv x.v).2.1 r with
    |none=>none
    |some (l,nv',sd)=>some ((o.g,v.nrm)::l,nv',(x.sd++tagX (addPc (lastG o.g r) true pc) (preF x.th x.nv x.v).2.2 [])++sd)
def mrgR : List (Tm×SV)→Option SV
 |[]=>none
 |[x]=>some x.2
 |x::y::r=>match mrgR (y::r) with
  |none=>none
  |some v=>mrgV x.1 x.2 v
 mutual
def SV.lit : SV→Bool
  | .sc _ t=>(match t with | .lb _ | .li _ | .lf _ | .ls _ | .nl=>true|_=>false)
  | .c _ | .nil | .nan | .mp _=>true
  | .sf t=>(match t with | .nl=>true|_=>false)
  | .agg l | .tup l=>litL l
  | .slc r _=>litLL r
  | .vp r _=>litL r
  | .fn _ x y=>litL x&&litL y
  | .ifc _ v=>v.lit
  | .os _ _ _ t=>(match t with | .li _=>true|_=>false)
  | .op _ _ t _=>(match t with | .li _=>true|_=>false)
  | .ost ..=>false
def litL : List SV→Bool
  |[]=>true
  |x::r=>x.lit&&litL r
def litLL : List (List SV)→Bool
  |[]=>true
  |x::r=>litL x&&litLL r
end
 mutual
def SV.own1 (th:Tr SB):SV→Bool
  | .sc .sl _=>false
  | .sc _ _=>true
  | .c _ | .nil | .nan=>true
  | .agg l | .tup l=>own1L th l
  | .ifc _ v=>v.own1 th
  | .slc [] _=>true
  | .os b _ _ _=>match th.get b with|some (.rows _ rs)=>rs.all fltL|_=>false
  |_=>false
def own1L (th:Tr SB):List SV→Bool
  |[]=>true
  |x::r=>x.own1 th&&own1L th r
end
def sNewMem (P:Program)(rs:List ResultVar):Pc→Nat→List Out→Bool
 |_,_,[]=>true
 |pc,nv,o::r=>match sLeaf P rs (addPc (lastG o.g r) true pc) nv o with
  |none=>false
  |some x=>x.v.own1 x.th&&sNewMem P rs (addPc o.g false pc) (preF x.th x.nv x.v).2.1 r
def pureOf (P:Program)(X0:Ext')(L:Ext'×Inl)(md:Md)(FC:FuncId→FCfg)(unr CF:Nat):Ext':=fun pc nv f args=>
 bif Nat.beq (md f) 1||(Nat.beq (md f) 3&&litL args) then
  match P.funcs[f]? with
  |none=>none
  |some fn=>match fn.body with
   |none=>none
   |some c=>bif goodName fn&&Nat.ble args.length fn.ntmps then
     match sCode P ⟨L.1,is2 md,L.2,unr⟩ {FC f with N:=fn.ntmps} CF pc ⟨initT 0 args,.e,0⟩ nv c with
     |none=>none
     |some x=>bif x.aw.isEmpty then
       match sOutsN P fn.results.toList pc x.nv x.outs with
       |none=>none
       |some (l,nv',sd)=>match (bif noL (x.sd++sd) then mrgR l else none) with
        |none=>none
        |some v=>some (v,nv',exS (x.sd++sd),sNewMem P fn.results.toList pc x.nv x.outs)
      else none
    else none
 else X0 pc nv f args
def sLvI (P:Program)(X0:Ext')(I0:Inl)(md:Md)(FC:FuncId→FCfg)(unr CF:Nat):Nat→Ext'×Inl
 |0=>(X0,I0)
 |n+1=>(pureOf P X0 (sLvI P X0 I0 md FC unr CF n) md FC unr CF,frzArg FC (inlOf P I0 (sLvI P X0 I0 md FC unr CF n) md FC unr CF))
section
variable {P : Program} {ρ:List AV} {N:Nat}
theorem Sim.canon {base:Nat}{w:World}{E:Env}{fr:AFr}{ah:AH}{nx:Nat}{a:Act}{st:St'}(hs:StW ρ N st fr ah nx)(hsim:Sim base w E fr ah nx a) :
  ∃fr0,FrR ρ st.fr fr0∧AhR ρ st.ah (toAh ρ st.ah)∧fr0.length=N∧Sim base w E fr0 (toAh ρ st.ah) st.nx a:=by
 have hf:FrR ρ st.fr (toFr ρ N st.fr):=by
  intro t e he
  obtain ⟨a,ha,-⟩:=hs.fr t e he
  have:=fget_lt ha
  rw [hs.len] at this
  rw [fget_toFr,if_pos this,he];rfl
 have ha:AhR ρ st.ah (toAh ρ st.ah):=fun b k hk=>by unfold toAh;rw [hk];rfl
 refine ⟨_,hf,ha,by simp [toFr],⟨fun b k hb=>?_,fun b b' k k' c o c' o' hne h1 h2=>?_,fun b hb=>hsim.heap.fresh b (Nat.le_trans hs.nx hb),hsim.heap.fixlt,hsim.heap.bs,hsim.heap.ownlt⟩,⟨?_,fun i x hx=>?_,hsim.fr.glob⟩,hsim.defers⟩
 ·unfold toAh at hb
  simp only [Option.map_eq_some_iff] at hb
  obtain ⟨k1,hk1,rfl⟩:=hb
  obtain ⟨k0,h0,hw⟩:=hs.ah b k1 hk1
  exact hw _ _ _ _ (hsim.heap.blk b k0 h0)
 ·unfold toAh at h1 h2
  simp only [Option.map_eq_some_iff] at h1 h2
  obtain ⟨k1,hk1,rfl⟩:=h1
  obtain ⟨k2,hk2,rfl⟩:=h2
  obtain ⟨j1,q1,-⟩:=hs.ah b k1 hk1
  obtain ⟨j2,q2,-⟩:=hs.ah b' k2 hk2
  exact hsim.heap.sep b b' j1 j2 c o c' o' hne q1 q2
 ·have:=hsim.fr.size
  rw [hs.len] at this
  simpa [toFr] using this
 ·rw [fget_toFr] at hx
  split at hx
  ·simp only [Option.map_eq_some_iff] at hx
   obtain ⟨e,he,rfl⟩:=hx
   obtain ⟨y,hy,hw⟩:=hs.fr i e he
   obtain ⟨v,hv,hr⟩:=hsim.fr.get i y hy
   exact ⟨v,hv,hw _ _ _ hr⟩
  ·cases hx
theorem sRes_ok {pc:Pc}{st:St'}{fr:AFr}{ah:AH}(hp:pc.holds ρ)(hf:FrR ρ st.fr fr)(ha:AhR ρ st.ah ah):∀{l:List ResultVar} {nv nv':Nat} {vs:List SV} {sd:List Side},sRes P pc st nv l=some (vs,nv',sd)→(∀s∈sd,s.holds P ρ)→
  ∀{k:List AV→Prop},k (denL ρ vs)→aResults P fr ah l k
 |[],nv,nv',vs,sd,h,hs,k,hk=>by
  simp only [sRes,Option.some.injEq,Prod.mk.injEq] at h
  obtain ⟨rfl,rfl,rfl⟩:=h
  exact hk
 | .tmp t::r,nv,nv',vs,sd,h,hs,k,hk=>by
  simp only [sRes] at h
  split at h
  ·cases h
  ·rename_i v hv
   split at h
   ·cases h
   ·rename_i l nv1 sd1 hl
    simp only [Option.some.injEq,Prod.mk.injEq] at h
    obtain ⟨rfl,rfl,rfl⟩:=h
    exact withO_iff.2 ⟨_,evS_ev hp hf hv,sRes_ok hp hf ha hl hs hk⟩
 | .cell t ty::r,nv,nv',vs,sd,h,hs,k,hk=>by
  simp only [sRes] at h
  split at h
  ·cases h
  ·rename_i p hv
   split at h
   ·cases h
   ·rename_i x hx
    split at h
    ·cases h
    ·rename_i l nv1 sd1 hl
     simp only [Option.some.injEq,Prod.mk.injEq] at h
     obtain ⟨rfl,rfl,rfl⟩:=h
     exact withO_iff.2 ⟨_,evS_ev hp hf hv,sLoad_ok ha hx (fun s hm=>hs s (by simp [hm])) (sRes_ok hp hf ha hl (fun s hm=>hs s (by simp [hm])) hk)⟩
theorem oneV_den {l:List SV}:one (denL ρ l)=(oneV l).den ρ:=by
 match l with
 |[]=>rfl
 |[a]=>rfl
 |a::b::r=>rfl
def EndV (P:Program)(fn:Func)(base:Nat)(w:World)(E:Env)(v:AV)(ah:AH)(nx:Nat)(a':Act)(w':World):Prop:=
 a'.defers=[]∧∃E' val,(results fn a'.tmps).run P w'=.ok val w'∧Rep w' E' v val∧Step base w E w' E'∧HeapOk base w' E' ah (fun b=>nx≤b)
theorem EndV.weak {fn:Func}{base:Nat}{w:World}{E:Env}{v v':AV}{ah ah':AH}{nx nx':Nat}{a':Act}{w':World}(h:EndV P fn base w E v ah nx a' w')(hv:Weak v v')(hah:∀b k',ah' b=some k'→∃k,ah b=some k∧WeakB k k')(hn:nx≤nx') :
  EndV P fn base w E v' ah' nx' a' w':=by
 obtain ⟨h0,E',val,h1,h2,h3,h4⟩:=h
 refine ⟨h0,E',val,h1,hv _ _ _ h2,h3,⟨fun b k hb=>?_,fun b b' k k' c o c' o' hne q1 q2=>?_,fun b hb=>h4.fresh b (Nat.le_trans hn hb),h4.fixlt,h4.bs,h4.ownlt⟩⟩
 ·obtain ⟨k0,q,hw⟩:=hah b k hb;exact hw _ _ _ _ (h4.blk b k0 q)
 ·obtain ⟨j1,e1,-⟩:=hah b k q1
  obtain ⟨j2,e2,-⟩:=hah b' k' q2
  exact h4.sep b b' j1 j2 c o c' o' hne e1 e2
theorem results_eq (fn:Func)(tmps:Array Value):results fn tmps=(do
  let vs ← fn.results.mapM (resOf tmps)
  pure (if h:vs.size=1 then vs[0] else .tuple vs)):=by
 unfold results
 congr 1
theorem sLeaf_ok {fn:Func}{pc:Pc}{nv:Nat}{o:Out}{x:Lf}(h:sLeaf P fn.results.toList pc nv o=some x)(hp:pc.holds ρ)(hs:SidesX P ρ x.sd){base:Nat}{w w':World}{E E':Env}{fr:AFr}{ah:AH}{nx:Nat}{a':Act}
  (hst:StW ρ N o.st fr ah nx) (hsim:Sim base w' E' fr ah nx a') (hstep:Step base w E w' E'):isEnd o.e=true∧EndV P fn base w E (x.v.den ρ) (toAh ρ x.th) x.nx a' w':=by
 unfold sLeaf at h
 cases he:isEnd o.e
 ·simp [he] at h
 ·simp only [he,cond_true] at h
  split at h
  ·cases h
  ·rename_i l nv' sd hl
   simp only [Option.some.injEq] at h;subst h
   refine ⟨rfl,?_⟩
   obtain ⟨fr0,hf,hah,hN,hsim0⟩:=Sim.canon hst hsim
   have hres:=sRes_ok (P:=P) hp hf hah hl ((tagX_ok hs).1 hp) (k:=fun az=>az=denL ρ l) rfl
   obtain ⟨az,vs',rfl,hrun,hrep⟩:=aResults_run hsim0 hres
   refine ⟨hsim0.defers,E',(if h:vs'.toArray.size=1 then vs'.toArray[0] else .tuple vs'.toArray),?_,?_,hstep,hsim0.heap⟩
   ·rw [results_eq,Array.mapM_eq_mapM_toList,Sem.run_bind,Sem.run_map,hrun]
    rfl
   ·have:=one_rep hrep
    rw [oneV_den] at this
    exact this
theorem toAh_mrg {g:Tm}{x y:Tr SB}:∀b k',toAh ρ (Tr.mrg (mrgSB g) x y) b=some k'→(bif (g.den ρ).B then (∃k,toAh ρ x b=some k∧WeakB k k') else (∃k,toAh ρ y b=some k∧WeakB k k'))=True:=by
 intro b k' h
 unfold toAh at h
 simp only [Option.map_eq_some_iff] at h
 obtain ⟨z,hz,rfl⟩:=h
 obtain ⟨u,v,h1,h2,h3⟩:=Tr.get_mrg hz
 have:=mrgSB_weak (ρ:=ρ) h3
 cases hg:(g.den ρ).B
 ·rw [hg] at this
  simp only [cond_false,eq_iff_iff,iff_true]
  exact ⟨_,by unfold toAh;rw [h2];rfl,this⟩
 ·rw [hg] at this
  simp only [cond_true,eq_iff_iff,iff_true]
  exact ⟨_,by unfold toAh;rw [h1];rfl,this⟩
theorem mrgC_ok {low:Nat}{g:Tm}{c d m:CO}(h:mrgC low g c d=some m){fn:Func}{base:Nat}{w w':World}{E:Env}{a':Act}
  (hq:bif (g.den ρ).B then EndV P fn base w E (c.v.den ρ) (toAh ρ c.th) c.nx a' w' else EndV P fn base w E (d.v.den ρ) (toAh ρ d.th) d.nx a' w'):EndV P fn base w E (m.v.den ρ) (toAh ρ m.th) m.nx a' w':=by
 unfold mrgC at h
 split at h
 ·cases h
 ·rename_i v hv
  dsimp only at h
  generalize (lossB low v.rfs c.th d.th _)=q at h
  cases q
  ·simp only [cond_false,Option.some.injEq] at h;subst h
   have hw:=(mrgV_ok (ρ:=ρ) hv).1
   have hm:=toAh_mrg (ρ:=ρ) (g:=g) (x:=c.th) (y:=d.th)
   cases hg:(g.den ρ).B
   ·rw [hg] at hq hw hm
    exact EndV.weak hq hw (fun b k' hk=>of_eq_true (hm b k' hk)) (Nat.le_max_right _ _)
   ·rw [hg] at hq hw hm
    exact EndV.weak hq hw (fun b k' hk=>of_eq_true (hm b k' hk)) (Nat.le_max_left _ _)
  ·cases h
theorem mrgH_ok {low:Nat}{g:Tm}{c:CO}{l:List (Tm×CO)}(hl:l≠[]){fn:Func}{base:Nat}{w w':World}{E:Env}{a':Act}
  (hq:bif (g.den ρ).B then EndV P fn base w E (c.v.den ρ) (toAh ρ c.th) c.nx a' w' else ∃d,selG ρ l=some d∧EndV P fn base w E (d.v.den ρ) (toAh ρ d.th) d.nx a' w') :
  ∃d,selG ρ (mrgH low g c l)=some d∧EndV P fn base w E (d.v.den ρ) (toAh ρ d.th) d.nx a' w':=by
 match l,hl with
 |x::r,_=>
  simp only [mrgH]
  cases hm:mrgC low g c x.2 with
  |none=>
   dsimp only
   simp only [selG]
   cases hg:(g.den ρ).B
   ·rw [hg] at hq;exact hq
   ·rw [hg] at hq;exact ⟨_,rfl,hq⟩
  |some m=>
   dsimp only
   have hmk:=fun h=>mrgC_ok (P:=P) (ρ:=ρ) hm (fn:=fn) (base:=base) (w:=w) (w':=w') (E:=E) (a':=a') h
   cases hg:(g.den ρ).B
   ·rw [hg] at hq hmk
    simp only [cond_false] at hq hmk
    obtain ⟨d,h1,h2⟩:=hq
    cases r with
    |nil=>
     simp only [selG,Option.some.injEq] at h1;subst h1
     exact ⟨m,rfl,hmk h2⟩
    |cons y r=>
     simp only [selG,mkOr_den,hg,Bool.false_or] at h1 ⊢
     cases hx:(x.1.den ρ).B
     ·rw [hx] at h1;exact ⟨d,h1,h2⟩
     ·rw [hx] at h1
      simp only [cond_true,Option.some.injEq] at h1;subst h1
      exact ⟨m,rfl,hmk h2⟩
   ·rw [hg] at hq hmk
    simp only [cond_true] at hq hmk
    cases r with
    |nil=>exact ⟨m,rfl,hmk hq⟩
    |cons y r=>exact ⟨m,by simp only [selG,mkOr_den,hg,Bool.true_or,cond_true],hmk hq⟩
theorem mrgH_ne {low:Nat}{g:Tm}{c:CO}{l:List (Tm×CO)}:mrgH low g c l≠[]:=by
 cases l with
 |nil=>simp [mrgH]
 |cons x r=>simp only [mrgH];split<;>simp
theorem sEnds_ne {low:Nat}{rs:List ResultVar}:∀{l:List Out} {pc:Pc} {nv:Nat} {x:EQ},sEnds P low rs pc nv l=some x→x.outs≠[]
 |[],pc,nv,x,h=>by simp [sEnds] at h
 |[o],pc,nv,x,h=>by
  simp only [sEnds] at h
  split at h
  ·cases h
  ·simp only [Option.some.injEq] at h;subst h;simp
 |o::o'::r,pc,nv,x,h=>by
  simp only [sEnds] at h
  split at h
  ·cases h
  ·split at h
   ·cases h
   ·simp only [Option.some.injEq] at h;subst h;exact mrgH_ne
theorem sEnds_ok {fn:Func}{low:Nat}:∀{l:List Out} {pc:Pc} {nv:Nat} {x:EQ},sEnds P low fn.results.toList pc nv l=some x→pc.holds ρ→SidesX P ρ x.sd→∀{base:Nat} {w w':World} {E E':Env} {fr:AFr} {ah:AH} {nx:Nat} {a':Act} {e:Exit},
  Sel ρ N l e fr ah nx→Sim base w' E' fr ah nx a'→Step base w E w' E'→isEnd e=true∧∃d,selG ρ x.outs=some d∧EndV P fn base w E (d.v.den ρ) (toAh ρ d.th) d.nx a' w'
 |[],pc,nv,x,h,_,_,_,_,_,_,_,_,_,_,_,_,_,_,_=>by simp [sEnds] at h
 |[o],pc,nv,x,h,hp,hs,base,w,w',E,E',fr,ah,nx,a',e,hsel,hsim,hstep=>by
  obtain ⟨st,h1,h2⟩:=hsel
  simp only [sel,Option.some.injEq,Prod.mk.injEq] at h1
  obtain ⟨rfl,rfl⟩:=h1
  simp only [sEnds] at h
  split at h
  ·cases h
  ·rename_i y hy
   simp only [Option.some.injEq] at h;subst h
   obtain ⟨q1,q2⟩:=sLeaf_ok (P:=P) hy hp hs h2 hsim hstep
   exact ⟨q1,_,rfl,q2⟩
 |o::o'::r,pc,nv,x,h,hp,hs,base,w,w',E,E',fr,ah,nx,a',e,hsel,hsim,hstep=>by
  obtain ⟨st,h1,h2⟩:=hsel
  simp only [sel] at h1
  simp only [sEnds] at h
  split at h
  ·cases h
  ·rename_i y hy
   split at h
   ·cases h
   ·rename_i z hz
    simp only [Option.some.injEq] at h;subst h
    have hzn:=sEnds_ne hz
    cases hg:(o.g.den ρ).B
    ·rw [hg] at h1
     obtain ⟨q1,q2⟩:=sEnds_ok hz (addPc_holds hg hp) (sides_r hs) ⟨st,h1,h2⟩ hsim hstep
     exact ⟨q1,mrgH_ok (P:=P) hzn (by rw [hg];exact q2)⟩
    ·rw [hg] at h1
     simp only [cond_true,Option.some.injEq,Prod.mk.injEq] at h1
     obtain ⟨rfl,rfl⟩:=h1
     obtain ⟨q1,q2⟩:=sLeaf_ok (P:=P) hy (addPc_holds hg hp) (sides_l hs) h2 hsim hstep
     exact ⟨q1,mrgH_ok (P:=P) hzn (by rw [hg];exact q2)⟩
theorem get_initT : ∀{l:List SV} {i t:Nat} {e:Ent},(initT i l).get t=some e→∃j a,t=i+j∧l[j]?=some a∧e=⟨[],a⟩
 |[],i,t,e,h=>by simp [initT,Tr.get] at h
 |a::r,i,t,e,h=>by
  simp only [initT] at h
  rcases Tr.get_upd _ _ _ _ _ _ h with ⟨rfl,h1⟩|⟨-,h1⟩
  ·simp only [Option.some.injEq] at h1;exact ⟨0,a,rfl,rfl,h1.symm⟩
  ·obtain ⟨j,b,rfl,h2,h3⟩:=get_initT h1
   exact ⟨j+1,b,by omega,by simpa using h2,h3⟩
theorem fget_args : ∀(l:List AV) (m i:Nat),fget (l.map some++List.replicate m none) i=l[i]?
 |[],0,i=>by simp [fget]
 |[],m+1,0=>by simp [List.replicate_succ,fget]
 |[],m+1,i+1=>by
  have:=fget_args [] m i
  simp only [List.map_nil,List.nil_append,List.replicate_succ,fget] at this ⊢
  rw [this];simp
 |a::l,m,0=>by simp [fget]
 |a::l,m,i+1=>by
  have:=fget_args l m i
  simp only [List.map_cons,List.cons_append,fget] at this ⊢
  rw [this];simp
def argFr (N:Nat)(l:List AV):AFr:=l.map some++List.replicate (N-l.length) none
theorem FrR_init {l:List SV}:FrR ρ (initT 0 l) (argFr N (denL ρ l)):=by
 intro t e he
 obtain ⟨j,a,rfl,h1,rfl⟩:=get_initT he
 rw [argFr,fget_args,denL_map,List.getElem?_map]
 simp [h1,Ent.den]
theorem argFr_length {l:List AV}(h:l.length≤N):(argFr N l).length=N:=by simp [argFr];omega
theorem args_frOk {w:World}{E:Env}{l:List AV}{vs:List Value}(hG:GOk w E.fix)(h:RepL w E l vs)(hN:l.length≤N):FrOk w E (argFr N l) (vs.toArray++Array.replicate (N-vs.toArray.size) undef):=by
 refine ⟨?_,fun i x hx=>?_,hG⟩
 ·simp [argFr,h.1]
 ·rw [argFr,fget_args] at hx
  have hi:=(List.getElem?_eq_some_iff.1 hx).1
  have hvl:i<vs.length:=by rw [← h.1];exact hi
  refine ⟨vs[i],?_,h.2 i x _ hx (by simp [hvl])⟩
  rw [Array.getElem?_append_left (by simpa using hvl)]
  simp [hvl]
theorem inlOf_ok {I0:Inl}{L:Ext'×Inl}{md:Md}{FC:FuncId→FCfg}{unr CF:Nat}(hm:P.follows .mixedOrders=true)(h0:∀σ:List AV,fzL σ=true→InlOk P σ I0)(hX:∀σ:List AV,fzL σ=true→ExtOk P σ L.1)(hI:∀σ:List AV,fzL σ=true→InlOk P σ L.2)(hρ:fzL ρ=true) :
 InlOk P ρ (inlOf P I0 L md FC unr CF):=fun pc th nx nv f args R h hp hs base w E ah vs hah hh hG hrep o a he next Q hnext=>by
 simp only [inlOf] at h
 split at h
 ·rename_i R0 hR0
  simp only [Option.some.injEq] at h;subst h
  exact h0 ρ hρ _ _ _ _ _ _ _ hR0 hp hs _ _ _ _ _ hah hh hG hrep o a he next Q hnext
 split at h
 ·cases h
 ·rename_i fn hfn
  split at h
  ·cases h
  ·rename_i c hc
   cases hg:goodName fn&&Nat.ble args.length fn.ntmps
   ·simp [hg] at h
   ·simp only [hg,cond_true] at h
    simp only [Bool.and_eq_true] at hg
    have hname:fn.name≠ "runtime.NumGoroutine" :=by simpa [goodName] using hg.1
    have hlen:=Nat.le_of_ble_eq_true hg.2
    split at h
    ·cases h
    ·rename_i x hx
     ·split at h
      ·cases h
      ·rename_i y hy
       simp only [Option.some.injEq] at h;subst h
       have hawOk:AwOk P ρ x.aw:=awX_ok (sides_l hs)
       have hdr:=sides_r (sides_r hs)
       have hs:=sides_l (sides_r hs)
       have hlenA:(denL ρ args).length≤fn.ntmps:=by rw [denL_length];exact hlen
       have hst:StW ρ fn.ntmps ⟨initT 0 args,th,nx⟩ (argFr fn.ntmps (denL ρ args)) ah nx:=StW.of FrR_init hah (argFr_length hlenA) (Nat.le_refl _)
       have haw':=sCode_ok (G:=⟨L.1,is2 md,L.2,unr⟩) (F:={FC f with N:=fn.ntmps,keep:=⟨(FC f).keep.ks,nx⟩}) hm hX hI hρ _ _ _ _ hx hp (sides_l hs) hawOk _ _ _ hst
       have hsim:Sim base w E (argFr fn.ntmps (denL ρ args)) ah nx {tmps:=vs.toArray++Array.replicate (fn.ntmps-vs.toArray.size) undef,defers:=[]}:=
        ⟨hh,args_frOk hG hrep hlenA,rfl⟩
       have hcall:(callFunc f vs.toArray).run P w=.ok (.enter f vs.toArray) w:=by
        have e1:(fn.name == "runtime.NumGoroutine")=false:=by simpa using hname
        have e2:fn.body.isNone=false:=by rw [hc];rfl
        simp only [callFunc,Sem.run_bind,run_program,Result.andThen_ok,hfn,e1,Bool.false_eq_true,if_false,e2,Sem.run_pure]
       unfold Oper.wp
       rw [he,hcall]
       have hcalls:Calls P f vs.toArray w fun e w'=>∃d v E',selG ρ y.outs=some d∧e=.returned v∧Step base w E w' E'∧HeapOk base w' E' (toAh ρ d.th) (fun b=>d.nx≤b)∧Rep w' E' (d.v.den ρ) v:=by
        refine calls_of_wp hfn hc (wp_mono (haw' base w E _ hsim) fun e a' w' hp'=>?_)
        obtain ⟨E',fr',ah',nx',hsel,hsim',hstep⟩:=hp'
        obtain ⟨q1,d,hd,q2⟩:=sEnds_ok (P:=P) (fn:=fn) hy hp (sides_r hs) hsel hsim' hstep
        obtain ⟨h0,E2,val,h1,h2,h3,h4⟩:=q2
        have fin:a'.defers=[]∧∃v,(results fn a'.tmps).run P w'=.ok v w'∧∃d u E',selG ρ y.outs=some d∧Ending.returned v=.returned u∧Step base w E w' E'∧HeapOk base w' E' (toAh ρ d.th) (fun b=>d.nx≤b)∧Rep w' E' (d.v.den ρ) u:=
         ⟨h0,val,h1,d,val,E2,hd,rfl,h3,h4,h2⟩
        cases e<;>first|exact fin|(simp [isEnd] at q1)
       refine hcalls.mono fun e w' hq=>?_
       obtain ⟨d,v,E',hd,rfl,q1,q2,q3⟩:=hq
       exact hnext d (dropN_ok hp hdr hd) v w' E' (toAh ρ d.th) (fun b k hk=>by unfold toAh;rw [hk];rfl) q1 q2 q3
 mutual
theorem own1_den (hρ:fzL ρ=true){th:Tr SB}:∀{x:SV},x.own1 th=true→(x.den ρ).nofx=true∧∀b∈(x.den ρ).refs,∀k,toAh ρ th b=some k→k.flatB=true
  | .sc k t,h=>by cases k<;>first|(simp [SV.own1] at h;done)|exact ⟨rfl,fun b hb=>by cases hb⟩
  | .c v,_=>⟨rfl,fun b hb=>by cases hb⟩
  | .nil,_=>⟨rfl,fun b hb=>by cases hb⟩
  | .nan,_=>⟨rfl,fun b hb=>by cases hb⟩
  | .agg l,h=>by
   have:=own1L_den hρ (l:=l) (by simpa [SV.own1] using h)
   exact ⟨by simpa [SV.den,AV.nofx] using this.1,by simpa [SV.den,AV.refs] using this.2⟩
  | .tup l,h=>by
   have:=own1L_den hρ (l:=l) (by simpa [SV.own1] using h)
   exact ⟨by simpa [SV.den,AV.nofx] using this.1,by simpa [SV.den,AV.refs] using this.2⟩
  | .ifc t v,h=>by
   have:=own1_den hρ (x:=v) (by simpa [SV.own1] using h)
   exact ⟨by simpa [SV.den,AV.nofx] using this.1,by simpa [SV.den,AV.refs] using this.2⟩
  | .slc [] f,_=>⟨rfl,fun b hb=>by cases hb⟩
  | .slc (x::r) f,h=>by simp [SV.own1] at h
  | .os b sz off l,h=>by
   refine ⟨rfl,fun b' hb k hk=>?_⟩
   simp only [SV.den,AV.refs,List.mem_singleton] at hb
   subst hb
   simp only [SV.own1] at h
   unfold toAh at hk
   simp only [Option.map_eq_some_iff] at hk
   obtain ⟨z,hz,rfl⟩:=hk
   rw [hz] at h
   cases z with
   |rows sz rs=>
    simp only [List.all_eq_true] at h
    simp only [SB.den,Blk.flatB,denLL_map,List.all_map,List.all_eq_true]
    intro row hr
    exact fltL_den (h row hr)
   |rowsT sz t=>cases h
   |map es=>cases h
   |mapT m t=>cases h
   |it m n k=>cases h
   |rowsE ty sz rs=>cases h
   |rowsF sz t i off x=>cases h
  | .sf t,h=>by simp [SV.own1] at h
  | .vp row off,h=>by simp [SV.own1] at h
  | .op b sz t off,h=>by simp [SV.own1] at h
  | .fn f x y,h=>by simp [SV.own1] at h
  | .mp b,h=>by simp [SV.own1] at h
  | .ost ..,h=>by simp [SV.own1] at h
theorem own1L_den (hρ:fzL ρ=true){th:Tr SB}:∀{l:List SV},own1L th l=true→nofxL (denL ρ l)=true∧∀b∈refsL (denL ρ l),∀k,toAh ρ th b=some k→k.flatB=true
  |[],_=>⟨rfl,fun b hb=>by cases hb⟩
  |x::r,h=>by
   simp only [own1L,Bool.and_eq_true] at h
   have h1:=own1_den hρ (x:=x) h.1
   have h2:=own1L_den hρ (l:=r) h.2
   refine ⟨by simp [denL,nofxL,h1.1,h2.1],fun b hb=>?_⟩
   simp only [denL,refsL,List.mem_append] at hb
   rcases hb with hb|hb
   ·exact h1.2 b hb
   ·exact h2.2 b hb
end
def selR (ρ:List AV):List (Tm×SV)→AV
 |[]=>undefA
 |[x]=>x.2.den ρ
 |x::y::r=>bif (x.1.den ρ).B then x.2.den ρ else selR ρ (y::r)
structure PRes where
 rs:List (Tm×SV)
 sd:List (Pc×Side)
 aw:List Lo
theorem sOutsN_cons {rs:List ResultVar}{pc:Pc}{nv:Nat}{o:Out}{r:List Out}:sOutsN P rs pc nv (o::r)=(match sLeaf P rs (addPc (lastG o.g r) true pc) nv o with
 |none=>none
 |some x=>match (preF x.th x.nv x.v).1.frz (thN x.th deep) with
  |none=>none
  |some v=>match sOutsN P rs (addPc o.g false pc) (preF x.th x.nv x.v).2.1 r with
   |none=>none
   |some (l,nv',sd)=>some ((o.g,v.nrm)::l,nv',(x.sd++tagX (addPc (lastG o.g r) true pc) (preF x.th x.nv x.v).2.2 [])++sd)):=rfl
theorem sOuts_ok {fn:Func}(hρ:fzL ρ=true):∀{l:List Out} {pc:Pc} {nv nv':Nat} {rs:List (Tm×SV)} {sd:List (Pc×Sd)},sOutsN P fn.results.toList pc nv l=some (rs,nv',sd)→pc.holds ρ→SidesX P ρ sd→∀{base:Nat} {w w':World} {E E':Env} {fr:AFr} {ah:AH} {nx:Nat} {a':Act} {e:Exit},
  Sel ρ N l e fr ah nx→Sim base w' E' fr ah nx a'→Step base w E w' E'→isEnd e=true∧∃v v' ah' nx',EndV P fn base w E v ah' nx' a' w'∧Go.Fw.frz (ahN ah' deep) v=some v'∧Weak v' (selR ρ rs)∧(sNewMem P fn.results.toList pc nv l=true→v.nofx=true∧∀b∈v.refs,∀k,ah' b=some k→k.flatB=true)
 |[],pc,nv,nv',rs,sd,h,hp,hs,base,w,w',E,E',fr,ah,nx,a',e,hsel,hsim,hstep=>by
  obtain ⟨st,h1,-⟩:=hsel;cases h1
 |[o],pc,nv,nv',rs,sd,h,hp,hs,base,w,w',E,E',fr,ah,nx,a',e,hsel,hsim,hstep=>by
  obtain ⟨st,h1,h2⟩:=hsel
  simp only [sel,Option.some.injEq,Prod.mk.injEq] at h1
  obtain ⟨rfl,rfl⟩:=h1
  simp only [sOutsN,lastG,addPc] at h
  split at h
  ·cases h
  ·rename_i x hx
   split at h
   ·cases h
   ·rename_i v hv
    simp only [Option.some.injEq,Prod.mk.injEq,List.append_nil] at h
    obtain ⟨rfl,rfl,rfl⟩:=h
    obtain ⟨q1,q2⟩:=sLeaf_ok (P:=P) hx hp (sides_l hs) h2 hsim hstep
    have hpre:=(tagX_ok (sides_r hs)).1 hp
    refine ⟨q1,_,_,_,_,q2,(preF_den (P:=P) hρ (fun b k hk=>by unfold toAh;rw [hk];rfl) hpre).trans (frz_den hρ (thN_den hρ (fun b k hk=>by unfold toAh;rw [hk];rfl) deep) hv),nrm_weak,fun hap=>?_⟩
    simp only [sNewMem,lastG,addPc,hx,Bool.and_eq_true] at hap
    exact own1_den hρ hap.1
 |o::o'::r,pc,nv,nv',rs,sd,h,hp,hs,base,w,w',E,E',fr,ah,nx,a',e,hsel,hsim,hstep=>by
  obtain ⟨st,h1,h2⟩:=hsel
  simp only [sel] at h1
  rw [sOutsN_cons] at h
  simp only [lastG] at h
  split at h
  ·cases h
  ·rename_i x hx
   split at h
   ·cases h
   ·rename_i v hv
    split at h
    ·cases h
    ·rename_i l nv1 sd1 hl
     simp only [Option.some.injEq,Prod.mk.injEq] at h
     obtain ⟨rfl,rfl,rfl⟩:=h
     have hlne:∃y s,l=y::s:=by
      rw [sOutsN_cons] at hl
      split at hl
      ·cases hl
      ·split at hl
       ·cases hl
       ·split at hl
        ·cases hl
        ·simp only [Option.some.injEq,Prod.mk.injEq] at hl;exact ⟨_,_,hl.1.symm⟩
     cases hg:(o.g.den ρ).B
     ·rw [hg] at h1
      obtain ⟨q1,v1,v2,a1,n1,q2,q3,q4,q5⟩:=sOuts_ok hρ hl (addPc_holds hg hp) (sides_r hs) ⟨st,h1,h2⟩ hsim hstep
      obtain ⟨y,s,rfl⟩:=hlne
      refine ⟨q1,v1,v2,a1,n1,q2,q3,by simpa [selR,hg] using q4,fun hap=>q5 ?_⟩
      rw [sNewMem] at hap
      simp only [lastG,hx,Bool.and_eq_true] at hap
      exact hap.2
     ·rw [hg] at h1
      simp only [cond_true,Option.some.injEq,Prod.mk.injEq] at h1
      obtain ⟨rfl,rfl⟩:=h1
      obtain ⟨q1,q2⟩:=sLeaf_ok (P:=P) hx (addPc_holds hg hp) (sides_l (sides_l hs)) h2 hsim hstep
      obtain ⟨y,s,rfl⟩:=hlne
      have hpre:=(tagX_ok (sides_r (sides_l hs))).1 (addPc_holds hg hp)
      refine ⟨q1,_,_,_,_,q2,(preF_den (P:=P) hρ (fun b k hk=>by unfold toAh;rw [hk];rfl) hpre).trans (frz_den hρ (thN_den hρ (fun b k hk=>by unfold toAh;rw [hk];rfl) deep) hv),?_,fun hap=>?_⟩
      ·simp only [selR,hg,cond_true]
       exact nrm_weak
      ·rw [sNewMem] at hap
       simp only [lastG,hx,Bool.and_eq_true] at hap
       exact own1_den hρ hap.1
theorem pc_of_run {L:Ext'×Inl}{md:Md}{F:FCfg}{unr CF:Nat}(hm:P.follows .mixedOrders=true)(hX:∀σ:List AV,fzL σ=true→ExtOk P σ L.1)(hI:∀σ:List AV,fzL σ=true→InlOk P σ L.2)(hρ:fzL ρ=true)
  {f:FuncId} {fn:Func} {c:Code} (hfn:P.funcs[f]?=some fn) (hc:fn.body=some c) {args:List SV} (hg:(goodName fn&&Nat.ble args.length fn.ntmps)=true) {pc:Pc} {nv nv':Nat} {x:CRes} (hp:pc.holds ρ)
  (hx:sCode P ⟨L.1,is2 md,L.2,unr⟩ {F with N:=fn.ntmps} CF pc ⟨initT 0 args,.e,0⟩ nv c=some x) {l:List (Tm×SV)} {sd:List (Pc×Sd)} (hl:sOutsN P fn.results.toList pc x.nv x.outs=some (l,nv',sd)) (hs:SidesX P ρ (x.sd++sd)) (haw:AwOk P ρ x.aw) :
  PC P f (denL ρ args) (selR ρ l)∧(sNewMem P fn.results.toList pc x.nv x.outs=true→PCa P f (denL ρ args) (selR ρ l)):=by
 simp only [Bool.and_eq_true] at hg
 have hname:fn.name≠ "runtime.NumGoroutine" :=by simpa [goodName] using hg.1
 have hlen:=Nat.le_of_ble_eq_true hg.2
 have hall:∀(w:World) (fix:Nat→Nat→Prop) (vs:List Value),(∀c o,fix c o→c<w.heap.size)→GOk w fix→RepL w (freeEnv fix) (denL ρ args) vs→
   Calls P f vs.toArray w fun e w'=>∃v fix',e=.returned v∧Step w.heap.size w (freeEnv fix) w' (freeEnv fix')∧
    (∀c o,fix' c o→c<w'.heap.size)∧Rep w' (freeEnv fix') (selR ρ l) v∧(sNewMem P fn.results.toList pc x.nv x.outs=true→Rep w' (freeEnv fun c o=>fix' c o∧w.heap.size≤c) (selR ρ l) v):=?_
 ·refine ⟨fun w fix vs hfix hG hargs=>?_,fun hap w fix vs hfix hG hargs=>?_⟩
  ·rw [hfn]
   dsimp only
   rw [if_neg (by rw [hc];simp)]
   refine ⟨hname,(hall w fix vs hfix hG hargs).mono fun e w' hq=>?_⟩
   obtain ⟨v,fix',h1,h2,h3,h4,-⟩:=hq
   exact ⟨v,fix',h1,h2,h3,h4⟩
  ·rw [hfn]
   dsimp only
   rw [if_neg (by rw [hc];simp)]
   refine ⟨hname,(hall w fix vs hfix hG hargs).mono fun e w' hq=>?_⟩
   obtain ⟨v,fix',h1,h2,h3,-,h4⟩:=hq
   exact ⟨v,fix',h1,h2,h3,h4 hap⟩
 intro w fix vs hfix hG hargs
 have hlenA:(denL ρ args).length≤fn.ntmps:=by rw [denL_length];exact hlen
 have hst:StW ρ fn.ntmps ⟨initT 0 args,.e,0⟩ (argFr fn.ntmps (denL ρ args)) (fun _=>none) 0:=StW.of FrR_init (fun b k h=>by simp [Tr.get] at h) (argFr_length hlenA) (Nat.le_refl _)
 have haw':=sCode_ok (G:=⟨L.1,is2 md,L.2,unr⟩) (F:={F with N:=fn.ntmps}) hm hX hI hρ _ _ _ _ hx hp (sides_l hs) haw _ _ _ hst
 have hsim:Sim w.heap.size w (freeEnv fix) (argFr fn.ntmps (denL ρ args)) (fun _=>none) 0 {tmps:=vs.toArray++Array.replicate (fn.ntmps-vs.toArray.size) undef,defers:=[]}:=
  ⟨⟨fun b k hb=>(by cases hb),fun b b' k k' c o c' o' _ hb=>(by cases hb),fun _ _=>rfl,hfix,Nat.le_refl _,fun b c o hb=>(by cases hb)⟩,args_frOk hG hargs hlenA,rfl⟩
 refine calls_of_wp hfn hc (wp_mono (haw' _ w (freeEnv fix) _ hsim) fun e a' w' hp'=>?_)
 obtain ⟨E',fr',ah',nx',hsel,hsim',hst'⟩:=hp'
 obtain ⟨q1,v,v',ah2,nx2,⟨h0,E2,val,h1,h2,h3,h4⟩,hz,hwk,hapt⟩:=sOuts_ok (P:=P) (fn:=fn) hρ hl hp (sides_r hs) hsel hsim' hst'
 let fix':Nat→Nat→Prop:=fun c o=>E2.fix c o∨(w.heap.size≤c∧c<w'.heap.size)
 have hfr:=frzN_rep h4 (fix:=fix') (fun c o h=>.inl h) (fun b c o ho off=>.inr (h4.ownlt b c o ho)) deep h2 hz
 have hfinal:∃v fix',Ending.returned val=.returned v∧Step w.heap.size w (freeEnv fix) w' (freeEnv fix')∧
   (∀c o,fix' c o→c<w'.heap.size)∧Rep w' (freeEnv fix') (selR ρ l) v∧(sNewMem P fn.results.toList pc x.nv x.outs=true→Rep w' (freeEnv fun c o=>fix' c o∧w.heap.size≤c) (selR ρ l) v):=by
  refine ⟨_,fix',rfl,⟨⟨fun c o h=>.inl (h3.ext.fix c o h),h3.ext.cell,fun b hb=>absurd rfl hb,h3.ext.arr⟩,h3.below,fun c o hc h=>?_,fun c hc _=>h3.below.block c hc,fun b c o h _=>(by cases h),fun c o h hc=>?_⟩,fun c o h=>?_,hwk _ _ _ hfr,fun hap=>?_⟩
  rotate_left 3
  ·exact hwk _ _ _ (frz_apart h4 h2 (hapt hap).1 (hapt hap).2 hz (fun b _ c o ho off=>⟨.inr (h4.ownlt b c o ho),(h4.ownlt b c o ho).1⟩))
  ·rcases h with h|⟨h,-⟩
   ·exact h3.fixold c o hc h
   ·omega
  ·rcases h with h|⟨h,-⟩
   ·exact h3.fixnew c o h hc |>.imp id (fun ⟨b,o',h⟩=>by cases h)
   ·omega
  ·rcases h with h|⟨-,h⟩
   ·exact h4.fixlt c o h
   ·exact h
 cases e<;>first|exact ⟨h0,_,h1,hfinal⟩|(simp [isEnd] at q1)
theorem PC.weak {f:FuncId}{args:List AV}{r r':AV}(h:PC P f args r)(hw:Weak r r'):PC P f args r':=by
 intro w fix vs hfix hG hargs
 have:=h w fix vs hfix hG hargs
 split at this
 ·exact this
 ·rename_i fn hfn
  split at this
  ·rename_i hb
   rw [if_pos hb]
   obtain ⟨v,h1,h2⟩:=this
   exact ⟨v,h1,hw _ _ _ h2⟩
  ·rename_i hb
   rw [if_neg hb]
   refine ⟨this.1,this.2.mono fun e w' hq=>?_⟩
   obtain ⟨v,fix',h1,h2,h3,h4⟩:=hq
   exact ⟨v,fix',h1,h2,h3,hw _ _ _ h4⟩
theorem PCa.weak {f:FuncId}{args:List AV}{r r':AV}(h:PCa P f args r)(hw:Weak r r'):PCa P f args r':=by
 intro w fix vs hfix hG hargs
 have:=h w fix vs hfix hG hargs
 split at this
 ·exact this
 ·rename_i fn hfn
  split at this
  ·rename_i hb
   rw [if_pos hb]
   obtain ⟨v,h1,h2⟩:=this
   exact ⟨v,h1,hw _ _ _ h2⟩
  ·rename_i hb
   rw [if_neg hb]
   refine ⟨this.1,this.2.mono fun e w' hq=>?_⟩
   obtain ⟨v,fix',h1,h2,h3,h4⟩:=hq
   exact ⟨v,fix',h1,h2,h3,hw _ _ _ h4⟩
theorem mrgR_ok : ∀{l:List (Tm×SV)} {v:SV},mrgR l=some v→Weak (selR ρ l) (v.den ρ)
 |[],v,h=>by simp [mrgR] at h
 |[x],v,h=>by simp only [mrgR,Option.some.injEq] at h;subst h;exact Weak.refl _
 |x::y::r,v,h=>by
  simp only [mrgR] at h
  split at h
  ·cases h
  ·rename_i u hu
   have ih:=mrgR_ok (l:=y::r) hu
   have hw:=(mrgV_ok (ρ:=ρ) h).1
   simp only [selR]
   cases hg:(x.1.den ρ).B
   ·rw [hg] at hw;exact ih.trans hw
   ·rw [hg] at hw;exact hw
theorem pureOf_ok {X0:Ext'}{L:Ext'×Inl}{md:Md}{FC:FuncId→FCfg}{unr CF:Nat}(hm:P.follows .mixedOrders=true)(hX0:∀σ:List AV,fzL σ=true→ExtOk P σ X0)(hX:∀σ:List AV,fzL σ=true→ExtOk P σ L.1)(hI:∀σ:List AV,fzL σ=true→InlOk P σ L.2)(hρ:fzL ρ=true) :
  ExtOk P ρ (pureOf P X0 L md FC unr CF):=fun pc nv f args r h hp hs=>by
 unfold pureOf at h
 cases h1:Nat.beq (md f) 1||(Nat.beq (md f) 3&&litL args)
 ·simp only [h1,cond_false] at h
  exact hX0 ρ hρ pc nv f args r h hp hs
 ·simp only [h1,cond_true] at h
  split at h
  ·cases h
  ·rename_i fn hfn
   split at h
   ·cases h
   ·rename_i c hc
    cases hg:goodName fn&&Nat.ble args.length fn.ntmps
    ·simp [hg] at h
    ·simp only [hg,cond_true] at h
     split at h
     ·cases h
     ·rename_i x hx
      cases haw:x.aw.isEmpty
      ·simp [haw] at h
      ·simp only [haw,cond_true] at h
       split at h
       ·cases h
       ·rename_i l nv' sd hl
        split at h
        ·cases h
        ·rename_i v hv
         simp only [Option.some.injEq] at h;subst h
         have hawOk:AwOk P ρ x.aw:=by
          have:x.aw=[]:=by simpa using haw
          rw [this];exact trivial
         have hn:noL (x.sd++sd)=true:=by
          cases hn:noL (x.sd++sd)
          ·rw [hn] at hv;cases hv
          ·rfl
         rw [hn] at hv
         have hs':SidesX P ρ (x.sd++sd):=by
          rw [← noL_toX hn];exact toX_of hs
         have hpc:=pc_of_run (F:=FC f) hm hX hI hρ hfn hc hg hp hx hl hs' hawOk
         exact ⟨hpc.1.weak (mrgR_ok hv),fun hap=>(hpc.2 hap).weak (mrgR_ok hv)⟩
theorem sLvI_ok {X0:Ext'}{I0:Inl}{md:Md}{FC:FuncId→FCfg}{unr CF:Nat}(hm:P.follows .mixedOrders=true)(h0:∀σ:List AV,fzL σ=true→InlOk P σ I0)(hX0:∀σ:List AV,fzL σ=true→ExtOk P σ X0):∀n,(∀σ:List AV,fzL σ=true→ExtOk P σ (sLvI P X0 I0 md FC unr CF n).1)∧∀σ:List AV,fzL σ=true→InlOk P σ (sLvI P X0 I0 md FC unr CF n).2
 |0=>⟨hX0,h0⟩
 |n+1=>by
  obtain ⟨h1,h2⟩:=sLvI_ok (md:=md) (FC:=FC) (unr:=unr) (CF:=CF) hm h0 hX0 n
  exact ⟨fun σ hσ=>pureOf_ok hm hX0 h1 h2 hσ,fun σ hσ=>frzArg_ok hσ (inlOf_ok hm h0 h1 h2 hσ)⟩
def sFnI (P:Program)(X0:Ext')(I0:Inl)(md:Md)(FC:FuncId→FCfg)(unr CF:Nat)(f:FuncId)(args:List SV)(nv:Nat):Option PRes:=
 match P.funcs[f]? with
 |none=>none
 |some fn=>match fn.body with
  |none=>none
  |some c=>bif goodName fn&&Nat.ble args.length fn.ntmps then
    match sCode P ⟨(sLvI P X0 I0 md FC unr CF CF).1,is2 md,(sLvI P X0 I0 md FC unr CF CF).2,unr⟩ {FC f with N:=fn.ntmps} CF [] ⟨initT 0 args,.e,0⟩ nv c with
    |none=>none
    |some x=>match sOutsN P fn.results.toList [] x.nv x.outs with
     |none=>none
     |some (l,_,sd)=>some ⟨l,exS (x.sd++sd),srtLo (x.aw++exL (x.sd++sd))⟩
   else none
theorem sFnI_ok {X0:Ext'}{I0:Inl}{md:Md}{FC:FuncId→FCfg}{unr CF:Nat}{f:FuncId}{args:List SV}{nv:Nat}{R:PRes}(h:sFnI P X0 I0 md FC unr CF f args nv=some R)(hm:P.follows .mixedOrders=true)(hρ:fzL ρ=true)(h0:∀σ:List AV,fzL σ=true→InlOk P σ I0)(hX:∀σ:List AV,fzL σ=true→ExtOk P σ X0)
  (hs:SidesOk P ρ R.sd) (haw:AwOk P ρ R.aw):PC P f (denL ρ args) (selR ρ R.rs):=by
 unfold sFnI at h
 split at h
 ·cases h
 ·rename_i fn hfn
  split at h
  ·cases h
  ·rename_i c hc
   cases hg:goodName fn&&Nat.ble args.length fn.ntmps
   ·simp [hg] at h
   ·simp only [hg,cond_true] at h
    split at h
    ·cases h
    ·rename_i x hx
     split at h
     ·cases h
     ·rename_i l nv' sd hl
      simp only [Option.some.injEq] at h;subst h
      obtain ⟨h1,h2⟩:=sLvI_ok (md:=md) (FC:=FC) (unr:=unr) (CF:=CF) hm h0 hX CF
      exact (pc_of_run (F:=FC f) hm h1 h2 hρ hfn hc hg (fun x hx=>by cases hx) hx hl (ex_ok hs (LoL_app.1 (srtLo_ok haw)).2) (LoL_app.1 (srtLo_ok haw)).1).1
end
end Go.Fw
end
section
set_option linter.unusedVariables false
set_option linter.unusedSimpArgs false
set_option linter.unusedSectionVars false
namespace Go.Fw
set_option linter.unusedSimpArgs false
set_option linter.unusedVariables false
theorem fzLL_map {α:Type}{f:α→List AV}{l:List α}(h:∀x,fzL (f x)=true):fzLL (l.map f)=true:=by
 induction l with
 |nil=>rfl
 |cons x l ih=>simp [fzLL,h x,ih]
theorem fzn : fzL []=true:=rfl
theorem fzc {a:AV}{l:List AV}(h:a.fz=true)(k:fzL l=true):fzL (a::l)=true:=by simp [fzL,h,k]
theorem fzs {α:Type}{f:α→List AV}(h:∀x,fzL (f x)=true)(l:List α):(AV.sl (List.map f l) false).fz=true:=by simp [AV.fz,fzLL_map h]
structure GVal where
 Kind:Int
 Num:Nat
 Str:List UInt8
 Ref:Int
 deriving DecidableEq,Inhabited
def GVal.enc (v:GVal):List AV:=[.p (.int .u8 v.Kind),.p (.float .f64 v.Num),.str v.Str,.p (.int .i64 v.Ref)]
def GVal.av (v:GVal):AV:=.agg v.enc
theorem GVal.fzL (v:GVal):Go.Fw.fzL v.enc=true:=fzc rfl (fzc rfl (fzc rfl (fzc rfl (fzn))))
theorem GVal.fz (v:GVal):v.av.fz=true:=GVal.fzL v
theorem GVal.len (v:GVal):v.enc.length=4:=rfl
theorem GVal.rok (l:List GVal):rowsOk 4 (l.map GVal.enc):=by
 intro row h
 obtain ⟨x,-,rfl⟩:=List.mem_map.1 h
 rfl
structure GKey where
 Str:List UInt8
 Sym:Int
 deriving DecidableEq,Inhabited
def GKey.enc (v:GKey):List AV:=[.str v.Str,.p (.int .i64 v.Sym)]
def GKey.av (v:GKey):AV:=.agg v.enc
theorem GKey.fzL (v:GKey):Go.Fw.fzL v.enc=true:=fzc rfl (fzc rfl (fzn))
theorem GKey.fz (v:GKey):v.av.fz=true:=GKey.fzL v
theorem GKey.len (v:GKey):v.enc.length=2:=rfl
theorem GKey.rok (l:List GKey):rowsOk 2 (l.map GKey.enc):=by
 intro row h
 obtain ⟨x,-,rfl⟩:=List.mem_map.1 h
 rfl
structure GDesc where
 Has:Int
 Value:GVal
 Get:GVal
 Set:GVal
 Writable:Bool
 Enumerable:Bool
 Configurable:Bool
 deriving DecidableEq,Inhabited
def GDesc.enc (v:GDesc):List AV:=[.p (.int .u8 v.Has),.p (.int .u8 v.Value.Kind),.p (.float .f64 v.Value.Num),.str v.Value.Str,.p (.int .i64 v.Value.Ref),.p (.int .u8 v.Get.Kind),.p (.float .f64 v.Get.Num),.str v.Get.Str,.p (.int .i64 v.Get.Ref),.p (.int .u8 v.Set.Kind),.p (.float .f64 v.Set.Num),.str v.Set.Str,.p (.int .i64 v.Set.Ref),.p (.bool v.Writable),.p (.bool v.Enumerable),.p (.bool v.Configurable)]
def GDesc.av (v:GDesc):AV:=.agg v.enc
theorem GDesc.fzL (v:GDesc):Go.Fw.fzL v.enc=true:=fzc rfl (fzc rfl (fzc rfl (fzc rfl (fzc rfl (fzc rfl (fzc rfl (fzc rfl (fzc rfl (fzc rfl (fzc rfl (fzc rfl (fzc rfl (fzc rfl (fzc rfl (fzc rfl (fzn))))))))))))))))
theorem GDesc.fz (v:GDesc):v.av.fz=true:=GDesc.fzL v
theorem GDesc.len (v:GDesc):v.enc.length=16:=rfl
theorem GDesc.rok (l:List GDesc):rowsOk 16 (l.map GDesc.enc):=by
 intro row h
 obtain ⟨x,-,rfl⟩:=List.mem_map.1 h
 rfl
structure GProp where
 Key:GKey
 Desc:GDesc
 deriving DecidableEq,Inhabited
def GProp.enc (v:GProp):List AV:=[.str v.Key.Str,.p (.int .i64 v.Key.Sym),.p (.int .u8 v.Desc.Has),.p (.int .u8 v.Desc.Value.Kind),.p (.float .f64 v.Desc.Value.Num),.str v.Desc.Value.Str,.p (.int .i64 v.Desc.Value.Ref),.p (.int .u8 v.Desc.Get.Kind),.p (.float .f64 v.Desc.Get.Num),.str v.Desc.Get.Str,.p (.int .i64 v.Desc.Get.Ref),.p (.int .u8 v.Desc.Set.Kind),.p (.float .f64 v.Desc.Set.Num),.str v.Desc.Set.Str,.p (.int .i64 v.Desc.Set.Ref),.p (.bool v.Desc.Writable),.p (.bool v.Desc.Enumerable),.p (.bool v.Desc.Configurable)]
def GProp.av (v:GProp):AV:=.agg v.enc
theorem GProp.fzL (v:GProp):Go.Fw.fzL v.enc=true:=fzc rfl (fzc rfl (fzc rfl (fzc rfl (fzc rfl (fzc rfl (fzc rfl (fzc rfl (fzc rfl (fzc rfl (fzc rfl (fzc rfl (fzc rfl (fzc rfl (fzc rfl (fzc rfl (fzc rfl (fzc rfl (fzn))))))))))))))))))
theorem GProp.fz (v:GProp):v.av.fz=true:=GProp.fzL v
theorem GProp.len (v:GProp):v.enc.length=18:=rfl
theorem GProp.rok (l:List GProp):rowsOk 18 (l.map GProp.enc):=by
 intro row h
 obtain ⟨x,-,rfl⟩:=List.mem_map.1 h
 rfl
structure GObj where
 Kind:Int
 Proto:GVal
 Ext:Bool
 Props:List GProp
 Target:GVal
 Handler:GVal
 Text:List UInt8
 Calls:Bool
 Makes:Bool
 deriving DecidableEq,Inhabited
def GObj.enc (v:GObj):List AV:=[.p (.int .u8 v.Kind),.p (.int .u8 v.Proto.Kind),.p (.float .f64 v.Proto.Num),.str v.Proto.Str,.p (.int .i64 v.Proto.Ref),.p (.bool v.Ext),.sl (List.map GProp.enc v.Props) false,.p (.int .u8 v.Target.Kind),.p (.float .f64 v.Target.Num),.str v.Target.Str,.p (.int .i64 v.Target.Ref),.p (.int .u8 v.Handler.Kind),.p (.float .f64 v.Handler.Num),.str v.Handler.Str,.p (.int .i64 v.Handler.Ref),.str v.Text,.p (.bool v.Calls),.p (.bool v.Makes)]
def GObj.av (v:GObj):AV:=.agg v.enc
theorem GObj.fzL (v:GObj):Go.Fw.fzL v.enc=true:=fzc rfl (fzc rfl (fzc rfl (fzc rfl (fzc rfl (fzc rfl (fzc (fzs GProp.fzL _) (fzc rfl (fzc rfl (fzc rfl (fzc rfl (fzc rfl (fzc rfl (fzc rfl (fzc rfl (fzc rfl (fzc rfl (fzc rfl (fzn))))))))))))))))))
theorem GObj.fz (v:GObj):v.av.fz=true:=GObj.fzL v
theorem GObj.len (v:GObj):v.enc.length=18:=rfl
theorem GObj.rok (l:List GObj):rowsOk 18 (l.map GObj.enc):=by
 intro row h
 obtain ⟨x,-,rfl⟩:=List.mem_map.1 h
 rfl
structure GHeap where
 Objects:List GObj
 deriving DecidableEq,Inhabited
def GHeap.enc (v:GHeap):List AV:=[.sl (List.map GObj.enc v.Objects) false]
def GHeap.av (v:GHeap):AV:=.agg v.enc
theorem GHeap.fzL (v:GHeap):Go.Fw.fzL v.enc=true:=fzc (fzs GObj.fzL _) (fzn)
theorem GHeap.fz (v:GHeap):v.av.fz=true:=GHeap.fzL v
theorem GHeap.len (v:GHeap):v.enc.length=1:=rfl
theorem GHeap.rok (l:List GHeap):rowsOk 1 (l.map GHeap.enc):=by
 intro row h
 obtain ⟨x,-,rfl⟩:=List.mem_map.1 h
 rfl
structure GOut where
 Kind:Int
 Value:GVal
 Yes:Bool
 Found:Bool
 Desc:GDesc
 Keys:List GKey
 Error:Int
 Text:List UInt8
 deriving DecidableEq,Inhabited
def GOut.enc (v:GOut):List AV:=[.p (.int .u8 v.Kind),.p (.int .u8 v.Value.Kind),.p (.float .f64 v.Value.Num),.str v.Value.Str,.p (.int .i64 v.Value.Ref),.p (.bool v.Yes),.p (.bool v.Found),.p (.int .u8 v.Desc.Has),.p (.int .u8 v.Desc.Value.Kind),.p (.float .f64 v.Desc.Value.Num),.str v.Desc.Value.Str,.p (.int .i64 v.Desc.Value.Ref),.p (.int .u8 v.Desc.Get.Kind),.p (.float .f64 v.Desc.Get.Num),.str v.Desc.Get.Str,.p (.int .i64 v.Desc.Get.Ref),.p (.int .u8 v.Desc.Set.Kind),.p (.float .f64 v.Desc.Set.Num),.str v.Desc.Set.Str,.p (.int .i64 v.Desc.Set.Ref),.p (.bool v.Desc.Writable),.p (.bool v.Desc.Enumerable),.p (.bool v.Desc.Configurable),.sl (List.map GKey.enc v.Keys) false,.p (.int .u8 v.Error),.str v.Text]
def GOut.av (v:GOut):AV:=.agg v.enc
theorem GOut.fzL (v:GOut):Go.Fw.fzL v.enc=true:=fzc rfl (fzc rfl (fzc rfl (fzc rfl (fzc rfl (fzc rfl (fzc rfl (fzc rfl (fzc rfl (fzc rfl (fzc rfl (fzc rfl (fzc rfl (fzc rfl (fzc rfl (fzc rfl (fzc rfl (fzc rfl (fzc rfl (fzc rfl (fzc rfl (fzc rfl (fzc rfl (fzc (fzs GKey.fzL _) (fzc rfl (fzc rfl (fzn))))))))))))))))))))))))))
theorem GOut.fz (v:GOut):v.av.fz=true:=GOut.fzL v
theorem GOut.len (v:GOut):v.enc.length=26:=rfl
theorem GOut.rok (l:List GOut):rowsOk 26 (l.map GOut.enc):=by
 intro row h
 obtain ⟨x,-,rfl⟩:=List.mem_map.1 h
 rfl
structure GSeen where
 Began:Int
 Object:Int
 Method:Int
 Key:GKey
 Throw:Bool
 Out:GOut
 deriving DecidableEq,Inhabited
def GSeen.enc (v:GSeen):List AV:=[.p (.int .i64 v.Began),.p (.int .i64 v.Object),.p (.int .u8 v.Method),.str v.Key.Str,.p (.int .i64 v.Key.Sym),.p (.bool v.Throw),.p (.int .u8 v.Out.Kind),.p (.int .u8 v.Out.Value.Kind),.p (.float .f64 v.Out.Value.Num),.str v.Out.Value.Str,.p (.int .i64 v.Out.Value.Ref),.p (.bool v.Out.Yes),.p (.bool v.Out.Found),.p (.int .u8 v.Out.Desc.Has),.p (.int .u8 v.Out.Desc.Value.Kind),.p (.float .f64 v.Out.Desc.Value.Num),.str v.Out.Desc.Value.Str,.p (.int .i64 v.Out.Desc.Value.Ref),.p (.int .u8 v.Out.Desc.Get.Kind),.p (.float .f64 v.Out.Desc.Get.Num),.str v.Out.Desc.Get.Str,.p (.int .i64 v.Out.Desc.Get.Ref),.p (.int .u8 v.Out.Desc.Set.Kind),.p (.float .f64 v.Out.Desc.Set.Num),.str v.Out.Desc.Set.Str,.p (.int .i64 v.Out.Desc.Set.Ref),.p (.bool v.Out.Desc.Writable),.p (.bool v.Out.Desc.Enumerable),.p (.bool v.Out.Desc.Configurable),.sl (List.map GKey.enc v.Out.Keys) false,.p (.int .u8 v.Out.Error),.str v.Out.Text]
def GSeen.av (v:GSeen):AV:=.agg v.enc
theorem GSeen.fzL (v:GSeen):Go.Fw.fzL v.enc=true:=fzc rfl (fzc rfl (fzc rfl (fzc rfl (fzc rfl (fzc rfl (fzc rfl (fzc rfl (fzc rfl (fzc rfl (fzc rfl (fzc rfl (fzc rfl (fzc rfl (fzc rfl (fzc rfl (fzc rfl (fzc rfl (fzc rfl (fzc rfl (fzc rfl (fzc rfl (fzc rfl (fzc rfl (fzc rfl (fzc rfl (fzc rfl (fzc rfl (fzc rfl (fzc (fzs GKey.fzL _) (fzc rfl (fzc rfl (fzn))))))))))))))))))))))))))))))))
theorem GSeen.fz (v:GSeen):v.av.fz=true:=GSeen.fzL v
theorem GSeen.len (v:GSeen):v.enc.length=32:=rfl
theorem GSeen.rok (l:List GSeen):rowsOk 32 (l.map GSeen.enc):=by
 intro row h
 obtain ⟨x,-,rfl⟩:=List.mem_map.1 h
 rfl
structure GAsk where
 Method:Int
 Object:Int
 Key:GKey
 Desc:GDesc
 Value:GVal
 Receiver:GVal
 Args:List GVal
 deriving DecidableEq,Inhabited
def GAsk.enc (v:GAsk):List AV:=[.p (.int .u8 v.Method),.p (.int .i64 v.Object),.str v.Key.Str,.p (.int .i64 v.Key.Sym),.p (.int .u8 v.Desc.Has),.p (.int .u8 v.Desc.Value.Kind),.p (.float .f64 v.Desc.Value.Num),.str v.Desc.Value.Str,.p (.int .i64 v.Desc.Value.Ref),.p (.int .u8 v.Desc.Get.Kind),.p (.float .f64 v.Desc.Get.Num),.str v.Desc.Get.Str,.p (.int .i64 v.Desc.Get.Ref),.p (.int .u8 v.Desc.Set.Kind),.p (.float .f64 v.Desc.Set.Num),.str v.Desc.Set.Str,.p (.int .i64 v.Desc.Set.Ref),.p (.bool v.Desc.Writable),.p (.bool v.Desc.Enumerable),.p (.bool v.Desc.Configurable),.p (.int .u8 v.Value.Kind),.p (.float .f64 v.Value.Num),.str v.Value.Str,.p (.int .i64 v.Value.Ref),.p (.int .u8 v.Receiver.Kind),.p (.float .f64 v.Receiver.Num),.str v.Receiver.Str,.p (.int .i64 v.Receiver.Ref),.sl (List.map GVal.enc v.Args) false]
def GAsk.av (v:GAsk):AV:=.agg v.enc
theorem GAsk.fzL (v:GAsk):Go.Fw.fzL v.enc=true:=fzc rfl (fzc rfl (fzc rfl (fzc rfl (fzc rfl (fzc rfl (fzc rfl (fzc rfl (fzc rfl (fzc rfl (fzc rfl (fzc rfl (fzc rfl (fzc rfl (fzc rfl (fzc rfl (fzc rfl (fzc rfl (fzc rfl (fzc rfl (fzc rfl (fzc rfl (fzc rfl (fzc rfl (fzc rfl (fzc rfl (fzc rfl (fzc rfl (fzc (fzs GVal.fzL _) (fzn)))))))))))))))))))))))))))))
theorem GAsk.fz (v:GAsk):v.av.fz=true:=GAsk.fzL v
theorem GAsk.len (v:GAsk):v.enc.length=29:=rfl
theorem GAsk.rok (l:List GAsk):rowsOk 29 (l.map GAsk.enc):=by
 intro row h
 obtain ⟨x,-,rfl⟩:=List.mem_map.1 h
 rfl
structure GWant where
 Kind:Int
 Ask:GAsk
 Func:GVal
 This:GVal
 For:GVal
 Args:List GVal
 Object:GObj
 Out:GOut
 deriving DecidableEq,Inhabited
def GWant.enc (v:GWant):List AV:=[.p (.int .u8 v.Kind),.p (.int .u8 v.Ask.Method),.p (.int .i64 v.Ask.Object),.str v.Ask.Key.Str,.p (.int .i64 v.Ask.Key.Sym),.p (.int .u8 v.Ask.Desc.Has),.p (.int .u8 v.Ask.Desc.Value.Kind),.p (.float .f64 v.Ask.Desc.Value.Num),.str v.Ask.Desc.Value.Str,.p (.int .i64 v.Ask.Desc.Value.Ref),.p (.int .u8 v.Ask.Desc.Get.Kind),.p (.float .f64 v.Ask.Desc.Get.Num),.str v.Ask.Desc.Get.Str,.p (.int .i64 v.Ask.Desc.Get.Ref),.p (.int .u8 v.Ask.Desc.Set.Kind),.p (.float .f64 v.Ask.Desc.Set.Num),.str v.Ask.Desc.Set.Str,.p (.int .i64 v.Ask.Desc.Set.Ref),.p (.bool v.Ask.Desc.Writable),.p (.bool v.Ask.Desc.Enumerable),.p (.bool v.Ask.Desc.Configurable),.p (.int .u8 v.Ask.Value.Kind),.p (.float .f64 v.Ask.Value.Num),.str v.Ask.Value.Str,.p (.int .i64 v.Ask.Value.Ref),.p (.int .u8 v.Ask.Receiver.Kind),.p (.float .f64 v.Ask.Receiver.Num),.str v.Ask.Receiver.Str,.p (.int .i64 v.Ask.Receiver.Ref),.sl (List.map GVal.enc v.Ask.Args) false,.p (.int .u8 v.Func.Kind),.p (.float .f64 v.Func.Num),.str v.Func.Str,.p (.int .i64 v.Func.Ref),.p (.int .u8 v.This.Kind),.p (.float .f64 v.This.Num),.str v.This.Str,.p (.int .i64 v.This.Ref),.p (.int .u8 v.For.Kind),.p (.float .f64 v.For.Num),.str v.For.Str,.p (.int .i64 v.For.Ref),.sl (List.map GVal.enc v.Args) false,.p (.int .u8 v.Object.Kind),.p (.int .u8 v.Object.Proto.Kind),.p (.float .f64 v.Object.Proto.Num),.str v.Object.Proto.Str,.p (.int .i64 v.Object.Proto.Ref),.p (.bool v.Object.Ext),.sl (List.map GProp.enc v.Object.Props) false,.p (.int .u8 v.Object.Target.Kind),.p (.float .f64 v.Object.Target.Num),.str v.Object.Target.Str,.p (.int .i64 v.Object.Target.Ref),.p (.int .u8 v.Object.Handler.Kind),.p (.float .f64 v.Object.Handler.Num),.str v.Object.Handler.Str,.p (.int .i64 v.Object.Handler.Ref),.str v.Object.Text,.p (.bool v.Object.Calls),.p (.bool v.Object.Makes),.p (.int .u8 v.Out.Kind),.p (.int .u8 v.Out.Value.Kind),.p (.float .f64 v.Out.Value.Num),.str v.Out.Value.Str,.p (.int .i64 v.Out.Value.Ref),.p (.bool v.Out.Yes),.p (.bool v.Out.Found),.p (.int .u8 v.Out.Desc.Has),.p (.int .u8 v.Out.Desc.Value.Kind),.p (.float .f64 v.Out.Desc.Value.Num),.str v.Out.Desc.Value.Str,.p (.int .i64 v.Out.Desc.Value.Ref),.p (.int .u8 v.Out.Desc.Get.Kind),.p (.float .f64 v.Out.Desc.Get.Num),.str v.Out.Desc.Get.Str,.p (.int .i64 v.Out.Desc.Get.Ref),.p (.int .u8 v.Out.Desc.Set.Kind),.p (.float .f64 v.Out.Desc.Set.Num),.str v.Out.Desc.Set.Str,.p (.int .i64 v.Out.Desc.Set.Ref),.p (.bool v.Out.Desc.Writable),.p (.bool v.Out.Desc.Enumerable),.p (.bool v.Out.Desc.Configurable),.sl (List.map GKey.enc v.Out.Keys) false,.p (.int .u8 v.Out.Error),.str v.Out.Text]
def GWant.av (v:GWant):AV:=.agg v.enc
theorem GWant.fzL (v:GWant):Go.Fw.fzL v.enc=true:=fzc rfl (fzc rfl (fzc rfl (fzc rfl (fzc rfl (fzc rfl (fzc rfl (fzc rfl (fzc rfl (fzc rfl (fzc rfl (fzc rfl (fzc rfl (fzc rfl (fzc rfl (fzc rfl (fzc rfl (fzc rfl (fzc rfl (fzc rfl (fzc rfl (fzc rfl (fzc rfl (fzc rfl (fzc rfl (fzc rfl (fzc rfl (fzc rfl (fzc rfl (fzc (fzs GVal.fzL _) (fzc rfl (fzc rfl (fzc rfl (fzc rfl (fzc rfl (fzc rfl (fzc rfl (fzc rfl (fzc rfl (fzc rfl (fzc rfl (fzc rfl (fzc (fzs GVal.fzL _) (fzc rfl (fzc rfl (fzc rfl (fzc rfl (fzc rfl (fzc rfl (fzc (fzs GProp.fzL _) (fzc rfl (fzc rfl (fzc rfl (fzc rfl (fzc rfl (fzc rfl (fzc rfl (fzc rfl (fzc rfl (fzc rfl (fzc rfl (fzc rfl (fzc rfl (fzc rfl (fzc rfl (fzc rfl (fzc rfl (fzc rfl (fzc rfl (fzc rfl (fzc rfl (fzc rfl (fzc rfl (fzc rfl (fzc rfl (fzc rfl (fzc rfl (fzc rfl (fzc rfl (fzc rfl (fzc rfl (fzc rfl (fzc rfl (fzc rfl (fzc (fzs GKey.fzL _) (fzc rfl (fzc rfl (fzn)))))))))))))))))))))))))))))))))))))))))))))))))))))))))))))))))))))))))))))))))))))))
theorem GWant.fz (v:GWant):v.av.fz=true:=GWant.fzL v
theorem GWant.len (v:GWant):v.enc.length=87:=rfl
theorem GWant.rok (l:List GWant):rowsOk 87 (l.map GWant.enc):=by
 intro row h
 obtain ⟨x,-,rfl⟩:=List.mem_map.1 h
 rfl
structure GFix where
 shut:Bool
 proto:GVal
 keys:List GKey
 found:Bool
 desc:GDesc
 deriving DecidableEq,Inhabited
def GFix.enc (v:GFix):List AV:=[.p (.bool v.shut),.p (.int .u8 v.proto.Kind),.p (.float .f64 v.proto.Num),.str v.proto.Str,.p (.int .i64 v.proto.Ref),.sl (List.map GKey.enc v.keys) false,.p (.bool v.found),.p (.int .u8 v.desc.Has),.p (.int .u8 v.desc.Value.Kind),.p (.float .f64 v.desc.Value.Num),.str v.desc.Value.Str,.p (.int .i64 v.desc.Value.Ref),.p (.int .u8 v.desc.Get.Kind),.p (.float .f64 v.desc.Get.Num),.str v.desc.Get.Str,.p (.int .i64 v.desc.Get.Ref),.p (.int .u8 v.desc.Set.Kind),.p (.float .f64 v.desc.Set.Num),.str v.desc.Set.Str,.p (.int .i64 v.desc.Set.Ref),.p (.bool v.desc.Writable),.p (.bool v.desc.Enumerable),.p (.bool v.desc.Configurable)]
def GFix.av (v:GFix):AV:=.agg v.enc
theorem GFix.fzL (v:GFix):Go.Fw.fzL v.enc=true:=fzc rfl (fzc rfl (fzc rfl (fzc rfl (fzc rfl (fzc (fzs GKey.fzL _) (fzc rfl (fzc rfl (fzc rfl (fzc rfl (fzc rfl (fzc rfl (fzc rfl (fzc rfl (fzc rfl (fzc rfl (fzc rfl (fzc rfl (fzc rfl (fzc rfl (fzc rfl (fzc rfl (fzc rfl (fzn)))))))))))))))))))))))
theorem GFix.fz (v:GFix):v.av.fz=true:=GFix.fzL v
theorem GFix.len (v:GFix):v.enc.length=23:=rfl
theorem GFix.rok (l:List GFix):rowsOk 23 (l.map GFix.enc):=by
 intro row h
 obtain ⟨x,-,rfl⟩:=List.mem_map.1 h
 rfl
structure GFacts where
 Ext:Bool
 Proto:GVal
 Found:Bool
 Desc:GDesc
 Keys:List GKey
 Own:List GDesc
 deriving DecidableEq,Inhabited
def GFacts.enc (v:GFacts):List AV:=[.p (.bool v.Ext),.p (.int .u8 v.Proto.Kind),.p (.float .f64 v.Proto.Num),.str v.Proto.Str,.p (.int .i64 v.Proto.Ref),.p (.bool v.Found),.p (.int .u8 v.Desc.Has),.p (.int .u8 v.Desc.Value.Kind),.p (.float .f64 v.Desc.Value.Num),.str v.Desc.Value.Str,.p (.int .i64 v.Desc.Value.Ref),.p (.int .u8 v.Desc.Get.Kind),.p (.float .f64 v.Desc.Get.Num),.str v.Desc.Get.Str,.p (.int .i64 v.Desc.Get.Ref),.p (.int .u8 v.Desc.Set.Kind),.p (.float .f64 v.Desc.Set.Num),.str v.Desc.Set.Str,.p (.int .i64 v.Desc.Set.Ref),.p (.bool v.Desc.Writable),.p (.bool v.Desc.Enumerable),.p (.bool v.Desc.Configurable),.sl (List.map GKey.enc v.Keys) false,.sl (List.map GDesc.enc v.Own) false]
def GFacts.av (v:GFacts):AV:=.agg v.enc
theorem GFacts.fzL (v:GFacts):Go.Fw.fzL v.enc=true:=fzc rfl (fzc rfl (fzc rfl (fzc rfl (fzc rfl (fzc rfl (fzc rfl (fzc rfl (fzc rfl (fzc rfl (fzc rfl (fzc rfl (fzc rfl (fzc rfl (fzc rfl (fzc rfl (fzc rfl (fzc rfl (fzc rfl (fzc rfl (fzc rfl (fzc rfl (fzc (fzs GKey.fzL _) (fzc (fzs GDesc.fzL _) (fzn))))))))))))))))))))))))
theorem GFacts.fz (v:GFacts):v.av.fz=true:=GFacts.fzL v
theorem GFacts.len (v:GFacts):v.enc.length=24:=rfl
theorem GFacts.rok (l:List GFacts):rowsOk 24 (l.map GFacts.enc):=by
 intro row h
 obtain ⟨x,-,rfl⟩:=List.mem_map.1 h
 rfl
end Go.Fw
end
section
set_option linter.unusedVariables false
set_option linter.unusedSimpArgs false
set_option linter.unusedSectionVars false
namespace Go.Fw
set_option linter.unusedSectionVars false
variable [Glob]
set_option linter.unusedSimpArgs false
set_option linter.unusedVariables false
def X0 : Ext':=fun _ _ _ _=>none
def SidesC (P:Program)(ρ:List AV):List (Pc×Side)→Prop
 |[]=>True
 |x::r=>(Pc.holds ρ x.1→x.2.holds P ρ)∧SidesC P ρ r
theorem SidesC.ok {P:Program}{ρ:List AV}:∀{l:List (Pc×Side)},SidesC P ρ l→SidesOk P ρ l
 |[],_,x,hx=>nomatch hx
 |y::r,h,x,hx=>by
  cases hx with
  |head=>exact h.1
  |tail _ hx=>exact SidesC.ok h.2 x hx
theorem sc {P:Program}{ρ:List AV}{pc:Pc}{s:Side}{l:List (Pc×Side)}(h:Pc.holds ρ pc→s.holds P ρ)(k:SidesC P ρ l):SidesC P ρ ((pc,s)::l):=⟨h,k⟩
theorem sn {P:Program}{ρ:List AV}:SidesC P ρ []:=trivial
theorem Pc.holds.at {ρ:List AV}{pc:Pc}(h:Pc.holds ρ pc)(k:Nat){x:Tm×Bool}(e:pc[k]?=some x):(x.1.den ρ).B=x.2:=h x (List.mem_of_getElem? e)
theorem selL {ρ:List AV}{g:Tm}{v:SV}{A:AV}(h:v.den ρ=A):selR ρ [(g,v)]=A:=h
end Go.Fw
end
section
set_option linter.unusedVariables false
set_option linter.unusedSimpArgs false
set_option linter.unusedSectionVars false
namespace Go.Fw
set_option linter.unusedSectionVars false
variable [Glob]
set_option linter.unusedSimpArgs false
set_option linter.unusedVariables false
end Go.Fw
end
section
set_option linter.unusedVariables false
set_option linter.unusedSimpArgs false
set_option linter.unusedSectionVars false
namespace Go.Fw
set_option linter.unusedSectionVars false
variable [Glob]
set_option linter.unusedSimpArgs false
set_option linter.unusedVariables false
def notNan (n:Nat):Prop:=∀s t,FloatKind.f64.format.read n≠.nan s t
def math_Float64bits (x:Nat):Int:=x
def math_Float64frombits (n:Int):Nat:=n.toNat
def math_archTrunc (x:Nat):Nat:=FloatKind.f64.encode ((FloatKind.f64.decode x).integral .zero)
theorem trunc_run {x:Nat}(h:notNan x):Extern.MathFloor.toIntegral "math.archTrunc" .zero #[.float .f64 x]=pure (.float .f64 (math_archTrunc x)):=by
 have e:Extern.MathFloor.toIntegral "math.archTrunc" .zero #[.float .f64 x]=(match FloatKind.f64.decode x with
  | .nan s t=>
   if FloatKind.f64.format.quiet t=t then pure (.float .f64 x) else do
   let kept ← choose (.extern "math.Floor,Ceil,Trunc,RoundToEven.signallingNaN kept" 2)
   pure (.float .f64 (if kept == 1 then x else FloatKind.f64.encode (.nan s (FloatKind.f64.format.quiet t))))
  |d=>pure (.float .f64 (FloatKind.f64.encode (d.integral .zero)))):=by kernel_rfl
 rw [e]
 unfold math_archTrunc
 cases hd:FloatKind.f64.decode x with
 |nan s t=>exact absurd hd (h s t)
 |_=>rfl
theorem pc_ext1 {P:Program}{f:FuncId}{fn:Func}{e:Array Value→Sem Value}{a u:Value}{r:AV}(hf:P.funcs[f]?=some fn)(hb:fn.body.isNone=true)(hname:(fn.name == "runtime.NumGoroutine")=false)
  (hn:Extern.findNext fn=none) (he:Extern.find fn=some e) (ha:plainV a=true) (hrun:e #[a]=pure u) (hr:plainV u=true) (hu:r=.p u):PC P f [.p a] r:=by
 intro w fix vs hfix hG hargs
 rw [hf]
 dsimp only
 rw [if_pos hb]
 obtain ⟨v0,rfl⟩:∃v0,vs=[v0]:=by
  have:=hargs.1
  match vs,this with
  |[v0],_=>exact ⟨v0,rfl⟩
 have h0:=hargs.2 0 (.p a) v0 rfl rfl
 obtain rfl:=h0.p_inv
 subst hu
 refine ⟨u,?_,.p hr⟩
 have hm:(mark (.extern f)).run P w=.ok () w:=rfl
 simp only [callFunc,Sem.run_bind,run_program,Result.andThen_ok,hf,hname,Bool.false_eq_true,if_false,hb,if_true,hm,hn,he]
 simp [hrun]
def isNanB (n:Nat):Bool:=match FloatKind.f64.format.read n with | .nan _ _=>true|_=>false
theorem isNanB_ok {n:Nat}(h:isNanB n=false):notNan n:=by
 intro s t e
 unfold isNanB at h
 rw [e] at h
 cases h
def xNum (a b c:FuncId):Ext':=fun _ nv f args=>
 match args with
 |[.sc .flt (.lf n)]=>bif Nat.beq f a then some (.sc (.int .u64) (.li (.ofNat n)),nv,[],false) else bif Nat.beq f c&&!isNanB n then fNat (math_archTrunc n) fun m=>some (.sc .flt (.lf m),nv,[],false) else none
 |[.sc (.int .u64) (.li (.ofNat n))]=>bif Nat.beq f b then some (.sc .flt (.lf n),nv,[],false) else none
 |_=>none
theorem xNum_ok {P:Program}{a b c:FuncId}(h1:∀x,PC P a [.p (.float .f64 x)] (.p (.int .u64 (math_Float64bits x))))(h2:∀x,PC P b [.p (.int .u64 x)] (.p (.float .f64 (math_Float64frombits x))))
  (h3:∀x,notNan x→PC P c [.p (.float .f64 x)] (.p (.float .f64 (math_archTrunc x)))):∀σ:List AV,fzL σ=true→ExtOk P σ (xNum a b c):=by
 intro σ _ pc nv f args r h _ _
 unfold xNum at h
 split at h
 ·rename_i n
  cases h4:Nat.beq f a
  ·simp only [h4,cond_false] at h
   cases h5:Nat.beq f c&&!isNanB n
   ·simp [h5] at h
   ·simp only [h5,cond_true,fNat_eq,Option.some.injEq] at h;subst h
    simp only [Bool.and_eq_true,Bool.not_eq_true'] at h5
    have:=Nat.eq_of_beq_eq_true h5.1
    subst this
    exact ⟨h3 n (isNanB_ok h5.2),fun h=>by cases h⟩
  ·simp only [h4,cond_true,Option.some.injEq] at h;subst h
   have:=Nat.eq_of_beq_eq_true h4
   subst this
   exact ⟨h1 n,fun h=>by cases h⟩
 ·rename_i n
  cases h4:Nat.beq f b
  ·simp [h4] at h
  ·simp only [h4,cond_true,Option.some.injEq] at h;subst h
   have:=Nat.eq_of_beq_eq_true h4
   subst this
   exact ⟨h2 n,fun h=>by cases h⟩
 ·cases h
end Go.Fw
end
section
set_option linter.unusedVariables false
set_option linter.unusedSimpArgs false
set_option linter.unusedSectionVars false
namespace Go.Fw
set_option linter.unusedSectionVars false
variable [Glob]
set_option linter.unusedSimpArgs false
set_option linter.unusedVariables false
section
variable {P : Program}
theorem nil_eq {w:World}{E:Env}{t e:TypeId}(hu:P.underlying t=some (.slice e)){rows:List (List AV)}{full:Bool}{v:Value}(h:Rep w E (.sl rows full) v)(ox oy:Operand) :
  ∃b:Bool,(do eqGuard .eql t ox oy v (.slice none 0 0);binOp .eql t v (.slice none 0 0):Sem Value).run P w=.ok (.bool b) w∧(b=true→rows=[]):=by
 have run:∀(a:Option Addr) (n c:Nat),(do eqGuard .eql t ox oy (.slice a n c) (.slice none 0 0);binOp .eql t (.slice a n c) (.slice none 0 0):Sem Value).run P w=.ok (.bool a.isNone) w:=by
  intro a n c
  have key:∀d,(Op.equalIn (d+1) t (.slice a n c) (.slice none 0 0)).run P w=.ok a.isNone w:=by
   intro d
   cases a<;>simp [Op.equalIn,run_underlying hu]
  have key2:(Op.equal t (.slice a n c) (.slice none 0 0)).run P w=.ok a.isNone w:=key 9999
  simp [eqGuard,binOp,key2]
 cases h with
 |slnil _ a=>exact ⟨_,run a 0 0,fun _=>rfl⟩
 |sl _ _ sz c o cap g=>exact ⟨_,run _ _ _,fun h=>by cases h⟩
theorem AW_nil {id:Nat}{ops:Array Oper}{o0 o1:Oper}{t e:TypeId}{yt:TypeId}{fr:AFr}{ah:AH}{nx:Nat}{Q:AQ}{rows:List (List AV)}{full:Bool}(hops:ops=#[o0,o1])(h0:o0.op=.move (.tmp 0))(g0:o0.guard=none)(d0:o0.dst=some 3)
  (h1:o1.op=.binOp .eql t (.tmp 3) (.const (.slice none 0 0)) yt) (g1:o1.guard=none) (d1:o1.dst=some 4) (hu:P.underlying t=some (.slice e)) (hfr:fget fr 0=some (.sl rows full)) (hlen:4<fr.length)
  (hQ:∀b:Bool,(b=true→rows=[])→Q .normal (fset (fset fr 3 (.sl rows full)) 4 (.p (.bool b))) ah (nx+2)):AW P (.region id ops false) fr ah nx Q:=by
 subst hops
 intro base w E a hs
 refine wp_region ?_
 show wpOps P #[o0,o1] _ [0,1] a w
 rw [wpOps_cons]
 unfold wpOp
 simp only [List.getElem?_toArray,List.getElem?_cons_zero]
 obtain ⟨v,hv,hr⟩:=hs.fr.get 0 _ hfr
 have ev0:a.eval (.tmp 0)=v:=by simp [Act.eval,hv]
 rw [if_pos (by simp [Region.wanted,g0])]
 refine .inl (upon_value (P:=P) (s:=pure (.value v)) (v:=v) (w':=w) (by simp [execOp,h0,ev0]) rfl ?_)
 rw [wpOps_cons]
 unfold wpOp
 simp only [List.getElem?_toArray,List.getElem?_cons_zero,List.getElem?_cons_succ]
 rw [if_pos (by simp [Region.wanted,g1])]
 have hfr1:=hs.fr.put o0.dst hr
 have hput:fget (fput fr o0.dst (.sl rows full)) 3=some (.sl rows full):=by rw [d0];simp only [fput,fget_fset];rw [if_pos ⟨trivial,by omega⟩]
 obtain ⟨v1,hv1,hr1⟩:=hfr1.get 3 _ hput
 have ev1:(a.put o0.dst v).eval (.tmp 3)=v1:=by simp [Act.eval,hv1]
 have ev2:(a.put o0.dst v).eval (.const (.slice none 0 0))=.slice none 0 0:=rfl
 obtain ⟨b,hb,hbr⟩:=nil_eq (P:=P) hu hr1 (.tmp 3) (.const (.slice none 0 0))
 refine .inl (upon_value (P:=P) (s:=do pure (.value (← (do eqGuard .eql t (.tmp 3) (.const (.slice none 0 0)) v1 (.slice none 0 0);binOp .eql t v1 (.slice none 0 0):Sem Value)))) (v:=.bool b) (w':=w) (by simp only [execOp,h1,ev1,ev2]) ?_ ?_)
 ·rw [Sem.run_bind,hb];rfl
 ·show APost base w E Q .normal _ _
  have hfr2:=hfr1.put (x:=.p (.bool b)) o1.dst (.p rfl)
  have e1:fput (fput fr o0.dst (.sl rows full)) o1.dst (.p (.bool b))=fset (fset fr 3 (.sl rows full)) 4 (.p (.bool b)):=by rw [d0,d1];rfl
  rw [e1] at hfr2
  exact ⟨E,_,ah,nx+2,hQ b hbr,⟨hs.heap.weaken (fun b hb=>by omega),hfr2,by rw [put_defers,put_defers];exact hs.defers⟩,Step.refl _ _ _⟩
def cloneShape (fn:Func):Option TypeId:=
 match fn.body with
 |some (.seq (.region _ r0 false) (.seq (.seq (.region _ r1 false) (.cond (.tmp 4) (.seq (.region _ r2 false) .ret) .skip)) (.seq (.region _ r3 false) .ret)))=>
  match r0.toList,r1.toList,r2.toList,r3.toList with
  |[a0],[b0,b1],[c0],[d0,d1,d2,d3]=>
   match a0.op,b0.op,b1.op,c0.op,d0.op,d1.op,d2.op,d3.op with
   | .assign (.const (.slice none 0 0)),.move (.tmp 0),.binOp .eql t (.tmp 3) (.const (.slice none 0 0)) _,.assign (.const (.slice none 0 0)),.buildSlice t1 0 ps,.move (.tmp 0),.call ⟨.builtin .append,az,ts⟩,.assign (.tmp 7)=>
    match az.toList,ts.toList with
    |[.tmp 5,.tmp 6],[t2,t3]=>
     bif [a0,b0,b1,c0,d0,d1,d2,d3].all (fun o=>o.guard.isNone)&&([a0,b0,b1,c0,d0,d1,d2,d3].map (·.dst) == [some 2,some 3,some 4,some 2,some 5,some 6,some 7,some 2])&&(Nat.beq t t1&&(Nat.beq t t2&&(Nat.beq t t3&&ps.isEmpty)))
      &&Nat.beq fn.ntmps 8&&decide (fn.name≠ "runtime.NumGoroutine")&&(match fn.results.toList with | [.tmp 2]=>true|_=>false) then some t else none
    |_,_=>none
   |_,_,_,_,_,_,_,_=>none
  |_,_,_,_=>none
 |_=>none
theorem clone_pc {f:FuncId}{fn:Func}{t e:TypeId}{i:TypeInfo}{z:List AV}(hfn:P.funcs[f]?=some fn)(h:cloneShape fn=some t)(hu:P.underlying t=some (.slice e))(hi:P.info? e=some i)(hz:zeroOf P e=some z)
  (hzl:z.length=i.size) (hby:i.bytes≤4096) (hsz:i.size≠0) {rows:List (List AV)} (hr:rowsOk i.size rows) (hc:cleanLL rows=true) (hl:rows.length≤4294967296):PC P f [.sl rows false] (.sl rows false):=by
 unfold cloneShape at h
 split at h
 ·rename_i id0 r0 id1 r1 id2 r2 id3 r3 hbody
  split at h
  ·rename_i a0 b0 b1 c0 d0 d1 d2 d3 e0 e1 e2 e3
   split at h
   ·rename_i t' yt t1 ps az ts q0 q1 q2 q3 q4 q5 q6 q7
    split at h
    ·rename_i t2 t3 eas ets
     generalize hg:(([a0,b0,b1,c0,d0,d1,d2,d3].all (fun o=>o.guard.isNone)&&([a0,b0,b1,c0,d0,d1,d2,d3].map (·.dst) == [some 2,some 3,some 4,some 2,some 5,some 6,some 7,some 2])&&(Nat.beq t' t1&&(Nat.beq t' t2&&(Nat.beq t' t3&&ps.isEmpty)))
      &&Nat.beq fn.ntmps 8&&decide (fn.name≠ "runtime.NumGoroutine")&&(match fn.results.toList with | [.tmp 2]=>true|_=>false)))=g at h
     cases g
     ·cases h
     ·simp only [cond_true,Option.some.injEq] at h
      subst h
      simp only [Bool.and_eq_true,decide_eq_true_eq,beq_iff_eq] at hg
      obtain ⟨⟨⟨⟨⟨hgu,hds⟩,hty,hty2,hty3,hps⟩,hnt⟩,hname⟩,hres⟩:=hg
      have ht1:=Nat.eq_of_beq_eq_true hty
      have ht2:=Nat.eq_of_beq_eq_true hty2
      have ht3:=Nat.eq_of_beq_eq_true hty3
      subst ht1;subst ht2;subst ht3
      have hnt:=Nat.eq_of_beq_eq_true hnt
      simp only [List.all_cons,List.all_nil,Bool.and_true,Bool.and_eq_true,Option.isNone_iff_eq_none] at hgu
      obtain ⟨ga0,gb0,gb1,gc0,gd0,gd1,gd2,gd3⟩:=hgu
      simp only [List.map_cons,List.map_nil,List.cons.injEq,and_true] at hds
      obtain ⟨da0,db0,db1,dc0,dd0,dd1,dd2,dd3⟩:=hds
      have hps':ps.toList=[]:=by
       have:ps=#[]:=by simpa using hps
       rw [this]
      have hresl:fn.results.toList=[.tmp 2]:=by
       split at hres
       ·assumption
       ·cases hres
      have er1:r1=#[b0,b1]:=by apply Array.ext';simpa using e1
      have one:∀(id:Nat) (ops:Array Oper) (l:List Oper) (fr:AFr) (ah:AH) (nx:Nat) (Q:AQ),ops.toList=l→aRun P ops none nx 0 l fr ah [] (fun fr' ah'=>Q .normal fr' ah' (nx+ops.size))→AW P (.region id ops false) fr ah nx Q:=by
       intro id ops l fr ah nx Q hl h
       subst hl
       exact AW_region h
      have huE:zeroOf P e=some z:=hz
      have hsle:slElem P t'=some (i.size,i.bytes):=by simp [slElem,hu,hi]
      refine PC_of_AW hfn hbody hname (by rw [hnt];simp) ?_
      rw [hnt]
      refine AW_seq' (one _ _ _ _ _ _ _ e0 ?_)
      simp only [aRun,aWanted,ga0,aIf,aOp,q0,ev,ofV,ofC,withO,compat,da0,fput,true_and]
      refine AW_seq' (AW_seq' (AW_nil er1 q1 gb0 db0 q2 gb1 db1 hu (rows:=rows) (full:=false) (by rfl) (by simp [length_fset]) fun b hb=>?_))
      refine AW_cond b (by rfl) ?_
      cases b with
      |true=>
       have hrn:=hb rfl
       subst hrn
       rw [if_pos rfl]
       refine AW_seq' (one _ _ _ _ _ _ _ e2 ?_)
       simp only [aRun,aWanted,gc0,aIf,aOp,q3,ev,ofV,ofC,withO,compat,dc0,fput,true_and]
       refine AW_ret ⟨.inr rfl,?_⟩
       rw [hresl]
       rfl
      |false=>
       rw [if_neg (by simp)]
       refine AW_skip ?_
       refine AW_seq' (one _ _ _ _ _ _ _ e3 ?_)
       have happ:∀(ah:AH) (id1 id2:Nat) (K:Res→Prop),ah id1=some (.rows i.size [])→K ⟨.os id2 i.size 0 (0+rows.length),[(id1,none),(id2,some (.rows i.size (((([]:List (List AV)).drop 0).take 0)++rows)))],id1::[]⟩→
         aAppend P id2 ah t' t' (.os id1 i.size 0 0) (.sl rows false) K:=by
        intro ah id1 id2 K hab hK
        refine withO_iff.2 ⟨_,hsle,hby,hsz,?_,?_,hr,rfl,?_⟩
        ·rw [hu];trivial
        ·rw [hu];simp [huE,hzl]
        ·rw [hab];exact ⟨rfl,by simp,by simpa using hl,hK⟩
       have hbs:∀(id:Nat) (K:Res→Prop),K ⟨.os id i.size 0 0,[(id,some (.rows i.size (chunks i.size 0 [])))],[]⟩→aBuildSlice P t' id 0 [] K:=by
        intro id K hK
        unfold aBuildSlice
        rw [hu]
        exact withO_iff.2 ⟨i,hi,withO_iff.2 ⟨z,huE,hzl,by simp,withO_iff.2 ⟨[],rfl,hK⟩⟩⟩
       simp only [aRun,aWanted,gd0,gd1,gd2,gd3,aIf,aOp,q4,q5,q6,q7,hps',evL,eas,ets,compat,dd0,dd1,dd2,dd3,true_and]
       refine withO_iff.2 ⟨[],rfl,hbs _ _ ?_⟩
       refine withO_iff.2 ⟨.sl rows false,rfl,?_⟩
       refine withO_iff.2 ⟨[.os _ i.size 0 0,.sl rows false],rfl,?_⟩
       have hts:ts=#[t',t']:=by apply Array.ext';simpa using ets
       subst hts
       refine withO_iff.2 ⟨t',rfl,withO_iff.2 ⟨t',rfl,.inl<|happ _ _ _ _ (by simp [upds,upd,chunks]) ?_⟩⟩
       refine withO_iff.2 ⟨.os _ i.size 0 (0+rows.length),rfl,?_⟩
       refine AW_ret ⟨.inr rfl,?_⟩
       rw [hresl]
       refine withO_iff.2 ⟨.os _ i.size 0 (0+rows.length),rfl,?_⟩
       exact frz_os_clean (by simp [upds,upd]) hc (by simp)
    ·cases h
   ·cases h
  ·cases h
 ·cases h
theorem clone_pca {f:FuncId}{fn:Func}{t e:TypeId}{i:TypeInfo}{z:List AV}(hfn:P.funcs[f]?=some fn)(h:cloneShape fn=some t)(hu:P.underlying t=some (.slice e))(hi:P.info? e=some i)(hz:zeroOf P e=some z)
  (hzl:z.length=i.size) (hby:i.bytes≤4096) (hsz:i.size≠0) {rows:List (List AV)} (hr:rowsOk i.size rows) (hc:cleanLL rows=true) (hl:rows.length≤4294967296) (hfl:rows.all flatL=true):PCa P f [.sl rows false] (.sl rows false):=by
 unfold cloneShape at h
 split at h
 ·rename_i id0 r0 id1 r1 id2 r2 id3 r3 hbody
  split at h
  ·rename_i a0 b0 b1 c0 d0 d1 d2 d3 e0 e1 e2 e3
   split at h
   ·rename_i t' yt t1 ps az ts q0 q1 q2 q3 q4 q5 q6 q7
    split at h
    ·rename_i t2 t3 eas ets
     generalize hg:(([a0,b0,b1,c0,d0,d1,d2,d3].all (fun o=>o.guard.isNone)&&([a0,b0,b1,c0,d0,d1,d2,d3].map (·.dst) == [some 2,some 3,some 4,some 2,some 5,some 6,some 7,some 2])&&(Nat.beq t' t1&&(Nat.beq t' t2&&(Nat.beq t' t3&&ps.isEmpty)))
      &&Nat.beq fn.ntmps 8&&decide (fn.name≠ "runtime.NumGoroutine")&&(match fn.results.toList with | [.tmp 2]=>true|_=>false)))=g at h
     cases g
     ·cases h
     ·simp only [cond_true,Option.some.injEq] at h
      subst h
      simp only [Bool.and_eq_true,decide_eq_true_eq,beq_iff_eq] at hg
      obtain ⟨⟨⟨⟨⟨hgu,hds⟩,hty,hty2,hty3,hps⟩,hnt⟩,hname⟩,hres⟩:=hg
      have ht1:=Nat.eq_of_beq_eq_true hty
      have ht2:=Nat.eq_of_beq_eq_true hty2
      have ht3:=Nat.eq_of_beq_eq_true hty3
      subst ht1;subst ht2;subst ht3
      have hnt:=Nat.eq_of_beq_eq_true hnt
      simp only [List.all_cons,List.all_nil,Bool.and_true,Bool.and_eq_true,Option.isNone_iff_eq_none] at hgu
      obtain ⟨ga0,gb0,gb1,gc0,gd0,gd1,gd2,gd3⟩:=hgu
      simp only [List.map_cons,List.map_nil,List.cons.injEq,and_true] at hds
      obtain ⟨da0,db0,db1,dc0,dd0,dd1,dd2,dd3⟩:=hds
      have hps':ps.toList=[]:=by
       have:ps=#[]:=by simpa using hps
       rw [this]
      have hresl:fn.results.toList=[.tmp 2]:=by
       split at hres
       ·assumption
       ·cases hres
      have er1:r1=#[b0,b1]:=by apply Array.ext';simpa using e1
      have one:∀(id:Nat) (ops:Array Oper) (l:List Oper) (fr:AFr) (ah:AH) (nx:Nat) (Q:AQ),ops.toList=l→aRun P ops none nx 0 l fr ah [] (fun fr' ah'=>Q .normal fr' ah' (nx+ops.size))→AW P (.region id ops false) fr ah nx Q:=by
       intro id ops l fr ah nx Q hl h
       subst hl
       exact AW_region h
      have huE:zeroOf P e=some z:=hz
      have hsle:slElem P t'=some (i.size,i.bytes):=by simp [slElem,hu,hi]
      refine PCa_of_AW hfn hbody hname (by rw [hnt];simp) ?_
      rw [hnt]
      refine AW_seq' (one _ _ _ _ _ _ _ e0 ?_)
      simp only [aRun,aWanted,ga0,aIf,aOp,q0,ev,ofV,ofC,withO,compat,da0,fput,true_and]
      refine AW_seq' (AW_seq' (AW_nil er1 q1 gb0 db0 q2 gb1 db1 hu (rows:=rows) (full:=false) (by rfl) (by simp [length_fset]) fun b hb=>?_))
      refine AW_cond b (by rfl) ?_
      cases b with
      |true=>
       have hrn:=hb rfl
       subst hrn
       rw [if_pos rfl]
       refine AW_seq' (one _ _ _ _ _ _ _ e2 ?_)
       simp only [aRun,aWanted,gc0,aIf,aOp,q3,ev,ofV,ofC,withO,compat,dc0,fput,true_and]
       refine AW_ret ⟨.inr rfl,?_⟩
       rw [hresl]
       exact ⟨rfl,rfl,fun b hb=>by cases hb⟩
      |false=>
       rw [if_neg (by simp)]
       refine AW_skip ?_
       refine AW_seq' (one _ _ _ _ _ _ _ e3 ?_)
       have happ:∀(ah:AH) (id1 id2:Nat) (K:Res→Prop),ah id1=some (.rows i.size [])→K ⟨.os id2 i.size 0 (0+rows.length),[(id1,none),(id2,some (.rows i.size (((([]:List (List AV)).drop 0).take 0)++rows)))],id1::[]⟩→
         aAppend P id2 ah t' t' (.os id1 i.size 0 0) (.sl rows false) K:=by
        intro ah id1 id2 K hab hK
        refine withO_iff.2 ⟨_,hsle,hby,hsz,?_,?_,hr,rfl,?_⟩
        ·rw [hu];trivial
        ·rw [hu];simp [huE,hzl]
        ·rw [hab];exact ⟨rfl,by simp,by simpa using hl,hK⟩
       have hbs:∀(id:Nat) (K:Res→Prop),K ⟨.os id i.size 0 0,[(id,some (.rows i.size (chunks i.size 0 [])))],[]⟩→aBuildSlice P t' id 0 [] K:=by
        intro id K hK
        unfold aBuildSlice
        rw [hu]
        exact withO_iff.2 ⟨i,hi,withO_iff.2 ⟨z,huE,hzl,by simp,withO_iff.2 ⟨[],rfl,hK⟩⟩⟩
       simp only [aRun,aWanted,gd0,gd1,gd2,gd3,aIf,aOp,q4,q5,q6,q7,hps',evL,eas,ets,compat,dd0,dd1,dd2,dd3,true_and]
       refine withO_iff.2 ⟨[],rfl,hbs _ _ ?_⟩
       refine withO_iff.2 ⟨.sl rows false,rfl,?_⟩
       refine withO_iff.2 ⟨[.os _ i.size 0 0,.sl rows false],rfl,?_⟩
       have hts:ts=#[t',t']:=by apply Array.ext';simpa using ets
       subst hts
       refine withO_iff.2 ⟨t',rfl,withO_iff.2 ⟨t',rfl,.inl<|happ _ _ _ _ (by simp [upds,upd,chunks]) ?_⟩⟩
       refine withO_iff.2 ⟨.os _ i.size 0 (0+rows.length),rfl,?_⟩
       refine AW_ret ⟨.inr rfl,?_⟩
       rw [hresl]
       refine withO_iff.2 ⟨.os _ i.size 0 (0+rows.length),rfl,?_⟩
       refine ⟨?_,rfl,fun b hb k hk=>?_⟩
       ·exact frz_os_clean (by simp [upds,upd]) hc (by simp)
       ·have hb':b=_:=List.mem_singleton.1 hb
        subst hb'
        have hk':some (Blk.rows i.size ((([]:List (List AV)).drop 0).take 0++rows))=some k:=by rw [← hk];simp [upds,upd]
        cases hk'
        simpa [Blk.flatB] using hfl
    ·cases h
   ·cases h
  ·cases h
 ·cases h
def cloneOf (P:Program)(f:FuncId):Option Nat:=
 match P.funcs[f]? with
 |none=>none
 |some fn=>match cloneShape fn with
  |none=>none
  |some t=>match P.underlying t with
   |some (.slice e)=>match P.info? e,(zeroOf P e).map List.length with
    |some i,some n=>bif Nat.beq n i.size&&(Nat.ble i.bytes 4096&&!Nat.beq i.size 0) then some i.size else none
    |_,_=>none
   |_=>none
def xClone (P:Program):Ext':=fun pc nv f args=>
 match args with
 |[.sc .sl tm]=>match cloneOf P f with
  |some n=>some (.sc .sl tm,nv,[(pc,.rok n tm),(pc,.len2 0 tm)],false)
  |none=>none
 |[.slc rows false]=>match cloneOf P f with
  |some n=>bif rows.all (fun r=>Nat.beq r.length n)&&(clnLL rows&&Nat.ble rows.length 4294967296) then some (.slc rows false,nv,[],rows.all fltL) else none
  |none=>none
 |_=>none
theorem cloneOf_ok {f:FuncId}{n:Nat}(h:cloneOf P f=some n){rows:List (List AV)}(hr:rowsOk n rows)(hc:cleanLL rows=true)(hl:rows.length≤4294967296):PC P f [.sl rows false] (.sl rows false):=by
 unfold cloneOf at h
 split at h
 ·cases h
 ·rename_i fn hfn
  split at h
  ·cases h
  ·rename_i t ht
   split at h
   ·rename_i e hu
    split at h
    ·rename_i i m hi hm
     cases hg:Nat.beq m i.size&&(Nat.ble i.bytes 4096&&!Nat.beq i.size 0)
     ·simp [hg] at h
     ·simp only [hg,cond_true,Option.some.injEq] at h;subst h
      simp only [Bool.and_eq_true,Bool.not_eq_true'] at hg
      simp only [Option.map_eq_some_iff] at hm
      obtain ⟨z,hz,hzm⟩:=hm
      exact clone_pc hfn ht hu hi hz (by rw [hzm];exact Nat.eq_of_beq_eq_true hg.1) (Nat.le_of_ble_eq_true hg.2.1) (fun e0=>by rw [e0] at hg;exact absurd hg.2.2 (by decide)) hr hc hl
    ·cases h
   ·cases h
theorem cloneOf_oka {f:FuncId}{n:Nat}(h:cloneOf P f=some n){rows:List (List AV)}(hr:rowsOk n rows)(hc:cleanLL rows=true)(hl:rows.length≤4294967296)(hfl:rows.all flatL=true):PCa P f [.sl rows false] (.sl rows false):=by
 unfold cloneOf at h
 split at h
 ·cases h
 ·rename_i fn hfn
  split at h
  ·cases h
  ·rename_i t ht
   split at h
   ·rename_i e hu
    split at h
    ·rename_i i m hi hm
     cases hg:Nat.beq m i.size&&(Nat.ble i.bytes 4096&&!Nat.beq i.size 0)
     ·simp [hg] at h
     ·simp only [hg,cond_true,Option.some.injEq] at h;subst h
      simp only [Bool.and_eq_true,Bool.not_eq_true'] at hg
      simp only [Option.map_eq_some_iff] at hm
      obtain ⟨z,hz,hzm⟩:=hm
      exact clone_pca hfn ht hu hi hz (by rw [hzm];exact Nat.eq_of_beq_eq_true hg.1) (Nat.le_of_ble_eq_true hg.2.1) (fun e0=>by rw [e0] at hg;exact absurd hg.2.2 (by decide)) hr hc hl hfl
    ·cases h
   ·cases h
theorem xClone_ok : ∀σ:List AV,fzL σ=true→ExtOk P σ (xClone P):=by
 intro σ hσ pc nv f args r h hp hs
 unfold xClone at h
 split at h
 ·rename_i tm
  split at h
  ·rename_i n hn
   simp only [Option.some.injEq] at h;subst h
   have h1:rowsOk n (tm.den σ).R:=hs (pc,.rok n tm) (by simp) hp
   have h2:0+(tm.den σ).R.length≤4294967296:=hs (pc,.len2 0 tm) (by simp) hp
   exact ⟨cloneOf_ok hn h1 (fzLL_clean (Tm.den_fz hσ tm)) (by omega),fun h=>by cases h⟩
  ·cases h
 ·rename_i rows
  split at h
  ·rename_i n hn
   cases hg:rows.all (fun r=>Nat.beq r.length n)&&(clnLL rows&&Nat.ble rows.length 4294967296)
   ·simp [hg] at h
   ·simp only [hg,cond_true,Option.some.injEq] at h;subst h
    simp only [Bool.and_eq_true] at hg
    have hlen:(denLL σ rows).length≤4294967296:=by rw [denLL_length];exact Nat.le_of_ble_eq_true hg.2.2
    refine ⟨cloneOf_ok hn (rowsOk_all hg.1) (clnLL_den hσ hg.2.1) hlen,fun hf=>cloneOf_oka hn (rowsOk_all hg.1) (clnLL_den hσ hg.2.1) hlen ?_⟩
    have hf:rows.all fltL=true:=hf
    rw [denLL_map,List.all_map,List.all_eq_true]
    intro row hr
    exact fltL_den (List.all_eq_true.1 hf row hr)
  ·cases h
 ·cases h
def xOr (X Y:Ext'):Ext':=fun pc nv f args=>match X pc nv f args with|some r=>some r|none=>Y pc nv f args
theorem xOr_ok {X Y:Ext'}(hX:∀σ:List AV,fzL σ=true→ExtOk P σ X)(hY:∀σ:List AV,fzL σ=true→ExtOk P σ Y):∀σ:List AV,fzL σ=true→ExtOk P σ (xOr X Y):=by
 intro σ hσ pc nv f args r h hp hs
 unfold xOr at h
 split at h
 ·rename_i r' hr
  simp only [Option.some.injEq] at h;subst h
  exact hX σ hσ _ _ _ _ _ hr hp hs
 ·exact hY σ hσ _ _ _ _ _ h hp hs
end
end Go.Fw
end
section
set_option linter.unusedVariables false
set_option linter.unusedSimpArgs false
set_option linter.unusedSectionVars false
namespace Go.Fw
set_option linter.unusedSectionVars false
variable [Glob]
set_option linter.unusedSimpArgs false
set_option linter.unusedVariables false
section
variable {P : Program}
end
end Go.Fw
end
section
set_option linter.unusedVariables false
set_option linter.unusedSimpArgs false
set_option linter.unusedSectionVars false
namespace Go.Fw
set_option linter.unusedSectionVars false
variable [Glob]
set_option linter.unusedVariables false
def tabFind (f:FuncId)(args:List SV):List (FuncId×List SV×SV)→Option SV
 |[]=>none
 |x::r=>bif Nat.beq x.1 f&&beqL x.2.1 args then some x.2.2 else tabFind f args r
def xTab (tab:List (FuncId×List SV×SV)):Ext':=fun pc nv f args=>
 match tabFind f args tab with
 |some r=>some (r,nv,[(pc,.call f args r)],false)
 |none=>none
theorem xTab_ok {P:Program}(tab:List (FuncId×List SV×SV)):∀σ:List AV,fzL σ=true→ExtOk P σ (xTab tab):=by
 intro σ _ pc nv f args r h hp hs
 unfold xTab at h
 split at h
 ·simp only [Option.some.injEq] at h;subst h
  exact ⟨hs (pc,.call f args _) (List.mem_singleton.2 rfl) hp,fun h=>by cases h⟩
 ·cases h
end Go.Fw
namespace Go.Fw
variable [Glob]
def fcT (keep:List (List Nat)):FuncId→FCfg:=fun g=>⟨0,⟨keep.getD g [],0⟩,fun _=>none⟩
def mdT (n:Nat):Md:=fun g=>(n / 4 ^ g) % 4
end Go.Fw
namespace Go.Fw
variable [Glob]
set_option linter.unusedVariables false
end Go.Fw
namespace Go.Fw
variable [Glob]
end Go.Fw
namespace Go.Fw
variable [Glob]
theorem mk_pcXI {P:Program}(hm:P.follows .mixedOrders=true){X:Ext'}(hX:∀σ:List AV,fzL σ=true→ExtOk P σ X){I0:Inl}(h0:∀σ:List AV,fzL σ=true→InlOk P σ I0){md:Md}{FC:FuncId→FCfg}{unr CF f nv:Nat}{args:List SV}{ρ:List AV}{rs:List (Tm×SV)}{sd:List (Pc×Side)}{az:List AV}{r:AV}
  (h:sFnI P X I0 md FC unr CF f args nv=some ⟨rs,sd,[]⟩) (hρ:fzL ρ=true) (hs:SidesC P ρ sd) (ha:denL ρ args=az) (hr:selR ρ rs=r):PC P f az r:=by
 subst ha;subst hr
 exact sFnI_ok h hm hρ h0 hX hs.ok trivial
end Go.Fw
end
section
set_option linter.unusedVariables false
set_option linter.unusedSimpArgs false
set_option linter.unusedSectionVars false
namespace Go.Fw
set_option linter.unusedSectionVars false
variable [Glob]
open Go.Lib
set_option linter.unusedSimpArgs false
set_option linter.unusedVariables false
structure RefCfg where
 vo:FuncId
 ln:FuncId
 sw:FuncId
 l1:FuncId
 l2:FuncId
 l9:FuncId
def RunsAs (P:Program)(f:FuncId)(e:Array Value→Sem Value):Prop:=
 ∀args w,(callFunc f args).run P w=((e args).run P w).andThen fun v w'=>.ok (.value v) w'
structure RefOk (P:Program)(c:RefCfg):Prop where
 vo:RunsAs P c.vo fun args=>Extern.ReflectliteValue.unpack (args.getD 0 (.tuple #[]))
 ln:RunsAs P c.ln (Extern.ReflectliteValue.method (Extern.ReflectliteValue.valueError "reflectlite.Value.Len" 0) Extern.ReflectliteValue.len)
 sw:RunsAs P c.sw (Extern.ReflectliteSwapper.swapper "internal/reflectlite" (Extern.ReflectliteValue.valueError "Swapper"))
 l9:RunsAs P c.l9 (Extern.ReflectliteSwapper.swap false)
 n1:P.funcs.findIdx? (·.name == "internal/reflectlite" ++ ".Swapper$" ++toString 1)=some c.l1
 n2:P.funcs.findIdx? (·.name == "internal/reflectlite" ++ ".Swapper$" ++toString 2)=some c.l2
 n9:P.funcs.findIdx? (·.name == "internal/reflectlite" ++ ".Swapper$" ++toString 9)=some c.l9
def elTy (P:Program)(t:TypeId):Option TypeId:=
 match P.info? t with
 |some i=>match i.desc with
  | .slice e=>bif !P.packed t then some e else none
  |_=>none
 |none=>none
theorem elTy_ok {P:Program}{t e:TypeId}(h:elTy P t=some e):∃i,P.info? t=some i∧i.desc=.slice e∧P.packed t=false:=by
 unfold elTy at h
 split at h
 ·rename_i i hi
  split at h
  ·rename_i e' he
   cases hp:P.packed t
   ·simp [hp] at h;subst h;exact ⟨i,hi,he,rfl⟩
   ·simp [hp] at h
  ·cases h
 ·cases h
def isStrD : TypeDesc→Bool
 | .struct _=>true
 |_=>false
def bigEl (P:Program)(e:TypeId):Bool:=
 match P.info? e with
 |some ie=>ie.hasPointers&&(!(ie.bytes == 8)&&(match ie.desc with
  | .struct _=>true
  | .named _ u=>(match P.info? u with|some iu=>isStrD iu.desc|none=>false)
  |_=>false))
 |none=>false
theorem bigEl_ok {P:Program}{e:TypeId}(h:bigEl P e=true):∃ie,P.info? e=some ie∧(∀w,(Extern.Rtype.kind e).run P w=.ok 25 w)∧∀n,swapperK n ie 25=if n=0 then 1 else if n=1 then 2 else 9:=by
 unfold bigEl at h
 split at h
 ·rename_i ie hie
  simp only [Bool.and_eq_true,Bool.not_eq_true'] at h
  obtain ⟨h1,h2,h3⟩:=h
  refine ⟨ie,hie,fun w=>?_,fun n=>?_⟩
  ·split at h3
   ·rename_i fs hd
    simp [Extern.Rtype.kind,Extern.Rtype.under,rl_info e ie hie,hd,Result.andThen]
   ·rename_i nm u hd
    split at h3
    ·rename_i iu hiu
     cases hs:iu.desc with
     |struct fs=>simp [Extern.Rtype.kind,Extern.Rtype.under,rl_info e ie hie,hd,rl_info u iu hiu,hs,Result.andThen]
     |_=>rw [hs] at h3;simp [isStrD] at h3
    ·cases h3
   ·cases h3
  ·unfold swapperK
   by_cases e0:n=0
   ·simp [e0]
   ·by_cases e1:n=1
    ·simp [e1]
    ·simp [e0,e1,h1,h2]
 ·cases h
def swapRows (rs:List (List SV))(i j:Nat)(x y:List SV):List (List SV):=(rs.set i y).set j x
def inlRef (P:Program)(c:RefCfg):Inl:=fun _ th nx nv f args=>
 bif Nat.beq f c.vo then
  match args with
  |[.ifc t (.os b sz off (.li (.ofNat n)))]=>match elTy P t with
   |some _=>some ⟨[(.lb true,⟨.agg [.c (.at P.globals.size t),.op nx 1 (.li 0) 0,.sc (.int .u64) (.li 151)],wrT th [(nx,some (.rows 1 [[.os b sz off (.li (.ofNat n))]]))],nx+1⟩)],nv,[]⟩
   |none=>none
  |_=>none
 else bif Nat.beq f c.ln then
  match args with
  |[.agg [.c (.at g t),.op b1 1 (.li 0) 0,.sc (.int .u64) (.li 151)]]=>match elTy P t,th.get b1 with
   |some _,some (.rows 1 [[.os b sz off (.li (.ofNat n))]])=>bif Nat.beq g P.globals.size then some ⟨[(.lb true,⟨.sc (.int .i64) (.li (.ofNat n)),th,nx⟩)],nv,[]⟩ else none
   |_,_=>none
  |_=>none
 else bif Nat.beq f c.sw then
  match args with
  |[.ifc t (.os b sz off (.li (.ofNat n)))]=>match elTy P t with
   |some e=>bif bigEl P e then
     some ⟨[(.lb true,⟨(match n with|0=>.fn c.l1 [] []|1=>.fn c.l2 [] []|_=>.fn c.l9 [] [.os b sz off (.li (.ofNat n)),.c (.at P.globals.size e)]),th,nx⟩)],nv,[]⟩ else none
   |none=>none
  |_=>none
 else bif Nat.beq f c.l9 then
  match args with
  |[.sc (.int .i64) (.li (.ofNat i)),.sc (.int .i64) (.li (.ofNat j)),.os b sz off (.li (.ofNat n)),.c (.at g e)]=>match th.get b with
   |some (.rows sz' rs)=>match rs[off+i]?,rs[off+j]? with
    |some x,some y=>bif Nat.beq g P.globals.size&&(Nat.blt i n&&(Nat.blt j n&&(Nat.beq sz sz'&&(Nat.beq x.length sz&&(Nat.beq y.length sz&&(tyOf P e == some (true,sz))))))) then
      some ⟨[(.lb true,⟨.c .undef,wrT th [(b,some (.rows sz (swapRows rs (off+i) (off+j) x y)))],nx⟩)],nv,[]⟩ else none
    |_,_=>none
   |_=>none
  |_=>none
 else none
theorem os_slice {w:World}{E:Env}{b sz off n:Nat}{v:Value}(h:Rep w E (.os b sz off n) v):∃p c,v=.slice p n c:=by
 cases h<;>exact ⟨_,_,rfl⟩
theorem ifc_inv {w:World}{E:Env}{t:TypeId}{a:AV}{v:Value}(h:Rep w E (.ifc t a) v):∃u,v=.iface t u∧Rep w E a u:=by
 cases h with|ifc t a v h=>exact ⟨_,rfl,h⟩
theorem wp_of_value {P:Program}{o:Oper}{a:Act}{w w':World}{f:FuncId}{args:Array Value}{v:Value}{next:Act→World→Prop}{Q:Exit→Act→World→Prop}{e:Array Value→Sem Value}(he:RunsAs P f e)
  (h:∀w',(execOp a.eval o).run P w'=(callFunc f args).run P w') (hr:(e args).run P w=.ok v w') (hn:next (a.put o.dst v) w'):o.wp P a w next Q:=by
 unfold Oper.wp
 rw [h,he,hr]
 exact hn
theorem repL_one {w:World}{E:Env}{a:AV}{vs:List Value}(h:RepL w E [a] vs):∃v,vs=[v]∧Rep w E a v:=by
 match vs,h.1 with
 |[v],_=>exact ⟨v,rfl,h.2 0 _ _ rfl rfl⟩
theorem loadVar_of {P:Program}{t:TypeId}{a:Addr}{w:World}:(Instr.loadAt t (.pointer (some a))).run P w=(loadVar t a).run P w:=by
 simp [Instr.loadAt,Instr.sureAddr]
theorem storeVar_of {P:Program}{t:TypeId}{a:Addr}{v:Value}{w:World}:(Instr.storeAt t (.pointer (some a)) v).run P w=(storeVar t a v).run P w:=by
 simp [Instr.storeAt,Instr.sureAddr]
theorem lay_all {row cs:List AV}(h:cs.length=row.length):lay row 0 cs=cs:=by
 simp [lay,h]
theorem size_of_ty {P:Program}{e:TypeId}{b:Bool}{sz:Nat}(h:tyOf P e=some (b,sz))(w:World):(sizeOf e).run P w=.ok sz w:=by
 unfold tyOf at h
 simp only [Option.bind_eq_some_iff,Option.map_eq_some_iff] at h
 obtain ⟨d,hd,i,hi,he⟩:=h
 cases he
 simp [sizeOf,rl_info e i hi,Result.andThen]
theorem swap_eq (i j:Int)(a:Addr)(n cap:Nat)(h:Value):Extern.ReflectliteSwapper.swap false #[.int .i64 i,.int .i64 j,.slice (some a) n cap,h]=(do
 if i<0||i≥n||j<0||j≥n then Extern.ReflectliteSwapper.outOfRange
 Extern.ReflectliteSwapper.exchange (← Extern.Rtype.ofHandle h) a i.toNat j.toNat):=rfl
theorem swap_run (i j:Nat)(a:Addr)(n cap:Nat)(h:Value)(hi:i<n)(hj:j<n):Extern.ReflectliteSwapper.swap false #[.int .i64 i,.int .i64 j,.slice (some a) n cap,h]=(do Extern.ReflectliteSwapper.exchange (← Extern.Rtype.ofHandle h) a i j):=by
 rw [swap_eq,if_neg (by simp;omega)]
 simp
theorem inlRef_ok {P:Program}{c:RefCfg}(hc:RefOk P c):∀σ:List AV,fzL σ=true→InlOk P σ (inlRef P c):=by
 intro ρ _ pc th nx nv f args R h hp hs base w E ah vs hah hh hG hrep o a he next Q hnext
 unfold inlRef at h
 cases h1:Nat.beq f c.vo
 case true=>
  rw [h1] at h
  simp only [cond_true] at h
  obtain rfl:=Nat.eq_of_beq_eq_true h1
  split at h
  ·rename_i t b sz off n
   split at h
   ·rename_i e hel
    simp only [Option.some.injEq] at h;subst h
    obtain ⟨i,hi,hd,-⟩:=elTy_ok hel
    obtain ⟨v,rfl,hv⟩:=repL_one hrep
    obtain ⟨u,rfl,hu⟩:=ifc_inv hv
    obtain ⟨p,cc,rfl⟩:=os_slice hu
    obtain ⟨w',E',hw',q1,q2,q3⟩:=new_row hh (Nat.le_refl nx) t (cs:=[SV.den ρ (.os b sz off (.li (.ofNat n)))]) (vs:=#[.slice p n cc]) ⟨rfl,fun i x y h1 h2=>by
     match i,h1,h2 with
     |0,h1,h2=>cases h1;cases h2;exact hu⟩ (by simp [SV.den,AV.scal])
    refine wp_of_value hc.vo he (run_valueOf_slice t e i hi hd p n cc w) ?_
    rw [← hw']
    refine hnext _ rfl _ _ E' (upds ah [(nx,some (.rows 1 [[SV.den ρ (.os b sz off (.li (.ofNat n)))]]))]) (AhR_wr hah) q1 (q2.weaken fun b hb=>⟨Nat.le_of_succ_le hb,Nat.ne_of_gt hb⟩) ?_
    refine .agg _ _ rfl (fun c hc=>by simp only [denL,List.mem_cons,List.not_mem_nil,or_false] at hc;rcases hc with rfl|rfl|rfl<;>rfl) fun i x y h1 h2=>?_
    match i,h1,h2 with
    |0,h1,h2=>cases h1;cases h2;exact .p rfl
    |1,h1,h2=>cases h1;cases h2;exact q3
    |2,h1,h2=>cases h1;cases h2;exact .p rfl
   ·cases h
  ·cases h
 case false=>
 rw [h1] at h
 simp only [cond_false] at h
 cases h2:Nat.beq f c.ln
 case true=>
  rw [h2] at h
  simp only [cond_true] at h
  obtain rfl:=Nat.eq_of_beq_eq_true h2
  split at h
  ·rename_i g t b1
   split at h
   ·rename_i x y z b sz off n hel hb1
    cases hg:Nat.beq g P.globals.size
    ·simp [hg] at h
    ·simp only [hg,cond_true,Option.some.injEq] at h;subst h
     obtain rfl:=Nat.eq_of_beq_eq_true hg
     obtain ⟨i,hi,hd,hpk⟩:=elTy_ok hel
     obtain ⟨v,rfl,hv⟩:=repL_one hrep
     obtain ⟨vs,rfl,ha⟩:∃vs:Array Value,v=.agg vs∧RepL w E (denL ρ [.c (.at P.globals.size t),.op b1 1 (.li 0) 0,.sc (.int .u64) (.li 151)]) vs.toList:=by
      cases hv with|agg cs vs hl hs h=>exact ⟨vs,rfl,by simpa using hl,fun i x y h1 h2=>h i x y h1 (by simpa using h2)⟩
     obtain ⟨v0,v1,v2,hvs⟩:∃v0 v1 v2,vs.toList=[v0,v1,v2]:=by
      match hm:vs.toList,(show vs.toList.length=3 by rw [← ha.1];rfl) with
      |[v0,v1,v2],_=>exact ⟨v0,v1,v2,rfl⟩
     obtain rfl:vs=#[v0,v1,v2]:=by apply Array.ext';simpa using hvs
     have r0:=(ha.2 0 _ v0 rfl rfl).p_inv
     have r2:=(ha.2 2 _ v2 rfl rfl).p_inv
     obtain ⟨cb,ob,r1,hown⟩:=(ha.2 1 _ v1 rfl rfl).op_inv
     subst r0;subst r1;subst r2
     rcases hh.blk b1 _ (hah _ _ hb1) with ⟨_,h0⟩|⟨c',o',arr,tt,g1,g2,g3,g4,g5⟩
     ·simp [SB.den,denLL] at h0
     ·rw [hown] at g1;cases g1
      obtain ⟨u,hu1,hu2⟩:=g5.2.2.2 0 _ 0 _ rfl rfl
      obtain ⟨p,cc,rfl⟩:=os_slice hu2
      have hcell:w.cell? ⟨cb,ob+0*1+0,none⟩=some (.slice p n cc):=by
       simp only [World.cell?,g4]
       simp at hu1 ⊢
       exact hu1
      refine wp_of_value hc.ln he (run_valueLen_slice t _ i hi hd hpk _ p n cc w hcell) ?_
      exact hnext _ rfl _ _ E ah hah (Step.refl _ _ _) hh (.p rfl)
   ·cases h
  ·cases h
 case false=>
 rw [h2] at h
 simp only [cond_false] at h
 cases h3:Nat.beq f c.sw
 case true=>
  rw [h3] at h
  simp only [cond_true] at h
  obtain rfl:=Nat.eq_of_beq_eq_true h3
  split at h
  ·rename_i t b sz off n
   split at h
   ·rename_i e hel
    cases hb:bigEl P e
    ·simp [hb] at h
    ·simp only [hb,cond_true,Option.some.injEq] at h;subst h
     obtain ⟨i,hi,hd,-⟩:=elTy_ok hel
     obtain ⟨ie,hie,hk,hsk⟩:=bigEl_ok hb
     obtain ⟨v,rfl,hv⟩:=repL_one hrep
     obtain ⟨u,rfl,hu⟩:=ifc_inv hv
     obtain ⟨p,cc,rfl⟩:=os_slice hu
     match n,hu,hnext with
     |0,hu,hnext=>
      refine wp_of_value hc.sw he (run_swapper_slice t e i ie hi hd hie 25 hk p 0 cc c.l1 (by rw [hsk];exact hc.n1) w) ?_
      refine hnext _ rfl _ _ E ah hah (Step.refl _ _ _) hh ?_
      rw [hsk]
      exact .fn _ _ _ _ _ rfl rfl (fun i c v h=>by simp [denL] at h) (fun i c v h=>by simp [denL] at h)
     |1,hu,hnext=>
      refine wp_of_value hc.sw he (run_swapper_slice t e i ie hi hd hie 25 hk p 1 cc c.l2 (by rw [hsk];exact hc.n2) w) ?_
      refine hnext _ rfl _ _ E ah hah (Step.refl _ _ _) hh ?_
      rw [hsk]
      exact .fn _ _ _ _ _ rfl rfl (fun i c v h=>by simp [denL] at h) (fun i c v h=>by simp [denL] at h)
     |m+2,hu,hnext=>
      refine wp_of_value hc.sw he (run_swapper_slice t e i ie hi hd hie 25 hk p (m+2) cc c.l9 (by rw [hsk,if_neg (by omega),if_neg (by omega)];exact hc.n9) w) ?_
      refine hnext _ rfl _ _ E ah hah (Step.refl _ _ _) hh ?_
      rw [hsk,if_neg (show ¬m+2=0 by omega),if_neg (show ¬m+2=1 by omega),if_neg (by omega)]
      refine .fn _ _ _ _ _ rfl rfl (fun i c v h=>by simp [denL] at h) (fun i x y h1 h2=>?_)
      match i,h1,h2 with
      |0,h1,h2=>cases h1;cases h2;exact hu
      |1,h1,h2=>cases h1;cases h2;exact .p rfl
   ·cases h
  ·cases h
 case false=>
 rw [h3] at h
 simp only [cond_false] at h
 cases h4:Nat.beq f c.l9
 case false=>simp [h4] at h
 case true=>
  rw [h4] at h
  simp only [cond_true] at h
  obtain rfl:=Nat.eq_of_beq_eq_true h4
  split at h
  ·rename_i i j b sz off n g e
   split at h
   ·rename_i sz' rs hb
    split at h
    ·rename_i x y hx hy
     generalize hg:(Nat.beq g P.globals.size&&(Nat.blt i n&&(Nat.blt j n&&(Nat.beq sz sz'&&(Nat.beq x.length sz&&(Nat.beq y.length sz&&(tyOf P e == some (true,sz))))))))=gg at h
     cases gg
     ·cases h
     ·simp only [cond_true,Option.some.injEq] at h;subst h
      simp only [Bool.and_eq_true,beq_iff_eq] at hg
      obtain ⟨g1,g2,g3,g4,g5,g6,g7⟩:=hg
      obtain rfl:=Nat.eq_of_beq_eq_true g1
      obtain rfl:=Nat.eq_of_beq_eq_true g4
      have hi:i<n:=Nat.le_of_ble_eq_true g2
      have hj:j<n:=Nat.le_of_ble_eq_true g3
      have lx:=Nat.eq_of_beq_eq_true g5
      have ly:=Nat.eq_of_beq_eq_true g6
      have hab:=hah _ _ hb
      obtain ⟨v0,v1,v2,v3,rfl⟩:∃v0 v1 v2 v3,vs=[v0,v1,v2,v3]:=by
       match vs,hrep.1 with
       |[v0,v1,v2,v3],_=>exact ⟨v0,v1,v2,v3,rfl⟩
      have r0:=(hrep.2 0 _ v0 rfl rfl).p_inv
      have r1:=(hrep.2 1 _ v1 rfl rfl).p_inv
      have r3:=(hrep.2 3 _ v3 rfl rfl).p_inv
      have r2:=hrep.2 2 _ v2 rfl rfl
      subst r0;subst r1;subst r3
      obtain ⟨c0,o0,cap,hown,rfl⟩:∃c0 o0 cap,E.own b=.at c0 o0∧v2=.slice (some ⟨c0,o0+off*sz,none⟩) n cap:=by
       generalize hm:SV.den ρ (.os b sz off (.li (.ofNat n)))=A at r2
       have hm:A=.os b sz off n:=hm.symm
       subst hm
       cases r2 with
       |osnil=>omega
       |os _ _ _ _ c0 o0 cap hb=>exact ⟨c0,o0,cap,hb,rfl⟩
      have hnb:¬nx≤b:=fun hc=>by have:=hh.nofresh hc;rw [hab] at this;cases this
      have rx:(denLL ρ rs)[off+i]?=some (denL ρ x):=by rw [denLL_map,List.getElem?_map,hx];rfl
      have ry:(denLL ρ rs)[off+j]?=some (denL ρ y):=by rw [denLL_map,List.getElem?_map,hy];rfl
      have lx':(denL ρ x).length=sz:=by rw [denL_length,lx]
      have ly':(denL ρ y).length=sz:=by rw [denL_length,ly]
      have px:Rep w E (.op b sz (off+i) 0) (.pointer (some ⟨c0,o0+(off+i)*sz+0,none⟩)):=.op _ _ _ _ _ _ hown
      have py:Rep w E (.op b sz (off+j) 0) (.pointer (some ⟨c0,o0+(off+j)*sz+0,none⟩)):=.op _ _ _ _ _ _ hown
      obtain ⟨q1,vx,rfl,-,ex,hvx⟩:=aLoad_rd (K:=fun r=>r=⟨.agg (denL ρ x),[],[b]⟩) hh (t:=e) (a:=.op b sz (off+i) 0) (by
       unfold aLoad
       rw [g7]
       dsimp only [withO]
       rw [hab]
       dsimp only [SB.den]
       refine ⟨rfl,?_⟩
       rw [rx]
       refine ⟨by simp [lx'],?_⟩
       simp [← lx']) px
      obtain ⟨q2,vy,rfl,-,ey,hvy⟩:=aLoad_rd (K:=fun r=>r=⟨.agg (denL ρ y),[],[b]⟩) hh (t:=e) (a:=.op b sz (off+j) 0) (by
       unfold aLoad
       rw [g7]
       dsimp only [withO]
       rw [hab]
       dsimp only [SB.den]
       refine ⟨rfl,?_⟩
       rw [ry]
       refine ⟨by simp [ly'],?_⟩
       simp [← ly']) py
      obtain ⟨q3,w1,E1,rfl,s1,st1,hh1,-⟩:=aStore_wr (K:=fun r=>r=⟨.p undef,[(b,some (.rows sz ((denLL ρ rs).set (off+i) (denL ρ y))))],[b]⟩) (id:=b) hh (t:=e) (a:=.op b sz (off+i) 0) (v:=.agg (denL ρ y)) (by
       unfold aStore
       rw [g7]
       dsimp only [withO]
       rw [hab]
       dsimp only [SB.den]
       refine ⟨rfl,rfl,ly',?_⟩
       rw [rx]
       refine ⟨by simp [lx'],?_⟩
       show _=_
       rw [show AV.cells (.agg (denL ρ y))=denL ρ y from rfl,lay_all (by rw [lx',ly'])]) px hvy
      have rj:∃z,((denLL ρ rs).set (off+i) (denL ρ y))[off+j]?=some z∧z.length=sz:=by
       rw [List.getElem?_set]
       by_cases eij:off+i=off+j
       ·rw [if_pos eij]
        have:=(List.getElem?_eq_some_iff.1 rx).1
        rw [if_pos this];exact ⟨_,rfl,ly'⟩
       ·rw [if_neg eij];exact ⟨_,ry,ly'⟩
      obtain ⟨z,rz,lz⟩:=rj
      obtain ⟨q4,w2,E2,rfl,s2,st2,hh2,-⟩:=aStore_wr (K:=fun r=>r=⟨.p undef,[(b,some (.rows sz (((denLL ρ rs).set (off+i) (denL ρ y)).set (off+j) (denL ρ x))))],[b]⟩) (id:=b) hh1 (t:=e) (a:=.op b sz (off+j) 0) (v:=.agg (denL ρ x)) (by
       unfold aStore
       rw [g7]
       dsimp only [withO]
       rw [show upds ah [(b,some (.rows sz ((denLL ρ rs).set (off+i) (denL ρ y))))] b=some (.rows sz ((denLL ρ rs).set (off+i) (denL ρ y))) by simp [upds,upd]]
       refine ⟨rfl,rfl,lx',?_⟩
       rw [rz]
       refine ⟨by simp [lz],?_⟩
       show _=_
       rw [show AV.cells (.agg (denL ρ x))=denL ρ x from rfl,lay_all (by rw [lx',lz])]) (py.mono st1.ext) (hvx.mono st1.ext)
      have hrun:(Extern.ReflectliteSwapper.swap false #[.int .i64 i,.int .i64 j,.slice (some ⟨c0,o0+off*sz,none⟩) n cap,typeHandle P e]).run P w=.ok (.tuple #[]) w2:=by
       rw [swap_run i j _ _ _ _ hi hj]
       rw [loadVar_of] at ex ey
       rw [storeVar_of] at s1 s2
       have ai:(⟨c0,o0+off*sz,none⟩:Addr).add (i*sz)=⟨c0,o0+(off+i)*sz+0,none⟩:=by
        simp [Addr.add,Nat.add_mul,Nat.add_assoc]
       have aj:(⟨c0,o0+off*sz,none⟩:Addr).add (j*sz)=⟨c0,o0+(off+j)*sz+0,none⟩:=by
        simp [Addr.add,Nat.add_mul,Nat.add_assoc]
       simp only [Nat.add_zero] at ai aj ex ey s1 s2
       simp [Extern.ReflectliteSwapper.exchange,Extern.Rtype.ofHandle,handleType,typeHandle,Result.andThen,size_of_ty g7,ai,aj,ex,ey,s1,s2]
      refine wp_of_value hc.l9 he hrun ?_
      refine hnext _ rfl _ _ E2 (upds ah [(b,some (.rows sz (((denLL ρ rs).set (off+i) (denL ρ y)).set (off+j) (denL ρ x))))]) ?_ (st1.trans st2) ?_ (.p rfl)
      ·have:=AhR_wr (wr:=[(b,some (.rows sz (swapRows rs (off+i) (off+j) x y)))]) hah
       simp only [List.map_cons,List.map_nil,Option.map_some,SB.den,swapRows,denLL_map,List.map_set] at this ⊢
       exact this
      ·have e2:upds (upds ah [(b,some (.rows sz ((denLL ρ rs).set (off+i) (denL ρ y))))]) [(b,some (.rows sz (((denLL ρ rs).set (off+i) (denL ρ y)).set (off+j) (denL ρ x))))]=upds ah [(b,some (.rows sz (((denLL ρ rs).set (off+i) (denL ρ y)).set (off+j) (denL ρ x))))]:=by
        simp only [upds]
        exact upd_upd _ _ _ _
       rw [e2] at hh2
       exact hh2.weaken fun b' hb'=>⟨⟨hb',fun e=>hnb (e▸hb')⟩,fun e=>hnb (e▸hb')⟩
    ·cases h
   ·cases h
  ·cases h
end Go.Fw
end
section
set_option linter.unusedVariables false
set_option linter.unusedSimpArgs false
set_option linter.unusedSectionVars false
namespace Go.Fw
variable [Glob]
set_option linter.unusedSimpArgs false
set_option linter.unusedVariables false
set_option linter.unusedSectionVars false
section
variable {P : Program}
end
end Go.Fw
end
section
set_option linter.unusedVariables false
set_option linter.unusedSimpArgs false
set_option linter.unusedSectionVars false
namespace Go.Fw
variable [Glob]
set_option linter.unusedSimpArgs false
set_option linter.unusedVariables false
set_option linter.unusedSectionVars false
section
variable {P : Program} {ρ:List AV}
end
end Go.Fw
namespace Go.Fw
variable [Glob]
end Go.Fw
end
section
set_option linter.unusedVariables false
set_option linter.unusedSimpArgs false
set_option linter.unusedSectionVars false
namespace Go.Fw
variable [Glob]
set_option linter.unusedSimpArgs false
set_option linter.unusedVariables false
set_option linter.unusedSectionVars false
section
variable {base : Nat} {w:World} {E:Env} {ah ah0:AH} {F:Nat→Prop}
end
section
variable {P : Program}
end
section
variable {P : Program} {ρ:List AV}
end
end Go.Fw
end
section
set_option linter.unusedVariables false
set_option linter.unusedSimpArgs false
set_option linter.unusedSectionVars false
namespace Go.Fw
set_option linter.unusedSectionVars false
variable [Glob]
set_option linter.unusedSimpArgs false
set_option linter.unusedVariables false
section
variable {P : Program} {K V:Type} [DecidableEq K] {f:K→List AV} {g:V→List AV} {kt:TypeId} {m:MSh}
end
end Go.Fw
namespace Go.Fw
variable [Glob]
end Go.Fw
end
section
set_option linter.unusedVariables false
set_option linter.unusedSimpArgs false
set_option linter.unusedSectionVars false
namespace Go.Fw
set_option linter.unusedSectionVars false
variable [Glob]
open Go.ChangeShapes Go.WideShapes Go.RowKit
set_option linter.unusedVariables false
set_option linter.unusedSimpArgs false
structure Bulk {H:Type}(f:DataW H→Nat)(fa:List (DataW H)→Nat):Prop where
 str:∀b,f (.lit (.string b))=b.length+1
 sl:∀e s,f (.slice e s)=fa e+fa s+1
 agg:∀p,f (.agg p)=fa p+1
 nil:fa []=0
 cons:∀d r,fa (d::r)=f d+fa r
 one:∀d,1≤f d
theorem Bulk.append {H:Type}{f:DataW H→Nat}{fa}(hb:Bulk f fa)(a b:List (DataW H)):fa (a++b)=fa a+fa b:=by
 induction a with
 |nil=>simp [hb.nil]
 |cons x a ih=>simp [hb.cons,ih];omega
theorem Bulk.get {H:Type}{f:DataW H→Nat}{fa}(hb:Bulk f fa):∀{a:List (DataW H)} {i:Nat} {x},a[i]?=some x→f x≤fa a
 |y::a,0,x,h=>by simp at h;subst h;rw [hb.cons];omega
 |y::a,i+1,x,h=>by have:=hb.get (a:=a) (i:=i) (by simpa using h);rw [hb.cons];omega
theorem Bulk.len {H:Type}{f:DataW H→Nat}{fa}(hb:Bulk f fa)(a:List (DataW H)):a.length≤fa a:=by
 induction a with
 |nil=>simp
 |cons x a ih=>have:=hb.one x;simp [hb.cons];omega
abbrev lim : Nat:=1048576
def frEnv (w:World):Env:=freeEnv fun c _=>c<w.heap.size
structure Rd (P:Program)(t:TypeId){α:Type}(row:α→List AV)(wf:α→Prop):Prop where
 get:∀{H:Type} {enc:TypeId×Value→H} {f:DataW H→Nat} {fa:List (DataW H)→Nat} (_:Bulk f fa) {w:World} {fuel:Nat} {cs:List Value} {x:DataW H×List MemPlace},
  DataW.trod enc P w 0 (fun _=>true) true fuel t cs=some x→f x.1≤lim→∃a,wf a∧RepL w (frEnv w) (row a) cs∧∀c∈row a,c.scal=true
theorem Rd.to {P t}{α β:Type}{row:α→List AV}{wf:α→Prop}(h:Rd P t row wf)(g:α→β){row':β→List AV}{wf':β→Prop}(hr:∀a,row' (g a)=row a)(hw:∀a,wf a→wf' (g a)):Rd P t row' wf':=by
 constructor
 intro H enc f fa hb w fuel cs x hx hl
 obtain ⟨a,h1,h2,h3⟩:=h.get hb hx hl
 exact ⟨g a,hw a h1,by rw [hr];exact h2,by rw [hr];exact h3⟩
theorem RepL.one {w E a v}(h:Rep w E a v):RepL w E [a] [v]:=
 ⟨rfl,fun i x y hx hy=>by cases i with|zero=>simp at hx hy;subst hx;subst hy;exact h|succ i=>simp at hx⟩
def inR (k:IntKind)(n:Int):Prop:=k.min≤n∧n≤k.max
theorem RepL.length {w E az vs}(h:RepL w E az vs):az.length=vs.length:=h.1
theorem RepL.get {w E az vs}(h:RepL w E az vs){i:Nat}{a:AV}(ha:az[i]?=some a):∃v,vs[i]?=some v∧Rep w E a v:=by
 have hlt:i<vs.length:=by rw [← h.1];exact (List.getElem?_eq_some_iff.1 ha).1
 exact ⟨vs[i],by simp [hlt],h.2 i a _ ha (by simp [hlt])⟩
def allWf {α:Type}(wf:α→Prop)(l:List α):Prop:=l.length≤lim∧∀x∈l,wf x
structure RdF (P:Program)(fs:List Field)(off:Nat){α:Type}(row:α→List AV)(wf:α→Prop):Prop where
 get:∀{H:Type} {enc:TypeId×Value→H} {f:DataW H→Nat} {fa:List (DataW H)→Nat} (_:Bulk f fa) {w:World} {n:Nat} {cs:List Value} {xs:List (DataW H×List MemPlace)},
  xs.length=fs.length→(∀(i:Nat) (fd:Field),fs[i]?=some fd→DataW.trod enc P w 0 (fun _=>true) true n fd.type ((cs.drop fd.offset).take (P.cellsOf fd.type))=xs[i]?)→
  cs.length=off+(fs.map fun fd=>P.cellsOf fd.type).sum→fa (xs.map (·.1))≤lim→∃a,wf a∧RepL w (frEnv w) (row a) (cs.drop off)∧∀c∈row a,c.scal=true
structure RdV (P:Program)(t:TypeId){α:Type}(av:α→AV)(wf:α→Prop):Prop where
 get:∀{H:Type} {enc:TypeId×Value→H} {f:DataW H→Nat} {fa:List (DataW H)→Nat} (_:Bulk f fa) {w:World} {base:Nat} {v:Value} {d:DataW H} {ps:List MemPlace},
  Value.okWide P w .any base t v→DataW.Trod enc P w 0 (fun _=>true) true t v d ps→f d≤lim→∃a,wf a∧Rep w (frEnv w) (av a) v
structure RdA (P:Program)(ts:List TypeId){α:Type}(avs:α→List AV)(wf:α→Prop):Prop where
 get:∀{H:Type} {enc:TypeId×Value→H} {f:DataW H→Nat} {fa:List (DataW H)→Nat} (_:Bulk f fa) {w:World} {base:Nat} {vs:List Value} {ds:List (DataW H)} {ps:List MemPlace},
  (∀(j:Nat) t v,ts[j]?=some t→vs[j]?=some v→Value.okWide P w .any base t v)→DataW.TrodAll enc P w 0 (fun _=>true) true ts vs ds ps→fa ds≤lim→∃a,wf a∧RepL w (frEnv w) (avs a) vs
theorem rdA_nil {P}:RdA P [] (fun _:Unit=>[]) (fun _=>True):=by
 constructor
 intro H enc f fa hb w base vs ds ps hok h hl
 obtain ⟨rfl,-,-⟩:=trodAll_nil h
 exact ⟨(),trivial,rfl,fun i a v h=>by simp at h⟩
theorem trodAll_stays {H:Type}{enc:TypeId×Value→H}{P:Program}(hl:laidOutB P=true){W W':World}{sp':Nat→Bool}:∀{ts:List TypeId} (_:∀t∈ts,P.readableRec t=true∧t<P.types.size) {vs:List Value} {ds:List (DataW H)} {ps:List MemPlace},
  DataW.TrodAll enc P W 0 (fun _=>true) true ts vs ds ps→(∀p∈ps,W.sameAt W' p)→(∀p∈ps,sp' p.block=true)→DataW.TrodAll enc P W' 0 sp' true ts vs ds ps
 |[],_,_,_,_,h,_,_=>by
  obtain ⟨rfl,rfl,rfl⟩:=trodAll_nil h
  exact trodAll_mk0
 |t::ts,hr,_,_,_,h,hs,hsp=>by
  obtain ⟨v,vs,d,ds,p,q,rfl,rfl,rfl,h1,h2⟩:=trodAll_cons h
  exact trodAll_cons_mk (WideElems.Trod_stays hl (hr t (by simp)).1 (hr t (by simp)).2 h1 (fun p hp=>hs p (by simp [hp])) (fun p hp=>hsp p (by simp [hp])))
   (trodAll_stays hl (fun t ht=>hr t (by simp [ht])) h2 (fun p hp=>hs p (by simp [hp])) (fun p hp=>hsp p (by simp [hp])))
section
variable {H : Type} {enc:TypeId×Value→H} {P:Program}
theorem post_below {f:Func}{s:ChangeSpec}{apart fresh handsOn again:Bool}{W W':World}{args:Array Value}{v:Value}{ds gs:List (DataW H)}{before pa pv:List MemPlace}
  (hW:DataW.Whole enc P f.params.toList s.vars apart W args.toList ds gs before)
  (hres:∀(b:Nat) (sp:Nat→Bool) (hd:Bool),DataW.TrodAll enc P W' b sp hd f.resultTypes.toList (v.resultList f.resultTypes.size) (s.fn H (ds++gs)).results [])
  (hargs:∀sp:Nat→Bool,(∀p∈before,sp p.block=true)→DataW.TrodAll enc P W' 0 sp true f.params.toList args.toList (s.fn H (ds++gs)).args pa)
  (hvars:∀sp:Nat→Bool,(∀p∈before,sp p.block=true)→DataW.TrodVars enc P W' sp s.vars (s.fn H (ds++gs)).vars pv)
  (hps:before=pa++pv) (hb:Below W.heap.size W W')
  (hok:∀(j:Nat) (t:TypeId) (r:Value),f.resultTypes[j]?=some t→(v.resultList f.resultTypes.size)[j]?=some r→Value.okWide P W' .any 0 t r) :
  s.post enc P f apart fresh handsOn again W args v W':=by
 have hlt:∀p∈before,p.block<W.heap.size:=fun p hp=>hW.lt p hp
 have hold:∀p∈before,(fun b=>decide (b<W.heap.size)) p.block=true:=fun p hp=>by simpa using hlt p hp
 refine ⟨ds,gs,before,[],pa,pv,hW,hres _ _ _,hargs _ hold,hvars _ hold,World.keptBut_mono (fun p hp=>⟨hp,?_⟩) (hb.frame (·∈before)),fun _=>?_⟩
 ·rw [hps,List.mem_append] at hp
  exact Or.inr hp
 ·obtain ⟨_,_,_,_,_,hz,hn⟩:=hW
  refine ⟨hok,_,_,([]++pa)++pv,⟨[]++pa,pv,trodAll_append (hargs _ (fun _ _=>rfl)) (hres _ _ _),hvars _ (fun _ _=>rfl),rfl,?_,?_⟩,?_⟩
  ·intro b off hp
   have hin:MemPlace.cell b off∈before:=by rw [hps];simpa using hp
   rw [hb.frozen (hlt _ hin)]
   exact hz b off hin
  ·intro ha
   have:=hn ha
   rw [hps] at this
   simpa using this
  ·intro p hp _
   rw [hps]
   simpa using hp
end
theorem law_contract {P:Program}{fid:FuncId}{fn:Func}{s:ChangeSpec}{apart fresh handsOn again:Bool}{α:Type}{avs:α→List AV}{wf:α→Prop}{tb:TypeId}
  (hf:P.funcs[fid]?=some fn) (hbody:fn.body.isNone=false) (hlaid:laidOutB P=true) (hread:∀t∈fn.params.toList,P.readableRec t=true∧t<P.types.size)
  (hrt:fn.resultTypes=#[tb]) (htb:P.underlying tb=some .bool) (hvars:s.vars=[])
  (hs:∀(H:Type) (ds:List (DataW H)),ds.length=fn.params.size→s.fn H ds={results:=[.lit (.bool true)],args:=ds})
  (ra:RdA P fn.params.toList avs wf) (pc:∀a,wf a→PC P fid (avs a) (.p (.bool true)))
  {H:Type} {enc:TypeId×Value→H} {f:DataW H→Nat} {fa:List (DataW H)→Nat} (hb:Bulk f fa) {W:World} {base:Nat} {args:Array Value} {ds gs:List (DataW H)} {before:List MemPlace}
  (hval:∀(j:Nat) t v,fn.params[j]?=some t→args[j]?=some v→Value.okWide P W .any base t v)
  (hW:DataW.Whole enc P fn.params.toList s.vars apart W args.toList ds gs before) (hbd:fa (ds++gs)≤lim) (hG:GOk W (fun c _=>c<W.heap.size)) :
  Calls P fid args W fun e W'=>∃v,e=.returned v∧s.post enc P fn apart fresh handsOn again W args v W':=by
 have hW':=hW
 obtain ⟨p,q,hA,hV,rfl,hfz,hnd⟩:=hW
 rw [hvars] at hV
 obtain ⟨rfl,rfl⟩:=trodVars_none hV
 simp only [List.append_nil] at hW' hbd
 have hlen:∀{ts:List TypeId} {vs:List Value} {ds:List (DataW H)} {ps:List MemPlace},DataW.TrodAll enc P W 0 (fun _=>true) true ts vs ds ps→ds.length=ts.length:=by
  intro ts
  induction ts with
  |nil=>intro vs ds ps h;obtain ⟨-,rfl,-⟩:=trodAll_nil h;rfl
  |cons t ts ih=>intro vs ds ps h;obtain ⟨_,_,_,_,_,_,_,rfl,_,_,h2⟩:=trodAll_cons h;simp [ih h2]
 obtain ⟨a,ha,hrep⟩:=ra.get hb (fun j t v hj hv=>hval j t v (by simpa using hj) (by simpa using hv)) hA hbd
 have hpc:=pc a ha W (fun c _=>c<W.heap.size) args.toList (fun c o h=>h) hG hrep
 rw [hf] at hpc
 dsimp only at hpc
 rw [if_neg (by simp [hbody])] at hpc
 have hc:=hpc.2
 simp only [Array.toArray_toList] at hc
 refine hc.mono fun e W' ⟨v,fix',he,hstep,_,hr⟩=>?_
 obtain rfl:=hr.p_inv
 have hbel:=hstep.below
 have hspec:=hs H ds (by rw [hlen hA];simp)
 refine ⟨_,he,post_below (pa:=p) (pv:=[]) (gs:=[]) hW' ?_ ?_ ?_ (by simp) hbel ?_⟩
 ·intro b sp hd
  rw [List.append_nil,hspec,hrt]
  exact trodAll_cons_mk (shut_bool htb _) trodAll_mk0
 ·intro sp hsp
  rw [List.append_nil,hspec]
  exact trodAll_stays hlaid hread hA (fun x hx=>hbel.same (hW'.lt x hx)) hsp
 ·intro sp hsp
  rw [List.append_nil,hspec,hvars]
  rfl
 ·exact ok_one hrt rfl (okWide_bool_mk htb _)
end Go.Fw
end
section
set_option linter.unusedVariables false
set_option linter.unusedSimpArgs false
set_option linter.unusedSectionVars false
namespace Go.Fw
structure GVal.wf (v:GVal):Prop where
 Kind:inR .u8 v.Kind
 Num:v.Num<2 ^ 64
 Str:v.Str.length≤lim
 Ref:inR .i64 v.Ref
structure GKey.wf (v:GKey):Prop where
 Str:v.Str.length≤lim
 Sym:inR .i64 v.Sym
structure GDesc.wf (v:GDesc):Prop where
 Has:inR .u8 v.Has
 Value:v.Value.wf
 Get:v.Get.wf
 Set:v.Set.wf
structure GProp.wf (v:GProp):Prop where
 Key:v.Key.wf
 Desc:v.Desc.wf
structure GObj.wf (v:GObj):Prop where
 Kind:inR .u8 v.Kind
 Proto:v.Proto.wf
 Props:allWf GProp.wf v.Props
 Target:v.Target.wf
 Handler:v.Handler.wf
 Text:v.Text.length≤lim
structure GHeap.wf (v:GHeap):Prop where
 Objects:allWf GObj.wf v.Objects
structure GOut.wf (v:GOut):Prop where
 Kind:inR .u8 v.Kind
 Value:v.Value.wf
 Desc:v.Desc.wf
 Keys:allWf GKey.wf v.Keys
 Error:inR .u8 v.Error
 Text:v.Text.length≤lim
structure GSeen.wf (v:GSeen):Prop where
 Began:inR .i64 v.Began
 Object:inR .i64 v.Object
 Method:inR .u8 v.Method
 Key:v.Key.wf
 Out:v.Out.wf
structure GAsk.wf (v:GAsk):Prop where
 Method:inR .u8 v.Method
 Object:inR .i64 v.Object
 Key:v.Key.wf
 Desc:v.Desc.wf
 Value:v.Value.wf
 Receiver:v.Receiver.wf
 Args:allWf GVal.wf v.Args
structure GWant.wf (v:GWant):Prop where
 Kind:inR .u8 v.Kind
 Ask:v.Ask.wf
 Func:v.Func.wf
 This:v.This.wf
 For:v.For.wf
 Args:allWf GVal.wf v.Args
 Object:v.Object.wf
 Out:v.Out.wf
structure GFix.wf (v:GFix):Prop where
 proto:v.proto.wf
 keys:allWf GKey.wf v.keys
 desc:v.desc.wf
structure GFacts.wf (v:GFacts):Prop where
 Proto:v.Proto.wf
 Desc:v.Desc.wf
 Keys:allWf GKey.wf v.Keys
 Own:allWf GDesc.wf v.Own
end Go.Fw
end
section
set_option linter.unusedVariables false
set_option linter.unusedSimpArgs false
set_option linter.unusedSectionVars false
namespace Go.Fw
set_option linter.unusedVariables false
def law08_KeyNames : Bool:=
 true
end Go.Fw
end
section
set_option linter.unusedVariables false
set_option linter.unusedSimpArgs false
set_option linter.unusedSectionVars false
namespace Go.Fw
instance globK : Glob:=⟨[(1,Lib.pow10Tab.map fun z=>Value.int .u64 z)]⟩
end Go.Fw
end
section
set_option linter.unusedVariables false
set_option linter.unusedSimpArgs false
set_option linter.unusedSectionVars false
namespace Go.Fw
open Go.Proofs
set_option maxRecDepth 100000
theorem hmix : Tryd.prog.follows .mixedOrders=true:=by kernel_rfl
theorem pc_math_Float64bits (x0:Nat):PC Tryd.prog 52 [.p (.float .f64 x0)] (.p (.int .u64 (math_Float64bits x0))):=
 pc_ext1 (fn:=Tryd.f52) (e:=Extern.MathFloatBits.float64bits) (by kernel_rfl) (by kernel_rfl) (by kernel_rfl) (by kernel_rfl) (by kernel_rfl) rfl rfl rfl rfl
theorem pc_math_Float64frombits (x0:Int):PC Tryd.prog 51 [.p (.int .u64 x0)] (.p (.float .f64 (math_Float64frombits x0))):=
 pc_ext1 (fn:=Tryd.f51) (e:=Extern.MathFloatBits.float64frombits) (by kernel_rfl) (by kernel_rfl) (by kernel_rfl) (by kernel_rfl) (by kernel_rfl) rfl rfl rfl rfl
theorem pc_math_archTrunc (x0:Nat)(h:notNan x0):PC Tryd.prog 49 [.p (.float .f64 x0)] (.p (.float .f64 (math_archTrunc x0))):=
 pc_ext1 (fn:=Tryd.f49) (e:=Extern.MathFloor.toIntegral "math.archTrunc" .zero) (by kernel_rfl) (by kernel_rfl) (by kernel_rfl) (by kernel_rfl) (by kernel_rfl) rfl (trunc_run h) rfl rfl
def refCfg : RefCfg:=⟨21,24,22,29,30,37⟩
theorem refOk : RefOk Tryd.prog refCfg where
 vo:=fun args w=>run_callFunc_extern Tryd.func21 (by kernel_rfl) (by kernel_rfl) (by kernel_rfl) (e:=fun args=>Extern.ReflectliteValue.unpack (args.getD 0 (.tuple #[]))) (by kernel_rfl) args w
 ln:=fun args w=>run_callFunc_extern Tryd.func24 (by kernel_rfl) (by kernel_rfl) (by kernel_rfl) (e:=Extern.ReflectliteValue.method (Extern.ReflectliteValue.valueError "reflectlite.Value.Len" 0) Extern.ReflectliteValue.len) (by kernel_rfl) args w
 sw:=fun args w=>run_callFunc_extern Tryd.func22 (by kernel_rfl) (by kernel_rfl) (by kernel_rfl) (e:=Extern.ReflectliteSwapper.swapper "internal/reflectlite" (Extern.ReflectliteValue.valueError "Swapper")) (by kernel_rfl) args w
 l9:=fun args w=>run_callFunc_extern Tryd.func37 (by kernel_rfl) (by kernel_rfl) (by kernel_rfl) (e:=Extern.ReflectliteSwapper.swap false) (by kernel_rfl) args w
 n1:=by kernel_rfl
 n2:=by kernel_rfl
 n9:=by kernel_rfl
end Go.Fw
end
section
set_option linter.unusedVariables false
set_option linter.unusedSimpArgs false
set_option linter.unusedSectionVars false
set_option maxRecDepth 100000
namespace Go.Proofs
open Go.Shelf
def Tryd.laysM171_ren : Go.Shelf.Ren:=⟨fun|171=>19|243=>28|246=>43|283=>53|284=>54|285=>55|286=>56|129=>61|317=>60|318=>62|319=>63|320=>64|337=>66|338=>67|n=>n,fun|3=>3|9=>9|2=>2|4=>4|171=>82|0=>0|53=>80|37=>68|5=>5|173=>85|212=>91|51=>92|20=>20|213=>93|46=>77|232=>98|233=>99|n=>n,fun|17=>1|18=>2|19=>3|n=>n⟩
theorem Tryd.laysM171 : Go.Proofs.LaysM.n171 Tryd.prog Tryd.laysM171_ren:={
 mixed:=by kernel_rfl
 f129:=Tryd.func61.trans (congrArg some (by kernel_rfl))
 f171:=Tryd.func19.trans (congrArg some (by kernel_rfl))
 f243:=Tryd.func28.trans (congrArg some (by kernel_rfl))
 f246:=Tryd.func43.trans (congrArg some (by kernel_rfl))
 f283:=Tryd.func53.trans (congrArg some (by kernel_rfl))
 f284:=Tryd.func54.trans (congrArg some (by kernel_rfl))
 f285:=Tryd.func55.trans (congrArg some (by kernel_rfl))
 f286:=Tryd.func56.trans (congrArg some (by kernel_rfl))
 f317:=Tryd.func60.trans (congrArg some (by kernel_rfl))
 f318:=Tryd.func62.trans (congrArg some (by kernel_rfl))
 f319:=Tryd.func63.trans (congrArg some (by kernel_rfl))
 f320:=Tryd.func64.trans (congrArg some (by kernel_rfl))
 f337:=Tryd.func66.trans (congrArg some (by kernel_rfl))
 f338:=Tryd.func67.trans (congrArg some (by kernel_rfl))
 t0:=Tryd.underlying0
 a0:=Tryd.isAgg0
 z0:=Tryd.sizeOf0
 v0:=Tryd.zeroValue0
 t2:=Tryd.underlying2
 a2:=Tryd.isAgg2
 z2:=Tryd.sizeOf2
 v2:=Tryd.zeroValue2
 t3:=Tryd.underlying3
 a3:=Tryd.isAgg3
 z3:=Tryd.sizeOf3
 v3:=Tryd.zeroValue3
 t4:=Tryd.underlying4
 a4:=Tryd.isAgg4
 z4:=Tryd.sizeOf4
 v4:=Tryd.zeroValue4
 t5:=Tryd.underlying5
 a5:=Tryd.isAgg5
 z5:=Tryd.sizeOf5
 v5:=Tryd.zeroValue5
 t9:=Tryd.underlying9
 a9:=Tryd.isAgg9
 z9:=Tryd.sizeOf9
 v9:=Tryd.zeroValue9
 t20:=Tryd.underlying20
 a20:=Tryd.isAgg20
 z20:=Tryd.sizeOf20
 v20:=Tryd.zeroValue20
 t37:=Tryd.underlying68
 a37:=Tryd.isAgg68
 z37:=Tryd.sizeOf68
 v37:=Tryd.zeroValue68
 t46:=Tryd.underlying77
 a46:=Tryd.isAgg77
 z46:=Tryd.sizeOf77
 v46:=Tryd.zeroValue77
 t51:=Tryd.underlying92
 a51:=Tryd.isAgg92
 z51:=Tryd.sizeOf92
 v51:=Tryd.zeroValue92
 t53:=Tryd.underlying80
 a53:=Tryd.isAgg80
 z53:=Tryd.sizeOf80
 v53:=Tryd.zeroValue80
 t171:=Tryd.underlying82
 a171:=Tryd.isAgg82
 z171:=Tryd.sizeOf82
 v171:=Tryd.zeroValue82
 t173:=Tryd.underlying85
 a173:=Tryd.isAgg85
 z173:=Tryd.sizeOf85
 v173:=Tryd.zeroValue85
 t212:=Tryd.underlying91
 a212:=Tryd.isAgg91
 z212:=Tryd.sizeOf91
 v212:=Tryd.zeroValue91
 t213:=Tryd.underlying93
 a213:=Tryd.isAgg93
 z213:=Tryd.sizeOf93
 t232:=Tryd.underlying98
 a232:=Tryd.isAgg98
 z232:=Tryd.sizeOf98
 v232:=Tryd.zeroValue98
 t233:=Tryd.underlying99
 a233:=Tryd.isAgg99
 z233:=Tryd.sizeOf99
 v233:=Tryd.zeroValue99
 g17:=by kernel_rfl
 g18:=by kernel_rfl
 g19:=by kernel_rfl
 i0:=by kernel_rfl
 i2:=by kernel_rfl
 i3:=by kernel_rfl
 i4:=by kernel_rfl
 i5:=by kernel_rfl
 i9:=by kernel_rfl
 i20:=by kernel_rfl
 i37:=by kernel_rfl
 i46:=by kernel_rfl
 i51:=by kernel_rfl
 i53:=by kernel_rfl
 i171:=by kernel_rfl
 i173:=by kernel_rfl
 i212:=by kernel_rfl
 i232:=by kernel_rfl
 i233:=by kernel_rfl
 m17:=by kernel_rfl
 m18:=by kernel_rfl
 m19:=by kernel_rfl}
open Go.RowKit Go.Sort Go.Lib in
theorem Tryd.strconv_Itoa (n:Int)(h0 : -9223372036854775808≤n)(h1:n≤9223372036854775807)(w:World)(htab:Lib.TabIs Tryd.prog w "internal/strconv.uint64pow10" .u64 Lib.pow10Tab) :
 Calls Tryd.prog 19 #[.int .i64 n] w fun e w'=>e=.returned (.string ⟨(Lib.itoa n).toArray⟩)∧∃k os,w'=grow (w.drewN k) os:=Any.strconv_Itoa Tryd.laysM171 n h0 h1 w htab
end Go.Proofs
end
section
set_option linter.unusedVariables false
set_option linter.unusedSimpArgs false
set_option linter.unusedSectionVars false
namespace Go.Fw
set_option linter.unusedSectionVars false
set_option linter.unusedVariables false
variable [Glob]
def decF : Nat→Nat→List UInt8→List UInt8
 |0,u,acc=>UInt8.ofNat (48+u)::acc
 |f+1,u,acc=>bif Nat.ble 10 u then decF f (u / 10) (UInt8.ofNat (48+u % 10)::acc) else UInt8.ofNat (48+u)::acc
theorem decF_eq : ∀(f u:Nat) (acc:List UInt8),u<10 ^ (f+1)→decF f u acc=Lib.decDigits u++acc
 |0,u,acc,h=>by
  rw [decF,Lib.decDigits,dif_pos (by simpa using h)];simp
 |f+1,u,acc,h=>by
  rw [decF,Lib.decDigits]
  cases hb:Nat.ble 10 u
  ·have:u<10:=by
    rcases Nat.lt_or_ge u 10 with h|h
    ·exact h
    ·rw [Nat.ble_eq_true_of_le h] at hb;cases hb
   simp [this]
  ·have h10:10≤u:=Nat.le_of_ble_eq_true hb
   have hd:u / 10<10 ^ (f+1):=by
    rw [Nat.div_lt_iff_lt_mul (by omega)];rw [Nat.pow_succ] at h;exact h
   simp only [cond_true]
   rw [dif_neg (by omega),decF_eq f _ _ hd]
   simp
def itoaF : Int→List UInt8
 | .ofNat n=>decF 19 n []
 | .negSucc n=>45::decF 19 (n+1) []
theorem itoaF_eq {x:Int}(h : -9223372036854775808≤x∧x≤9223372036854775807):itoaF x=Lib.itoa x:=by
 have h0 : -9223372036854775808≤x:=h.1
 have h1:x≤9223372036854775807:=h.2
 have e:(10:Nat) ^ (19+1)=100000000000000000000:=by decide
 cases x with
 |ofNat n=>
  have:(n:Int)≤9223372036854775807:=h1
  show decF 19 n []=if (Int.ofNat n)<0 then _ else Lib.decDigits n
  rw [if_neg (by show ¬((n:Int)<0);omega),decF_eq 19 n [] (by omega)];simp
 |negSucc n=>
  show 45::decF 19 (n+1) []=if (Int.negSucc n)<0 then 45::Lib.decDigits (n+1) else _
  rw [if_pos (Int.negSucc_lt_zero n),decF_eq 19 (n+1) [] (by rw [e];omega)];simp
def xItoa (n:FuncId):Ext':=fun _ nv f args=>
 match args with
 |[.sc (.int .i64) (.li x)]=>bif Nat.beq f n&&(decide (-9223372036854775808≤x)&&decide (x≤9223372036854775807)) then some (.sc .str (.ls (itoaF x)),nv,[],false) else none
 |_=>none
theorem xItoa_ok {P:Program}{n:FuncId}(hI:∀x:Int,(-9223372036854775808≤x∧x≤9223372036854775807)→PC P n [.p (.int .i64 x)] (.str (Lib.itoa x))):∀σ:List AV,fzL σ=true→ExtOk P σ (xItoa n):=by
 intro σ hσ pc nv f args r h hp hs
 unfold xItoa at h
 split at h
 ·rename_i x
  cases hf:Nat.beq f n&&(decide (-9223372036854775808≤x)&&decide (x≤9223372036854775807))
  ·simp [hf] at h
  ·simp only [hf,cond_true,Option.some.injEq] at h
   simp only [Bool.and_eq_true,decide_eq_true_eq] at hf
   have:=Nat.eq_of_beq_eq_true hf.1
   subst this
   subst h
   refine ⟨?_,fun h=>by cases h⟩
   have hx:=hf.2
   have:=hI x hx
   rw [← itoaF_eq hx] at this
   exact this
 ·cases h
end Go.Fw
end
section
set_option linter.unusedVariables false
set_option linter.unusedSimpArgs false
set_option linter.unusedSectionVars false
namespace Go.Fw
open Go.Proofs Go.RowKit
set_option maxRecDepth 100000
theorem tab_met {w:World}{fix:Nat→Nat→Prop}(hG:GOk w fix):Lib.TabIs Tryd.prog w "internal/strconv.uint64pow10" .u64 Lib.pow10Tab:=by
 obtain ⟨ty,fz,h⟩:=hG.heap (g:=1) (row:=Lib.pow10Tab.map fun z=>Value.int .u64 z) rfl
 unfold Lib.TabIs World.var?
 rw [show Tryd.prog.globalNamed "internal/strconv.uint64pow10" = some 1 by kernel_rfl]
 simp [h]
theorem step_of_bel {w w':World}{fix:Nat→Nat→Prop}(hfix:∀c o,fix c o→c<w.heap.size)(h:RowKit.Below w.heap.size w w'):Step w.heap.size w (freeEnv fix) w' (freeEnv fix) where
 ext:=⟨fun _ _ h=>h,fun c o hc=>by
   have:=h.block c (hfix c o hc)
   simp [World.cell?,this]
  ,fun b hb=>rfl,fun c arr ty fz ha=>⟨arr,fz,(h.block c (Array.getElem?_eq_some_iff.1 ha).1).trans ha,rfl⟩⟩
 below:=h
 fixold:=fun _ _ _ h=>h
 keep:=fun c hc _=>h.block c hc
 ownnew:=fun b c o h0 _=>by cases h0
 fixnew:=fun _ _ h0 _=>.inl h0
theorem pc_of_calls {P:Program}{n:FuncId}{fn:Func}{args:List AV}{r:AV}(hfn:P.funcs[n]?=some fn)(hb:fn.body.isNone=false)(hname:fn.name≠ "runtime.NumGoroutine")
  (h:∀(w:World) (fix:Nat→Nat→Prop) (vs:List Value),GOk w fix→RepL w (freeEnv fix) args vs→Calls P n vs.toArray w fun e w'=>∃v,e=.returned v∧Below w.heap.size w w'∧∀w E,Rep w E r v):PC P n args r:=by
 intro w fix vs hfix hG hr
 rw [hfn]
 simp only [hb,Bool.false_eq_true,if_false]
 exact ⟨hname,(h w fix vs hG hr).mono fun e w' ⟨v,he,hbl,hrep⟩=>⟨v,fix,he,step_of_bel hfix hbl,fun c o hc=>Nat.lt_of_lt_of_le (hfix c o hc) hbl.size,hrep _ _⟩⟩
theorem repL1 {w:World}{E:Env}{a:AV}{vs:List Value}(h:RepL w E [a] vs):∃v,vs=[v]∧Rep w E a v:=by
 obtain ⟨h1,h2⟩:=h
 match vs,h1,h2 with
 |[v],_,h2=>exact ⟨v,rfl,h2 0 _ _ rfl rfl⟩
theorem rep_p {w:World}{E:Env}{v u:Value}(h:Rep w E (.p v) u):u=v:=by cases h;rfl
theorem rep_s (l:List UInt8)(w:World)(E:Env):Rep w E (.str l) (.string ⟨l.toArray⟩):=.str _ _ rfl
theorem itoa_ok : ∀x:Int,(-9223372036854775808≤x∧x≤9223372036854775807)→PC Tryd.prog 19 [.p (.int .i64 x)] (.str (Lib.itoa x)):=fun x0 h=>
 pc_of_calls Tryd.func19 (by kernel_rfl) (by decide +kernel) fun w fix vs hG hr=>by
  obtain ⟨v,rfl,h1⟩:=repL1 hr
  obtain rfl:=rep_p h1
  exact (Tryd.strconv_Itoa x0 h.1 h.2 w (tab_met hG)).mono fun e w' ⟨he,k,os,hw⟩=>⟨_,he,by rw [hw];exact Lib.below_grow _ w (Nat.le_refl _) k os,rep_s _⟩
end Go.Fw
end
section
set_option linter.unusedVariables false
set_option linter.unusedSimpArgs false
set_option linter.unusedSectionVars false
namespace Go.Fw
set_option linter.unusedVariables false
set_option maxRecDepth 100000
open Go.Proofs
noncomputable def xBase : Ext':=xOr (xItoa 19) (xOr (xNum 52 51 49) (xClone Tryd.prog))
theorem xBase_ok : ∀σ:List AV,fzL σ=true→ExtOk Tryd.prog σ xBase:=xOr_ok (xItoa_ok itoa_ok) (xOr_ok (xNum_ok pc_math_Float64bits pc_math_Float64frombits pc_math_archTrunc) xClone_ok)
def mdBase : Md:=mdT 784637716923335123155876674505115724205850579537803761312
def fcBase : FuncId→FCfg:=fcT [[],[],[],[0,1,2,3,4,6,8,10,12,13,14,15,16,17,18,19,20,21,22,24,25,26,40,41,42,43,44,47,48,49,50,51,54,55,56,57,58,61,62,63,64,65,68,69,70,71,72,75,76,77,78,79,82,83,84,85,86,115,116,119,120,123,124,127,128,131,132,165,166,167,170,171,174,175,176,179,180,183,184,185,188,189,192,193,194,197,198,204,205,206,209,210,211,214,215,216,219,220,221,224,227,230,233,236],[0,2,3,4],[0,2],[0,2,6,7,8],[1,2,3,4,5,10,11,12,15,16,17,18,21,22,23,24,25,26,27,28,29,30,31,34,35,36,44,45,46,47,48,49,61],[1,2,3,8,9,10,13,14,19,24],[1,2,7,8,9,10,13,14,15,16,17,18,19,20,21],[0,2],[0,1,2,3,17,18,19,20,21,24,27,28,31,32,33],[0,1,2,5,6,7,8,9,30,31,32,33,34,35,36,37],[1,2,3,4,5,11,14],[0,1,4,5],[1,2,3,8,9,10,13,14,15,16,17,20,21,28,29,30,31,32,33,34,35,36,37,38,44,45,48,60,61,62],[1,2,7,8,9],[0,2,3,7],[1,2,4,5,7,9,13,14,19,24,30],[0,2],[1,2,5],[],[],[1,2,4,5,6,7,11,26,31,49],[],[0,2,7,8,9,10,11,12,13,14,15,16,17,18,19,20,21,22,23,24],[0,1,4],[0,2,3,4,5,8,9,10,17,25,29,33,37],[0,2],[],[],[],[],[],[],[],[],[],[1,2,3,6,7,12,20,21,22,23,24,25,26],[1,2,3,4,8,9,10,11,12,13,14,15,16,17,18,19,20,21,22,26,31,42,50,62,67,79,86,106,117,131,142,143,144,145,155,156,157,158,168,169,170,171],[0,2],[0,2],[0,2],[0,1,4,5,6,7,9,11,15,16,17,23,34],[0,1,4],[0,1,4,5],[0,2,4],[0,2],[1,2,3,4,8,9,18,21],[],[0,2,3,4,7,17],[],[],[0,2,4],[0,2,3],[0,1,4,5,6,7,8,9,10,11,12,13,14,15,16,20,99,139,161],[0,1,2,3,4,10,11,12,13,14,15,16,17,18,22,23,26,27,28,30,34,46,68,89,94],[0,6,19],[1,2,3,4,8,11],[0,1,4],[0,2],[0,2,4,8,14],[0,2,3],[0,2],[0,2],[],[0,2,4],[0,2,4],[],[],[],[],[],[],[],[],[],[],[],[],[],[],[],[],[],[],[],[],[],[],[],[],[],[],[]]
noncomputable def i0 : Inl:=(inlRef Tryd.prog refCfg)
theorem i0_ok : ∀σ:List AV,fzL σ=true→InlOk Tryd.prog σ i0:=(inlRef_ok refOk)
def tab_law08_KeyNames : List (FuncId×List SV×SV):=[]
noncomputable def x_law08_KeyNames : Ext':=xOr (xTab tab_law08_KeyNames) xBase
theorem e_law08_KeyNames : sFnI Tryd.prog x_law08_KeyNames i0 mdBase fcBase 300 200 3 [] 0=some ⟨[((.lb true),(.sc .bool (.lb true)))],
 [],[]⟩:=by kernel_rfl
theorem pc_law08_KeyNames : PC Tryd.prog 3 [] (.p (.bool (law08_KeyNames))):=
 mk_pcXI (ρ:=[]) hmix (xOr_ok (xTab_ok tab_law08_KeyNames) xBase_ok) i0_ok e_law08_KeyNames (fzn)
  (sn)
  rfl (selL (by kernel_rfl))
end Go.Fw
end
section
set_option linter.unusedVariables false
set_option linter.unusedSimpArgs false
set_option linter.unusedSectionVars false
namespace Go.Fw
open Go.Proofs
set_option maxRecDepth 100000
end Go.Fw
end
section
set_option linter.unusedVariables false
set_option linter.unusedSimpArgs false
set_option linter.unusedSectionVars false
namespace Go.Fw
open Go.Proofs Go.Proofs.YteafpnononppbaaDoor Go.RowKit
set_option maxRecDepth 100000
theorem tab_lits : (Rows.laid_internal_strconv_uint64pow10:DataW Unit)=.agg (Lib.pow10Tab.map fun n=>.lit (.int .u64 n)):=by kernel_rfl
theorem tab_laid {W:World}(h:laidMetH Tryd.prog Rows.keyNamesUptoRow.laid W):W.var? Tryd.prog "internal/strconv.uint64pow10" = some (Lib.pow10Tab.map fun z=>Value.int .u64 z).toArray:=by
 rw [MakeChecks.laidMetH_plain _ _ _ (by kernel_rfl)] at h
 obtain ⟨ps,⟨_,_,_,_,_,_,_,_,_,_,⟨_,_,_,_,_,_,_,_,_,_,⟨g,t,cs,fuel,p,q,hg,ht,hv,hd,_,_⟩,_⟩,_⟩,_,_⟩:=h
 obtain rfl:=Option.some.inj ((show Tryd.prog.globalNamed "internal/strconv.uint64pow10" = some 1 by kernel_rfl).symm.trans hg)
 obtain rfl:=Option.some.inj ((show (Tryd.prog.globals[1]?).map (·.type)=some 91 by kernel_rfl).symm.trans ht)
 obtain ⟨xs,m,_,ex,hlen,hl,hel⟩:=DataW.trod_array Tryd.underlying91 hd
 have c5:Tryd.prog.cellsOf 80=1:=by kernel_rfl
 have c20:Tryd.prog.cellsOf 91=20:=by kernel_rfl
 rw [c20] at hlen
 rw [tab_lits] at ex
 have e3:(xs.map (·.1))=Lib.pow10Tab.map fun n=>.lit (.int .u64 n):=(DataW.agg.inj (Prod.mk.inj ex).1).symm
 rw [hv]
 congr 1
 apply Array.toList_inj.1
 show cs.toList=(Lib.pow10Tab.map fun z=>Value.int .u64 z)
 have hp:Lib.pow10Tab.length=20:=Lib.pow10Tab_length
 refine List.ext_getElem (by simp [hlen,hp]) fun r h1 h2=>?_
 have hr:r<20:=by omega
 have hE:=hel r hr
 rw [c5,Nat.mul_one,List.getElem?_eq_getElem (by omega)] at hE
 obtain ⟨z,e1,e2,_⟩:=DataW.trod_int Tryd.underlying80 hE
 have e4:(xs.map (·.1))[r]?=(Lib.pow10Tab.map fun n=>(DataW.lit (.int .u64 n):DataW Unit))[r]?:=by rw [e3]
 rw [List.getElem?_map,List.getElem?_map,List.getElem?_eq_getElem (by omega:r<xs.length),List.getElem?_eq_getElem (by omega:r<Lib.pow10Tab.length),e2] at e4
 have hz:z=Lib.pow10Tab[r]'(by omega):=by
  simpa using e4
 have e5:((cs.toList.drop r).take 1)[0]?=some (.int .u64 z):=by rw [e1];rfl
 have e6:cs.toList[r]?=some (.int .u64 z):=by simpa using e5
 rw [List.getElem?_eq_getElem h1] at e6
 rw [List.getElem_map,← hz]
 exact Option.some.inj e6
theorem gok_laid {W:World}(h:laidMetH Tryd.prog Rows.keyNamesUptoRow.laid W):GOk W (fun c _=>c<W.heap.size):=by
 have hv:=tab_laid h
 unfold World.var? at hv
 rw [show Tryd.prog.globalNamed "internal/strconv.uint64pow10" = some 1 by kernel_rfl] at hv
 simp only [Option.bind_some] at hv
 split at hv
 ·rename_i cs ty fz hc
  simp only [Option.some.injEq] at hv
  subst hv
  intro g row hg
  have:g=1∧row=Lib.pow10Tab.map fun z=>Value.int .u64 z:=by
   simp only [Glob.tab,gFind] at hg
   cases hb:Nat.beq 1 g with
   |false=>rw [hb] at hg;cases hg
   |true=>
    rw [hb] at hg
    exact ⟨(Nat.eq_of_beq_eq_true hb).symm,(Option.some.inj hg).symm⟩
  obtain ⟨rfl,rfl⟩:=this
  have hs:1<W.heap.size:=(Array.getElem?_eq_some_iff.1 hc).1
  refine ⟨⟨_,ty,fz,hc,by simp⟩,fun j v hj=>⟨hs,?_⟩⟩
  simp only [World.cell?,hc]
  simpa using hj
 ·cases hv
end Go.Fw
end
section
set_option linter.unusedVariables false
set_option linter.unusedSimpArgs false
set_option linter.unusedSectionVars false
namespace Go.Proofs.YteafpnononppbaaDoor.FwZ3
open Go.Fw
open Go.Proofs Go.Proofs.YteafpnononppbaaDoor Go.RowKit Go.ChangeShapes
set_option maxRecDepth 100000
set_option linter.unusedVariables false
theorem bulkA {H:Type}:Bulk (H:=H) Rows.uptoBulk Rows.uptoBulkAll where
 str:=fun b=>by simp [Rows.uptoBulk]
 sl:=fun e s=>by simp [Rows.uptoBulk]
 agg:=fun p=>by simp [Rows.uptoBulk]
 nil:=by simp [Rows.uptoBulkAll]
 cons:=fun d r=>by simp [Rows.uptoBulkAll]
 one:=fun d=>by
  cases d with
  |lit l=>cases l<;>simp [Rows.uptoBulk]
  |_=>simp [Rows.uptoBulk]
theorem own : ownKnob Tryd.prog.godebug=none:=by kernel_rfl
theorem args : RdA Tryd.prog [] (fun x:Unit=>[]) (fun x=>True):=
 rdA_nil
theorem contract (H:Type)(enc:TypeId×Value→H)(W:World)(base:Nat)(args':Array Value)(ds gs:List (DataW H))(before:List MemPlace)
  (hval:∀(j:Nat) t v,Tryd.f3.params[j]?=some t→args'[j]?=some v→Value.okWide Tryd.prog W .any base t v)
  (hW:DataW.Whole enc Tryd.prog Tryd.f3.params.toList Rows.keyNamesSpec.vars false W args'.toList ds gs before) (hk:Rows.uptoSmall H (ds++gs)=true) (hL:laidMetH Tryd.prog Rows.keyNamesUptoRow.laid W) :
  Calls Tryd.prog 3 args' W fun e W'=>∃v,e=.returned v∧Rows.keyNamesSpec.post enc Tryd.prog Tryd.f3 false true false false W args' v W':=
 law_contract (fid:=3) (fn:=Tryd.f3) (s:=Rows.keyNamesSpec) (tb:=4) (wf:=fun x:Unit=>True)
  (avs:=fun x=>[])
  Tryd.func3 (by kernel_rfl) (by kernel_rfl) (by have hp:Tryd.f3.params=#[]:=(by kernel_rfl);rw [hp];intro t ht;simp at ht)
  (by kernel_rfl) Tryd.underlying4 rfl
  (fun H ds h=>by
   have hp:Tryd.f3.params=#[]:=(by kernel_rfl)
   rw [hp] at h
   match ds,h with
   |[],_=>rfl)
  (by have hp:Tryd.f3.params=#[]:=(by kernel_rfl);rw [hp];exact args)
  (fun x h=>by
   have e:law08_KeyNames  = true:=rfl
   have:=pc_law08_KeyNames
   rw [e] at this
   exact this)
  bulkA hval hW (of_decide_eq_true hk) (gok_laid hL)
def cellsOfD : DataW Unit→Array Value
 | .agg l=>(l.map fun | .lit (.int k n)=>Value.int k n|_=>.int .u8 0).toArray
 |_=>#[]
noncomputable def laidWorld (os:Os):World:=
 let w0:=World.holding Tryd.prog os ⟨#[],#[],[]⟩
 let put (h:Array Obj) (g:Nat) (cs:Array Value):Array Obj:=h.modify g fun
  | .cells _ t frozen=>.cells cs t frozen
  |o=>o
 let h1:=put w0.heap ((Tryd.prog.globalNamed "math/bits.deBruijn32tab").getD 0) (cellsOfD Rows.laid_math_bits_deBruijn32tab)
 let h2:=put h1 ((Tryd.prog.globalNamed "math/bits.deBruijn64tab").getD 0) (cellsOfD Rows.laid_math_bits_deBruijn64tab)
 let h3:=put h2 ((Tryd.prog.globalNamed "internal/strconv.uint64pow10").getD 0) (cellsOfD Rows.laid_internal_strconv_uint64pow10)
 {w0 with heap:=h3}
theorem laid_met (os:Os)(args:Array Value):laidMet Tryd.prog Rows.keyNamesUptoRow.laid ((laidWorld os).forCall (fun _ _=>0) ⟨#[],args,[]⟩).memory:=
 (LaidIn.of_run (l:=[("math/bits.deBruijn32tab",Rows.laid_math_bits_deBruijn32tab),("math/bits.deBruijn64tab",Rows.laid_math_bits_deBruijn64tab),("internal/strconv.uint64pow10",Rows.laid_internal_strconv_uint64pow10)])
  [(Tryd.prog.globalNamed "math/bits.deBruijn32tab").getD 0,(Tryd.prog.globalNamed "math/bits.deBruijn64tab").getD 0,(Tryd.prog.globalNamed "internal/strconv.uint64pow10").getD 0] 8 (by kernel_rfl) (by kernel_rfl) (by kernel_rfl) (by kernel_rfl)).met
theorem witness_row (os:Os){H:Type}(enc:TypeId×Value→H) :
  (Rows.OpenSpec.upto Rows.keyNamesSpec).preRow enc Tryd.prog Tryd.f3 Rows.keyNamesUptoRow.domain false Rows.keyNamesUptoRow.laid ((laidWorld os).forCall (fun _ _=>0) ⟨#[],#[],[]⟩).memory #[]:=by
 have hw:(DataW.whole enc Tryd.prog ((laidWorld os).forCall (fun _ _=>0) ⟨#[],#[],[]⟩).memory Tryd.f3.params.toList (Rows.OpenSpec.upto Rows.keyNamesSpec).vars false (#[]:Array Value).toList 8).map (fun x=>(x.1,x.2.1)) =
   some ([],[]):=by kernel_rfl
 obtain ⟨⟨x1,x2,x3⟩,hx,hx1⟩:=Option.map_eq_some_iff.1 hw
 simp only [Prod.mk.injEq] at hx1
 obtain ⟨rfl,rfl⟩:=hx1
 exact OpenSpec.preRow_of_cond 8 hx (by kernel_rfl) (fun k hk=>by cases hk;rfl) (by kernel_rfl) (laid_met os _)
theorem lifted (os:Os)(started:os.Started)(H:Type)(enc:TypeId×Value→H)(F:Stop.Interp) :
  ReturnsInHanded {} Tryd.checked os 3 .any ((Rows.OpenSpec.upto Rows.keyNamesSpec).preRow enc Tryd.prog Tryd.f3 Rows.keyNamesUptoRow.domain false Rows.keyNamesUptoRow.laid) (((Rows.OpenSpec.upto Rows.keyNamesSpec).at F).post enc Tryd.prog Tryd.f3 false true false false):=by
 refine returnsInHanded_of_row (C:=Tryd.checked) (s:=Rows.OpenSpec.upto Rows.keyNamesSpec) own started (by kernel_rfl) Tryd.func3
  (witness_row_at (enc:=enc) (C:=Tryd.checked) false (laidWorld os) #[] rfl (by kernel_rfl) (by kernel_rfl) (by kernel_rfl) (witness_row os enc)) ?_
 intro W base args' ds gs before hval hW _ hk _ hL _ _
 exact contract H enc W base args' ds gs before hval hW (hk _ rfl) hL
end Go.Proofs.YteafpnononppbaaDoor.FwZ3
end
