
import Derived.Test.YtfccnpibdkkboaaGreatFwE
import Derived.Test.YtfccnpibdkkboaaGreatFwD
import Derived.Test.YtfccnpibdkkboaaGreatProg
set_option linter.unusedVariables false
set_option linter.unusedSimpArgs false
set_option linter.unusedSectionVars false
set_option linter.unnecessarySimpa false
section
namespace Go.Fw
variable [iZ]
abbrev GT :=List (Nat×Nat×Bool×AV)
abbrev GL :=List (Nat×Bool)
def gOn (fr:nP)(g:Nat)(w:Bool):Prop:=ji fr g=some (.p (.bool w))
def GA (G:GT)(fr:nP):Prop:=∀e∈G,(gOn fr e.2.1 e.2.2.1->ji fr e.1=some e.2.2.2)/\(¬gOn fr e.2.1 e.2.2.1->ji fr e.1=some (.p undef))
def LOn (fr:nP)(L:GL):Prop:=∀e∈L,gOn fr e.1 e.2
def LM : Bool->Bool->Bool
 |true,true=>true
 |false,false=>true
 |_,_=>false
def aoU (g:Nat)(w:Bool):GL->Bool
 |[]=>false
 |(k,v)::r=>match Nat.beq k g with|true=>(match LM v w with|true=>true|false=>aoU g w r)|false=>aoU g w r
def RY (M:MT):GT->Nat->Option GL
 |[],g=>(match fD M g with|some (.p (.bool _))=>some []|_=>none)
 |(t,g',w',v)::r,g=>match Nat.beq t g with
  |true=>(match v with | .p (.bool _)=>(match RY M r g' with|some L=>some ((g',w')::L)|none=>none)|_=>none)
  |false=>RY M r g
def yu (M:MT):GT->GL->MT
 |[],_=>M
 |(t,g,w,v)::r,L=>match aoU g w L with|true=>(t,v)::yu M r L|false=>yu M r L
def gfr (t:Nat):GT->Bool
 |[]=>true
 |(k,g,_,_)::r=>match Nat.beq k t with|true=>false|false=>(match Nat.beq g t with|true=>false|false=>gfr t r)
def Eb (ops:Array Oper)(M:MT)(G:GT):Option (Nat×Bool)->Option (Option (Nat×Bool)×GL)
 |none=>some (none,[])
 |some (j,w)=>match (ops[j]?).bind (·.dst) with
  |some g=>(match RY M G g with|some L=>some (some (g,w),(g,w)::L)|none=>none)
  |none=>none
def Ec (M:MT)(G:GT)(t:Nat):Option (Nat×Bool)->AV->Option (MT×GT)
 |none,v=>(match gfr t G with|true=>some ((t,v)::M,G)|false=>none)
 |some (g,w),v=>(match gfr t G with|true=>(match fD M t with|none=>some (M,(t,g,w,v)::G)|some _=>none)|false=>none)
def gH (M:MT)(G:GT):GL->Prop
 |[]=>True
 |(g,w)::L=>(match fD (yu M G L) g with|some (.p (.bool b))=>b=w|_=>True)/\gH M G L
theorem ahj {v w:Bool}(h:LM v w=true):v=w:=by cases v<;>cases w<;>first|rfl|cases h
theorem RZ {g:Nat}{w:Bool}:∀{L:GL},aoU g w L=true->(g,w)∈L
 |(k,v)::r,h=>by
  simp only [aoU] at h
  split at h
  .rename_i hk
   obtain rfl:=Nat.eq_of_beq_eq_true hk
   split at h
   .rename_i hb
    obtain rfl:=ahj hb
    exact List.mem_cons_self
   .exact List.mem_cons_of_mem _ (RZ h)
  .exact List.mem_cons_of_mem _ (RZ h)
section
variable {N : Nat} {M:MT} {G:GT} {fr:nP}
theorem GA.tl {e:Nat×Nat×Bool×AV}{r:GT}(h:GA (e::r) fr):GA r fr:=fun x hx=>h x (List.mem_cons_of_mem _ hx)
theorem R_ (hf:FA N M fr):∀{G:GT} {g:Nat} {L:GL},GA G fr->RY M G g=some L->((∃b,ji fr g=some (.p (.bool b)))\/ji fr g=some (.p undef))/\∀w,gOn fr g w->LOn fr L
 |[],g,L,_,h=>by
  simp only [RY] at h
  split at h
  .rename_i b hb
   simp only [Option.some.injEq] at h;subst h
   exact ⟨.inl ⟨b,hf.get _ _ hb⟩,fun w _ e he=>by cases he⟩
  .cases h
 |(t,g',w',v)::r,g,L,hg,h=>by
  simp only [RY] at h
  split at h
  .rename_i ht
   obtain rfl:=Nat.eq_of_beq_eq_true ht
   split at h
   .rename_i b
    split at h
    .rename_i L' hL
     simp only [Option.some.injEq] at h;subst h
     obtain ⟨q1,q2⟩:=hg _ List.mem_cons_self
     dsimp only at q1 q2
     obtain ⟨-,ih⟩:=R_ hf hg.tl hL
     by_cases hon:gOn fr g' w'
     .exact ⟨.inl ⟨b,q1 hon⟩,fun w _=>List.forall_mem_cons.2 ⟨hon,ih w' hon⟩⟩
     .refine ⟨.inr (q2 hon),fun w hw=>?_⟩
      unfold gOn at hw
      rw [q2 hon] at hw
      simp [undef] at hw
    .cases h
   .cases h
  .exact R_ hf hg.tl h
theorem FA.cons {t:Nat}{v:AV}(h:FA N M fr)(hv:ji fr t=some v):FA N ((t,v)::M) fr:=⟨h.len,fun u a hu=>by
 simp only [fD] at hu
 split at hu
 .rename_i he
  obtain rfl:=Nat.eq_of_beq_eq_true he
  rw [<- hu];exact hv
 .exact h.get u a hu⟩
theorem uM (hf:FA N M fr){L:GL}(hL:LOn fr L):∀{G:GT},GA G fr->FA N (yu M G L) fr
 |[],_=>hf
 |(t,g,w,v)::r,hg=>by
  simp only [yu]
  split
  .rename_i hm
   exact FA.cons (uM hf hL hg.tl) ((hg _ List.mem_cons_self).1 (hL _ (RZ hm)))
  .exact uM hf hL hg.tl
theorem KW (hf:FA N M fr)(hg:GA G fr):∀{L:GL},LOn fr L->gH M G L
 |[],_=>trivial
 |(g,w)::L,h=>by
  have h2:LOn fr L:=fun e he=>h e (List.mem_cons_of_mem _ he)
  refine ⟨?_,KW hf hg h2⟩
  split
  .rename_i b hb
   have:=(uM hf h2 hg).get _ _ hb
   have h1:=h _ List.mem_cons_self
   unfold gOn at h1
   rw [this] at h1
   simpa using h1
  .trivial
theorem acw {t:Nat}:∀{G:GT},gfr t G=true->∀e∈G,e.1≠t/\e.2.1≠t
 |[],_=>fun e he=>by cases he
 |(k,g,w,v)::r,h=>by
  simp only [gfr] at h
  split at h
  .cases h
  .rename_i h1
   split at h
   .cases h
   .rename_i h2
    exact List.forall_mem_cons.2 ⟨⟨fun e=>by rw [show k=t from e] at h1;simp at h1,fun e=>by rw [show g=t from e] at h2;simp at h2⟩,acw h⟩
theorem LP {t:Nat}{x:AV}(hlt:t<N)(hf:FA N M fr){s:Nat}(hs:s≠t):ji (pG fr t x) s=ji fr s:=by
 rw [oJ,if_neg (fun e=>hs e.1)]
theorem GA.put {t:Nat}{x:AV}(hg:GA G fr)(hfr:gfr t G=true)(hlt:t<N)(hf:FA N M fr):GA G (pG fr t x):=fun e he=>by
 obtain ⟨h1,h2⟩:=acw hfr e he
 unfold gOn
 rw [LP hlt hf h1,LP hlt hf h2]
 exact hg e he
end
theorem agh {N:Nat}{M:MT}{G:GT}{fr:nP}{ops:Array Oper}{t:Nat}{op:Op}{ty:TypeId}{pos:String}{lZ:Array Edge}{g:Option (Nat×Bool)}{γ:Option (Nat×Bool)}{L:GL}{v:AV}{M':MT}{G':GT}(hf:FA N M fr)(hg:GA G fr)
  (hc:Eb ops M G g=some (γ,L)) (hp:Ec M G t γ v=some (M',G')) (ht:Nat.blt t N=true) {k:Bool->Prop}
  (h1:LOn fr L->(FA N M' (pG fr t v)/\GA G' (pG fr t v)->k true)) (h2:FA N M' (pG fr t (.p undef))/\GA G' (pG fr t (.p undef))->k false):pV ops fr ⟨some t,op,ty,pos,lZ,g⟩ k:=by
 have hlt:t<N:=by simpa using ht
 unfold pV
 cases g with
 |none=>
  simp only [Eb,Option.some.injEq,Prod.mk.injEq] at hc
  obtain ⟨rfl,rfl⟩:=hc
  simp only [Ec] at hp
  split at hp
  .rename_i hfr
   simp only [Option.some.injEq,Prod.mk.injEq] at hp
   obtain ⟨rfl,rfl⟩:=hp
   exact h1 (fun e he=>by cases he) ⟨FA.put (d:=some t) hf ht,hg.put hfr hlt hf⟩
  .cases hp
 |some jw=>
  obtain ⟨j,w⟩:=jw
  simp only [Eb] at hc
  cases hd:(ops[j]?).bind (·.dst) with
  |none=>rw [hd] at hc;cases hc
  |some s=>
   rw [hd] at hc
   dsimp only at hc
   split at hc
   .rename_i L' hL
    simp only [Option.some.injEq,Prod.mk.injEq] at hc
    obtain ⟨rfl,rfl⟩:=hc
    obtain ⟨q1,q2⟩:=R_ hf hg hL
    simp only [Ec] at hp
    split at hp
    .rename_i hfr
     split at hp
     .rename_i hm
      simp only [Option.some.injEq,Prod.mk.injEq] at hp
      obtain ⟨rfl,rfl⟩:=hp
      have hst:s≠t:=by
       rintro rfl
       have key:∀{G:GT},gfr s G=true->RY M G s=some L'->False:=by
        intro G
        induction G with
        |nil=>intro _ h;simp only [RY,hm] at h;cases h
        |cons e r ih=>
         intro h h'
         obtain ⟨k,g',w',v'⟩:=e
         simp only [gfr] at h
         simp only [RY] at h'
         split at h
         .cases h
         .rename_i hk
          rw [hk] at h'
          split at h
          .cases h
          .exact ih h h'
       exact key hfr hL
      have hM:∀x,FA N M (pG fr t x):=fun x=>⟨by rw [gQ];exact hf.len,fun u a hu=>by
       rw [LP hlt hf (fun e=>by rw [e,hm] at hu;cases hu)];exact hf.get u a hu⟩
      have hat:∀x,ji (pG fr t x) t=some x:=fun x=>by rw [oJ,if_pos ⟨rfl,by rw [hf.len];exact hlt⟩]
      have hon:∀x,gOn (pG fr t x) s w↔gOn fr s w:=fun x=>by unfold gOn;rw [LP hlt hf hst]
      by_cases hw:gOn fr s w
      .refine dI.2 ⟨s,hd,dI.2 ⟨_,hw,?_⟩⟩
       dsimp only
       rw [show (w == w)=true by simp]
       exact h1 (List.forall_mem_cons.2 ⟨hw,q2 w hw⟩) ⟨hM _,List.forall_mem_cons.2 ⟨⟨fun _=>hat _,fun h=>absurd ((hon _).2 hw) h⟩,hg.put hfr hlt hf⟩⟩
      .have hk:=h2 ⟨hM _,List.forall_mem_cons.2 ⟨⟨fun h=>absurd ((hon _).1 h) hw,fun _=>hat _⟩,hg.put hfr hlt hf⟩⟩
       rcases q1 with ⟨b,hb⟩|hu
       .refine dI.2 ⟨s,hd,dI.2 ⟨_,hb,?_⟩⟩
        dsimp only
        rw [show (b == w)=false by
         cases e:b == w with
         |false=>rfl
         |true=>exact absurd (by rw [<- eq_of_beq e];exact hb) hw]
        exact hk
       .exact dI.2 ⟨s,hd,dI.2 ⟨_,hu,hk⟩⟩
     .cases hp
    .cases hp
   .cases hc
def gvF (T:Gt)(nx:Nat)(M:MT)(G:GT)(L:GL)(ah:AH):Op->Option (AV×List Nat)
 | .pick (.tmp c) x y=>(match fD (yu M G L) c with
  |some (.p (.bool b))=>(match y with
   | .const (.bool false)=>(match lI (yu M G ((c,true)::L)) x with|some (.p (.bool p))=>some (.p (.bool (b&&p)),[])|_=>none)
   |y=>(match x with
    | .const (.bool true)=>(match lI (yu M G ((c,false)::L)) y with|some (.p (.bool q))=>some (.p (.bool (b||q)),[])|_=>none)
    |x=>(match lI (yu M G ((c,true)::L)) x with
     |some (.p (.bool p))=>(match lI (yu M G ((c,false)::L)) y with|some (.p (.bool q))=>some (.p (.bool (bif b then p else q)),[])|_=>none)
     |_=>none)))
  |_=>none)
 |op=>(match opF T nx (yu M G L) ah op with|some ⟨v,[],rd⟩=>some (v,rd)|_=>none)
theorem acy {P:Program}{T:Gt}[hT:zH P T]{N nx:Nat}{M:MT}{G:GT}{L:GL}{ah:AH}{fr:nP}{op:Op}{v:AV}{rd:List Nat}(hf:FA N M fr)(hg:GA G fr)(hL:LOn fr L)(h:gvF T nx M G L ah op=some (v,rd)){K:nT->Prop}(hK:K ⟨v,[],rd⟩):JG P nx fr ah op K:=by
 have h0:=uM hf hL hg
 unfold gvF at h
 split at h
 .rename_i c x y
  split at h
  .rename_i b hb
   have hc:=h0.get _ _ hb
   refine dI.2 ⟨_,hc,?_⟩
   show aIf b _ _
   have hT':b=true->FA N (yu M G ((c,true)::L)) fr:=fun e=>uM hf (List.forall_mem_cons.2 ⟨by subst e;exact hc,hL⟩) hg
   have hF':b=false->FA N (yu M G ((c,false)::L)) fr:=fun e=>uM hf (List.forall_mem_cons.2 ⟨by subst e;exact hc,hL⟩) hg
   split at h
   .split at h
    .rename_i p hp
     simp only [Option.some.injEq,Prod.mk.injEq] at h
     obtain ⟨rfl,rfl⟩:=h
     cases b with
     |true=>exact dI.2 ⟨_,eP (hT' rfl) hp,hK⟩
     |false=>exact hK
    .cases h
   .split at h
    .split at h
     .rename_i q hq
      simp only [Option.some.injEq,Prod.mk.injEq] at h
      obtain ⟨rfl,rfl⟩:=h
      cases b with
      |true=>exact hK
      |false=>exact dI.2 ⟨_,eP (hF' rfl) hq,hK⟩
     .cases h
    .split at h
     .rename_i p hp
      split at h
      .rename_i q hq
       simp only [Option.some.injEq,Prod.mk.injEq] at h
       obtain ⟨rfl,rfl⟩:=h
       cases b with
       |true=>exact dI.2 ⟨_,eP (hT' rfl) hp,hK⟩
       |false=>exact dI.2 ⟨_,eP (hF' rfl) hq,hK⟩
      .cases h
     .cases h
  .cases h
 .split at h
  .rename_i he
   simp only [Option.some.injEq,Prod.mk.injEq] at h
   obtain ⟨rfl,rfl⟩:=h
   exact XH h0 he hK
  .cases h
section
variable {P : Program} {T:Gt} {ops:Array Oper} {N nx:Nat} {M:MT} {G:GT} {ah:AH} {Q:MQ} {rest:List Oper} {op:Op} {ty:TypeId} {pos:String} {lZ:Array Edge} {g:Option (Nat×Bool)}
def WG (P:Program)(ops:Array Oper)(l:List Oper)(N:Nat)(M:MT)(G:GT)(ah:AH)(nx:Nat)(Q:MQ):Prop:=∀i,ops.toList.drop i=l->∀fr,FA N M fr->GA G fr->OW P ops i fr ah nx (lft N Q)
theorem aiX {i nx':Nat}{fr:nP}{Q:AQ}(h:OW P ops i fr ah nx' Q)(hn:nx<=nx'):OW P ops i fr ah nx Q:=fun base w E a hs=>h base w E a ⟨hs.heap.weaken fun b hb=>Nat.le_trans hn hb,hs.fr,hs.defers⟩
theorem kgl {l:List Oper}(h:WL P ops l N M ah nx Q):WG P ops l N M G ah nx Q:=fun i hi fr hf _=>h i hi fr hf
theorem Si {l:List Oper}(h:WG P ops l N M [] ah nx Q):WL P ops l N M ah nx Q:=fun i hi fr hf=>h i hi fr hf (fun e he=>by cases he)
theorem kgV {t:Nat}{γ:Option (Nat×Bool)}{L:GL}{v:AV}{rd:List Nat}{M':MT}{G':GT}(h:WG P ops rest N M' G' ah (nx+1) Q)(hA:∀fr,FA N M fr->GA G fr->LOn fr L->∀K:nT->Prop,K ⟨v,[],rd⟩->JG P nx fr ah op K)
  (hc:Eb ops M G g=some (γ,L)) (hp:Ec M G t γ v=some (M',G')) (ht:Nat.blt t N=true):WG P ops (⟨some t,op,ty,pos,lZ,g⟩::rest) N M G ah nx Q:=fun i hi fr hf hg=>by
 obtain ⟨h1,h2⟩:=aoG hi
 exact XD h1 (K:=fun r=>r=⟨v,[],rd⟩/\(FA N M' (pG fr t v)/\GA G' (pG fr t v)))
  (fun r ⟨e,hr⟩=>by subst e;exact h _ h2 _ hr.1 hr.2)
  (agh hf hg hc hp ht (fun hL hr=>by rw [qH,if_pos rfl];exact hA fr hf hg hL _ ⟨rfl,hr⟩) fun hr=>by rw [qH,if_neg (by simp)];exact aiX (h _ h2 _ hr.1 hr.2) (Nat.le_succ _))
def ao8 (T:Gt)(ops:Array Oper)(N nx:Nat)(M:MT)(G:GT)(ah:AH)(o:Oper):Option (MT×GT×List Nat):=
 match o.dst with
 |none=>none
 |some t=>match Eb ops M G o.guard with
  |none=>none
  |some (γ,L)=>match gvF T nx M G L ah o.op with
   |none=>none
   |some (v,rd)=>match Ec M G t γ v with
    |none=>none
    |some (M',G')=>match Nat.blt t N with|true=>some (M',G',rd)|false=>none
def acz (T:Gt)(ops:Array Oper)(N:Nat)(ah:AH):List Oper->Nat->MT->GT->List Oper×Nat×MT×GT
 |[],nx,M,G=>([],nx,M,G)
 |o::l,nx,M,G=>match ao8 T ops N nx M G ah o with
  |some (M',G',_)=>acz T ops N ah l (nx+1) M' G'
  |none=>(o::l,nx,M,G)
theorem Vm [hT:zH P T]{o:Oper}{M':MT}{G':GT}{rd:List Nat}(hr:ao8 T ops N nx M G ah o=some (M',G',rd))(h:WG P ops rest N M' G' ah (nx+1) Q):WG P ops (o::rest) N M G ah nx Q:=by
 obtain ⟨d,op,ty,pos,lZ,g⟩:=o
 unfold ao8 at hr
 dsimp only at hr
 split at hr
 .cases hr
 .split at hr
  .cases hr
  .rename_i hc
   split at hr
   .cases hr
   .rename_i v rd' hv
    split at hr
    .cases hr
    .rename_i hp
     split at hr
     .rename_i ht
      simp only [Option.some.injEq,Prod.mk.injEq] at hr
      obtain ⟨rfl,rfl,rfl⟩:=hr
      exact kgV h (fun fr hf hg hL K hK=>acy hf hg hL hv hK) hc hp ht
     .cases hr
theorem Y9 [hT:zH P T]:∀{l:List Oper} {nx:Nat} {M:MT} {G:GT} {l':List Oper} {nx':Nat} {M':MT} {G':GT},acz T ops N ah l nx M G=(l',nx',M',G')->WG P ops l' N M' G' ah nx' Q->WG P ops l N M G ah nx Q
 |[],_,_,_,_,_,_,_,e,h=>by
  simp only [acz,Prod.mk.injEq] at e
  obtain ⟨rfl,rfl,rfl,rfl⟩:=e
  exact h
 |o::l,nx,M,G,l',nx',M',G',e,h=>by
  simp only [acz] at e
  split at e
  .rename_i hs
   exact Vm hs (Y9 e h)
  .simp only [Prod.mk.injEq] at e
   obtain ⟨rfl,rfl,rfl,rfl⟩:=e
   exact h
def agi (T:Gt)(ops:Array Oper)(N:Nat)(ah:AH):List Oper->Nat->MT->GT->Option (List Oper×Nat×MT×GT)
 |[],_,_,_=>none
 |o::l,nx,M,G=>match ao8 T ops N nx M G ah o with
  |some (M',G',_)=>some (acz T ops N ah l (nx+1) M' G')
  |none=>none
theorem kgr [hT:zH P T]{l:List Oper}{l':List Oper}{nx' n2:Nat}{M':MT}{G':GT}(h:WG P ops l' N M' G' ah n2 Q)(hr:agi T ops N ah l nx M G=some (l',nx',M',G'):=by exact rfl)(hm:nx'=n2:=by first|(simp only [Nat.reduceAdd];done)|(simp only [Nat.reduceAdd];exact rfl)|exact rfl):WG P ops l N M G ah nx Q:=by
 subst hm
 cases l with
 |nil=>cases hr
 |cons o l=>
  simp only [agi] at hr
  split at hr
  .rename_i hs
   simp only [Option.some.injEq] at hr
   exact Vm hs (Y9 hr h)
  .cases hr
theorem BQ {t:Nat}{f:FuncId}{args:Array Operand}{ts:Array TypeId}{az as0:List AV}{r:AV}{γ:Option (Nat×Bool)}{L:GL}{M':MT}{G':GT}(hp:gH M G L->PC P f az r)(h:WG P ops rest N M' G' ah (nx+1) Q)(hc:Eb ops M G g=some (γ,L):=by exact rfl)(hx:qw (yu M G L) args.toList=some as0:=by exact rfl)(hn:Us as0=az:=by exact rfl)(hq:Ec M G t γ r=some (M',G'):=by exact rfl)(hz:jZ az=true:=by exact BO.h)(hd:Nat.blt t N=true:=by exact rfl) :
  WG P ops (⟨some t,.call ⟨.value (.func f),args,ts⟩,ty,pos,lZ,g⟩::rest) N M G ah nx Q:=
 kgV h (fun fr hf hg hL K hK=>dI.2 ⟨_,mG (uM hf hL hg) hx,dI.2 ⟨az,by rw [<- hn] at hz;rw [<- hn];exact FX hz,az,r,fun _ _ _ h=>h,hp (KW hf hg hL),.inl ⟨.inl (vH (by rw [hn];exact hz)),by
  rw [jM (vH (by rw [hn];exact hz))];exact hK⟩⟩⟩) hc hq hd
theorem qP {p1:Prop}{t:Nat}{f:FuncId}{args:Array Operand}{ts:Array TypeId}{az as0:List AV}{r:AV}{γ:Option (Nat×Bool)}{L:GL}{M':MT}{G':GT}(hp:p1->PC P f az r)(h:WG P ops rest N M' G' ah (nx+1) Q)(hc:Eb ops M G g=some (γ,L):=by exact rfl)(hx:qw (yu M G L) args.toList=some as0:=by exact rfl)(hn:Us as0=az:=by exact rfl)(hq:Ec M G t γ r=some (M',G'):=by exact rfl)(hz:jZ az=true:=by exact BO.h)(hd:Nat.blt t N=true:=by exact rfl)(h1:gH M G L->p1:=by (intro hg;first|omega|assumption|(simp_all only [decide_eq_true_eq,decide_eq_false_iff_not,n_,og,oh,oq,yK,yL,kD,List.toList_toArray,Bool.or_eq_false_iff,Bool.and_eq_true,Bool.not_eq_true',Bool.not_eq_false',gH,yu,aoU,LM,fD,Nat.beq,and_true,true_and,forall_const,List.length_map,pW,List.length_cons,List.length_nil,decide_true,decide_false,cond_true,cond_false,Bool.not_true,Bool.not_false];done)|(simp_all only [decide_eq_true_eq,decide_eq_false_iff_not,n_,og,oh,oq,yK,yL,kD,List.toList_toArray,Bool.or_eq_false_iff,Bool.and_eq_true,Bool.not_eq_true',Bool.not_eq_false',gH,yu,aoU,LM,fD,Nat.beq,and_true,true_and,forall_const,List.length_map,pW,List.length_cons,List.length_nil,decide_true,decide_false,cond_true,cond_false,Bool.not_true,Bool.not_false];(try simp only [sLen] at *);omega))) :
  WG P ops (⟨some t,.call ⟨.value (.func f),args,ts⟩,ty,pos,lZ,g⟩::rest) N M G ah nx Q:=
 BQ (fun hg=>hp (h1 hg)) h hc hx hn hq hz hd
theorem qQ {p1 p2:Prop}{t:Nat}{f:FuncId}{args:Array Operand}{ts:Array TypeId}{az as0:List AV}{r:AV}{γ:Option (Nat×Bool)}{L:GL}{M':MT}{G':GT}(hp:p1->p2->PC P f az r)(h:WG P ops rest N M' G' ah (nx+1) Q)(hc:Eb ops M G g=some (γ,L):=by exact rfl)(hx:qw (yu M G L) args.toList=some as0:=by exact rfl)(hn:Us as0=az:=by exact rfl)(hq:Ec M G t γ r=some (M',G'):=by exact rfl)(hz:jZ az=true:=by exact BO.h)(hd:Nat.blt t N=true:=by exact rfl)(h1:gH M G L->p1:=by (intro hg;first|omega|assumption|(simp_all only [decide_eq_true_eq,decide_eq_false_iff_not,n_,og,oh,oq,yK,yL,kD,List.toList_toArray,Bool.or_eq_false_iff,Bool.and_eq_true,Bool.not_eq_true',Bool.not_eq_false',gH,yu,aoU,LM,fD,Nat.beq,and_true,true_and,forall_const,List.length_map,pW,List.length_cons,List.length_nil,decide_true,decide_false,cond_true,cond_false,Bool.not_true,Bool.not_false];done)|(simp_all only [decide_eq_true_eq,decide_eq_false_iff_not,n_,og,oh,oq,yK,yL,kD,List.toList_toArray,Bool.or_eq_false_iff,Bool.and_eq_true,Bool.not_eq_true',Bool.not_eq_false',gH,yu,aoU,LM,fD,Nat.beq,and_true,true_and,forall_const,List.length_map,pW,List.length_cons,List.length_nil,decide_true,decide_false,cond_true,cond_false,Bool.not_true,Bool.not_false];(try simp only [sLen] at *);omega)))(h2:gH M G L->p2:=by (intro hg;first|omega|assumption|(simp_all only [decide_eq_true_eq,decide_eq_false_iff_not,n_,og,oh,oq,yK,yL,kD,List.toList_toArray,Bool.or_eq_false_iff,Bool.and_eq_true,Bool.not_eq_true',Bool.not_eq_false',gH,yu,aoU,LM,fD,Nat.beq,and_true,true_and,forall_const,List.length_map,pW,List.length_cons,List.length_nil,decide_true,decide_false,cond_true,cond_false,Bool.not_true,Bool.not_false];done)|(simp_all only [decide_eq_true_eq,decide_eq_false_iff_not,n_,og,oh,oq,yK,yL,kD,List.toList_toArray,Bool.or_eq_false_iff,Bool.and_eq_true,Bool.not_eq_true',Bool.not_eq_false',gH,yu,aoU,LM,fD,Nat.beq,and_true,true_and,forall_const,List.length_map,pW,List.length_cons,List.length_nil,decide_true,decide_false,cond_true,cond_false,Bool.not_true,Bool.not_false];(try simp only [sLen] at *);omega))) :
  WG P ops (⟨some t,.call ⟨.value (.func f),args,ts⟩,ty,pos,lZ,g⟩::rest) N M G ah nx Q:=
 BQ (fun hg=>hp (h1 hg) (h2 hg)) h hc hx hn hq hz hd
theorem kgi {α:Type}[Inhabited α][hT:zH P T]{t:Nat}{tt:TypeId}{x y:Operand}{e:α->List AV}{l:List α}{fl:Bool}{k:IntKind}{n:Int}{el sz:Nat}{γ:Option (Nat×Bool)}{L:GL}{M':MT}{G':GT}(h:WG P ops rest N M' G' ah (nx+1) Q)(hc:Eb ops M G g=some (γ,L):=by exact rfl)
  (hx:lI (yu M G L) x=some (.sl (List.map e l) fl):=by exact rfl) (hy:lI (yu M G L) y=some (.p (.int k n)):=by exact rfl) (he:tN tt T.se=some (el,sz):=by exact rfl) (hq:Ec M G t γ (.vp (e (l.getD n.toNat default)) 0)=some (M',G'):=by exact rfl) (hl:∀x,(e x).length=sz:=by intro;exact rfl) (hb:gH M G L->0<=n/\n<l.length:=by (intro hg;first|omega|assumption|(simp_all only [decide_eq_true_eq,decide_eq_false_iff_not,n_,og,oh,oq,yK,yL,kD,List.toList_toArray,Bool.or_eq_false_iff,Bool.and_eq_true,Bool.not_eq_true',Bool.not_eq_false',gH,yu,aoU,LM,fD,Nat.beq,and_true,true_and,forall_const,List.length_map,pW,List.length_cons,List.length_nil,decide_true,decide_false,cond_true,cond_false,Bool.not_true,Bool.not_false];done)|(simp_all only [decide_eq_true_eq,decide_eq_false_iff_not,n_,og,oh,oq,yK,yL,kD,List.toList_toArray,Bool.or_eq_false_iff,Bool.and_eq_true,Bool.not_eq_true',Bool.not_eq_false',gH,yu,aoU,LM,fD,Nat.beq,and_true,true_and,forall_const,List.length_map,pW,List.length_cons,List.length_nil,decide_true,decide_false,cond_true,cond_false,Bool.not_true,Bool.not_false];(try simp only [sLen] at *);omega)))
  (hd:Nat.blt t N=true:=by exact rfl):WG P ops (⟨some t,.indexAddr tt x y,ty,pos,lZ,g⟩::rest) N M G ah nx Q:=
 kgV (rd:=[]) h (fun fr hf hg hL K hK=>by
  have h0:=uM hf hL hg
  obtain ⟨hu,b,hs,-⟩:=hT.se.get he
  obtain ⟨b0,b1⟩:=hb (KW hf hg hL)
  have hlt:n.toNat<l.length:=by omega
  refine dI.2 ⟨_,eP h0 hx,dI.2 ⟨_,eP h0 hy,dI.2 ⟨_,hs,b0,dI.2 ⟨e (l.getD n.toNat default),?_,hl _,hK⟩⟩⟩⟩
  rw [List.getElem?_map,List.getD_eq_getElem?_getD,List.getElem?_eq_getElem hlt];rfl) hc hq hd
variable {K V W:List Nat} {U:List qF} {iG i tp:Nat}
def WY (P:Program)(ops:Array Oper)(K:List Nat)(iG i tp:Nat)(l:List Oper)(N:Nat)(V W:List Nat)(U:List qF)(M:MT)(G:GT)(ah:AH)(Q:MQ):Prop:=(ops.toList.take tp).drop i=l->
 ∀fr fs,FA N M fr->GA G fr->(∀f∈fs,f∈U/\f.i∈V/\(f.wr=[]\/f.i∈W)/\(∀b∈f.rd,b<iG+i)/\∀b∈f.wr,b<iG+i)->Gg P ops (some K) iG i ((ops.toList.take tp).drop i) fr ah fs fun fr' eX=>lft N Q .normal fr' eX (iG+tp)
theorem xgl {l:List Oper}(h:WX P ops K iG i tp l N V W U M ah Q):WY P ops K iG i tp l N V W U M G ah Q:=fun hi fr fs hf _ hfs=>h hi fr fs hf hfs
theorem Vo {l:List Oper}(h:WY P ops K iG i tp l N V W U M [] ah Q):WX P ops K iG i tp l N V W U M ah Q:=fun hi fr fs hf hfs=>h hi fr fs hf (fun e he=>by cases he) hfs
def aaB (i:Nat)(V:List Nat):List Nat->List Nat
 |[]=>V
 |_::_=>i::V
def aaC (i:Nat)(U:List qF):List Nat->List qF
 |[]=>U
 |b::rd=>⟨i,b::rd,[]⟩::U
theorem xgV {t:Nat}{γ:Option (Nat×Bool)}{L:GL}{v:AV}{rd:List Nat}{M':MT}{G':GT}(h:WY P ops K iG (i+1) tp rest N (aaB i V rd) W (aaC i U rd) M' G' ah Q)(hA:∀fr,FA N M fr->GA G fr->LOn fr L->∀K:nT->Prop,K ⟨v,[],rd⟩->JG P (iG+i) fr ah op K)
  (hc:Eb ops M G g=some (γ,L)) (hp:Ec M G t γ v=some (M',G')) (ht:Nat.blt t N=true) (hb:RV (iG+(i+1)) rd=true) (hap:rd=[]\/∀f∈U,f.wr=[]):WY P ops K iG i tp (⟨some t,op,ty,pos,lZ,g⟩::rest) N V W U M G ah Q:=fun hi fr fs hf hg hfs=>by
 obtain ⟨h1,h2⟩:=Hq hi
 have hi1:(ops.toList.take tp).drop i=⟨some t,op,ty,pos,lZ,g⟩::(ops.toList.take tp).drop (i+1):=acn h1
 rw [hi1]
 unfold Gg
 have hV:∀j∈V,j∈aaB i V rd:=fun j hj=>by cases rd<;>first|exact hj|exact List.mem_cons_of_mem _ hj
 have hU:∀j∈U,j∈aaC i U rd:=fun j hj=>by cases rd<;>first|exact hj|exact List.mem_cons_of_mem _ hj
 have old:∀f∈fs,f∈aaC i U rd/\f.i∈aaB i V rd/\(f.wr=[]\/f.i∈W)/\(∀b∈f.rd,b<iG+(i+1))/\∀b∈f.wr,b<iG+(i+1):=fun f hm=>by
  obtain ⟨q0,q1,q2,q3,q4⟩:=hfs f hm
  exact ⟨hU _ q0,hV _ q1,q2,fun b hb=>by have:=q3 b hb;omega,fun b hb=>by have:=q4 b hb;omega⟩
 refine agh hf hg hc hp ht (fun hL hr=>?_) fun hr=>?_
 .rw [qH,if_pos rfl]
  refine hA fr hf hg hL _ ⟨(?_:∀f∈fs,EF K i rd [] f),h h2 _ _ hr.1 hr.2 fun f hm=>?_⟩
  .intro f hm
   rcases hap with rfl|hap
   .exact .inr ⟨fun b hb=>⟨List.not_mem_nil,List.not_mem_nil⟩,fun b hb=>List.not_mem_nil⟩
   .exact .inr ⟨fun b hb=>(by rw [hap f (hfs f hm).1] at hb;cases hb),fun b hb=>List.not_mem_nil⟩
  .unfold FM at hm
   dsimp only at hm
   split at hm
   .exact old f hm
   .rename_i hne
    rcases List.mem_cons.1 hm with rfl|hm
    .cases rd with
     |nil=>exact absurd rfl hne
     |cons b rd=>
      refine ⟨List.mem_cons_self,List.mem_cons_self,.inl rfl,fun c hc=>?_,fun c hc=>by cases hc⟩
      have:=List.all_eq_true.1 hb c hc
      simpa using this
    .exact old f hm
 .rw [qH,if_neg (by simp)]
  exact h h2 _ _ hr.1 hr.2 old
def noW : List qF->Bool
 |[]=>true
 |⟨_,_,wr⟩::r=>match wr with | []=>noW r|_::_=>false
theorem acA : ∀{U:List qF},noW U=true->∀f∈U,f.wr=[]
 |[],_,f,hf=>by cases hf
 |⟨j,rd,wr⟩::r,h,f,hf=>by
  simp only [noW] at h
  split at h
  .rcases List.mem_cons.1 hf with rfl|hf
   .rfl
   .exact acA h f hf
  .cases h
def ak_ (U:List qF):List Nat->Bool
 |[]=>true
 |_::_=>noW U
def ae5 (n:Nat):List Nat->Bool
 |[]=>true
 |b::r=>match Nat.blt b n with|true=>ae5 n r|false=>false
theorem Y_ {n:Nat}:∀{l:List Nat},ae5 n l=true->RV n l=true
 |[],_=>rfl
 |b::r,h=>by
  simp only [ae5] at h
  split at h
  .rename_i hb
   have:=Y_ h
   simp only [RV,List.all_cons,hb,Bool.true_and] at this ⊢
   exact this
  .cases h
def Za (T:Gt)(ops:Array Oper)(N iG i:Nat)(M:MT)(G:GT)(ah:AH)(U:List qF)(o:Oper):Option (MT×GT×List Nat):=
 match ao8 T ops N (iG+i) M G ah o with
 |some (M',G',rd)=>(match ak_ U rd with|true=>(match ae5 (iG+(i+1)) rd with|true=>some (M',G',rd)|false=>none)|false=>none)
 |none=>none
def acB (T:Gt)(ops:Array Oper)(N iG:Nat)(ah:AH):List Oper->Nat->MT->GT->List Nat->List qF->List Oper×Nat×MT×GT×List Nat×List qF
 |[],i,M,G,V,U=>([],i,M,G,V,U)
 |o::l,i,M,G,V,U=>match Za T ops N iG i M G ah U o with
  |some (M',G',rd)=>acB T ops N iG ah l (i+1) M' G' (aaB i V rd) (aaC i U rd)
  |none=>(o::l,i,M,G,V,U)
theorem Vp [hT:zH P T]{o:Oper}{M':MT}{G':GT}{rd:List Nat}(hr:Za T ops N iG i M G ah U o=some (M',G',rd))(h:WY P ops K iG (i+1) tp rest N (aaB i V rd) W (aaC i U rd) M' G' ah Q):WY P ops K iG i tp (o::rest) N V W U M G ah Q:=by
 obtain ⟨d,op,ty,pos,lZ,g⟩:=o
 unfold Za at hr
 split at hr
 .rename_i hs
  split at hr
  .rename_i hw
   split at hr
   .rename_i hlt
    simp only [Option.some.injEq,Prod.mk.injEq] at hr
    obtain ⟨rfl,rfl,rfl⟩:=hr
    unfold ao8 at hs
    dsimp only at hs
    split at hs
    .cases hs
    .split at hs
     .cases hs
     .rename_i hc
      split at hs
      .cases hs
      .rename_i v rd' hv
       split at hs
       .cases hs
       .rename_i hp
        split at hs
        .rename_i ht
         simp only [Option.some.injEq,Prod.mk.injEq] at hs
         obtain ⟨rfl,rfl,rfl⟩:=hs
         refine xgV h (fun fr hf hg hL K hK=>acy hf hg hL hv hK) hc hp ht (Y_ hlt) ?_
         cases rd' with
         |nil=>exact .inl rfl
         |cons b r=>exact .inr (acA hw)
        .cases hs
   .cases hr
  .cases hr
 .cases hr
theorem Zb [hT:zH P T]:∀{l:List Oper} {i:Nat} {M:MT} {G:GT} {V:List Nat} {U:List qF} {l':List Oper} {i':Nat} {M':MT} {G':GT} {V':List Nat} {U':List qF},acB T ops N iG ah l i M G V U=(l',i',M',G',V',U')->WY P ops K iG i' tp l' N V' W U' M' G' ah Q->WY P ops K iG i tp l N V W U M G ah Q
 |[],_,_,_,_,_,_,_,_,_,_,_,e,h=>by
  simp only [acB,Prod.mk.injEq] at e
  obtain ⟨rfl,rfl,rfl,rfl,rfl,rfl⟩:=e
  exact h
 |o::l,i,M,G,V,U,l',i',M',G',V',U',e,h=>by
  simp only [acB] at e
  split at e
  .rename_i hs
   exact Vp hs (Zb e h)
  .simp only [Prod.mk.injEq] at e
   obtain ⟨rfl,rfl,rfl,rfl,rfl,rfl⟩:=e
   exact h
def agj (T:Gt)(ops:Array Oper)(N iG:Nat)(ah:AH):List Oper->Nat->MT->GT->List Nat->List qF->Option (List Oper×Nat×MT×GT×List Nat×List qF)
 |[],_,_,_,_,_=>none
 |o::l,i,M,G,V,U=>match Za T ops N iG i M G ah U o with
  |some (M',G',rd)=>some (acB T ops N iG ah l (i+1) M' G' (aaB i V rd) (aaC i U rd))
  |none=>none
theorem xgr [hT:zH P T]{l l':List Oper}{i' n2:Nat}{M':MT}{G':GT}{V':List Nat}{U':List qF}(h:WY P ops K iG n2 tp l' N V' W U' M' G' ah Q)(hr:agj T ops N iG ah l i M G V U=some (l',i',M',G',V',U'):=by exact rfl)(hm:i'=n2:=by first|(simp only [Nat.reduceAdd];done)|(simp only [Nat.reduceAdd];exact rfl)|exact rfl):WY P ops K iG i tp l N V W U M G ah Q:=by
 subst hm
 cases l with
 |nil=>cases hr
 |cons o l=>
  simp only [agj] at hr
  split at hr
  .rename_i hs
   simp only [Option.some.injEq] at hr
   exact Vp hs (Zb hr h)
  .cases hr
theorem BR {t:Nat}{f:FuncId}{args:Array Operand}{ts:Array TypeId}{az as0:List AV}{r:AV}{γ:Option (Nat×Bool)}{L:GL}{M':MT}{G':GT}(hp:gH M G L->PC P f az r)(h:WY P ops K iG (i+1) tp rest N V W U M' G' ah Q)(hc:Eb ops M G g=some (γ,L):=by exact rfl)(hx:qw (yu M G L) args.toList=some as0:=by exact rfl)(hn:Us as0=az:=by exact rfl)(hq:Ec M G t γ r=some (M',G'):=by exact rfl)(hz:jZ az=true:=by exact BO.h)(hd:Nat.blt t N=true:=by exact rfl) :
  WY P ops K iG i tp (⟨some t,.call ⟨.value (.func f),args,ts⟩,ty,pos,lZ,g⟩::rest) N V W U M G ah Q:=
 xgV (rd:=[]) h (fun fr hf hg hL K hK=>dI.2 ⟨_,mG (uM hf hL hg) hx,dI.2 ⟨az,by rw [<- hn] at hz;rw [<- hn];exact FX hz,az,r,fun _ _ _ h=>h,hp (KW hf hg hL),.inl ⟨.inl (vH (by rw [hn];exact hz)),by
  rw [jM (vH (by rw [hn];exact hz))];exact hK⟩⟩⟩) hc hq hd rfl (.inl rfl)
theorem xgi {α:Type}[Inhabited α][hT:zH P T]{t:Nat}{tt:TypeId}{x y:Operand}{e:α->List AV}{l:List α}{fl:Bool}{k:IntKind}{n:Int}{el sz:Nat}{γ:Option (Nat×Bool)}{L:GL}{M':MT}{G':GT}(h:WY P ops K iG (i+1) tp rest N V W U M' G' ah Q)(hc:Eb ops M G g=some (γ,L):=by exact rfl)
  (hx:lI (yu M G L) x=some (.sl (List.map e l) fl):=by exact rfl) (hy:lI (yu M G L) y=some (.p (.int k n)):=by exact rfl) (he:tN tt T.se=some (el,sz):=by exact rfl) (hq:Ec M G t γ (.vp (e (l.getD n.toNat default)) 0)=some (M',G'):=by exact rfl) (hl:∀x,(e x).length=sz:=by intro;exact rfl) (hb:gH M G L->0<=n/\n<l.length:=by (intro hg;first|omega|assumption|(simp_all only [decide_eq_true_eq,decide_eq_false_iff_not,n_,og,oh,oq,yK,yL,kD,List.toList_toArray,Bool.or_eq_false_iff,Bool.and_eq_true,Bool.not_eq_true',Bool.not_eq_false',gH,yu,aoU,LM,fD,Nat.beq,and_true,true_and,forall_const,List.length_map,pW,List.length_cons,List.length_nil,decide_true,decide_false,cond_true,cond_false,Bool.not_true,Bool.not_false];done)|(simp_all only [decide_eq_true_eq,decide_eq_false_iff_not,n_,og,oh,oq,yK,yL,kD,List.toList_toArray,Bool.or_eq_false_iff,Bool.and_eq_true,Bool.not_eq_true',Bool.not_eq_false',gH,yu,aoU,LM,fD,Nat.beq,and_true,true_and,forall_const,List.length_map,pW,List.length_cons,List.length_nil,decide_true,decide_false,cond_true,cond_false,Bool.not_true,Bool.not_false];(try simp only [sLen] at *);omega)))
  (hd:Nat.blt t N=true:=by exact rfl):WY P ops K iG i tp (⟨some t,.indexAddr tt x y,ty,pos,lZ,g⟩::rest) N V W U M G ah Q:=
 xgV (rd:=[]) h (fun fr hf hg hL K hK=>by
  have h0:=uM hf hL hg
  obtain ⟨hu,b,hs,-⟩:=hT.se.get he
  obtain ⟨b0,b1⟩:=hb (KW hf hg hL)
  have hlt:n.toNat<l.length:=by omega
  refine dI.2 ⟨_,eP h0 hx,dI.2 ⟨_,eP h0 hy,dI.2 ⟨_,hs,b0,dI.2 ⟨e (l.getD n.toNat default),?_,hl _,hK⟩⟩⟩⟩
  rw [List.getElem?_map,List.getD_eq_getElem?_getD,List.getElem?_eq_getElem hlt];rfl) hc hq hd rfl (.inl rfl)
theorem qR {p1:Prop}{t:Nat}{f:FuncId}{args:Array Operand}{ts:Array TypeId}{az as0:List AV}{r:AV}{γ:Option (Nat×Bool)}{L:GL}{M':MT}{G':GT}(hp:p1->PC P f az r)(h:WY P ops K iG (i+1) tp rest N V W U M' G' ah Q)(hc:Eb ops M G g=some (γ,L):=by exact rfl)(hx:qw (yu M G L) args.toList=some as0:=by exact rfl)(hn:Us as0=az:=by exact rfl)(hq:Ec M G t γ r=some (M',G'):=by exact rfl)(hz:jZ az=true:=by exact BO.h)(hd:Nat.blt t N=true:=by exact rfl)(h1:gH M G L->p1:=by (intro hg;first|omega|assumption|(simp_all only [decide_eq_true_eq,decide_eq_false_iff_not,n_,og,oh,oq,yK,yL,kD,List.toList_toArray,Bool.or_eq_false_iff,Bool.and_eq_true,Bool.not_eq_true',Bool.not_eq_false',gH,yu,aoU,LM,fD,Nat.beq,and_true,true_and,forall_const,List.length_map,pW,List.length_cons,List.length_nil,decide_true,decide_false,cond_true,cond_false,Bool.not_true,Bool.not_false];done)|(simp_all only [decide_eq_true_eq,decide_eq_false_iff_not,n_,og,oh,oq,yK,yL,kD,List.toList_toArray,Bool.or_eq_false_iff,Bool.and_eq_true,Bool.not_eq_true',Bool.not_eq_false',gH,yu,aoU,LM,fD,Nat.beq,and_true,true_and,forall_const,List.length_map,pW,List.length_cons,List.length_nil,decide_true,decide_false,cond_true,cond_false,Bool.not_true,Bool.not_false];(try simp only [sLen] at *);omega))) :
  WY P ops K iG i tp (⟨some t,.call ⟨.value (.func f),args,ts⟩,ty,pos,lZ,g⟩::rest) N V W U M G ah Q:=
 BR (fun hg=>hp (h1 hg)) h hc hx hn hq hz hd
theorem qU {p1 p2:Prop}{t:Nat}{f:FuncId}{args:Array Operand}{ts:Array TypeId}{az as0:List AV}{r:AV}{γ:Option (Nat×Bool)}{L:GL}{M':MT}{G':GT}(hp:p1->p2->PC P f az r)(h:WY P ops K iG (i+1) tp rest N V W U M' G' ah Q)(hc:Eb ops M G g=some (γ,L):=by exact rfl)(hx:qw (yu M G L) args.toList=some as0:=by exact rfl)(hn:Us as0=az:=by exact rfl)(hq:Ec M G t γ r=some (M',G'):=by exact rfl)(hz:jZ az=true:=by exact BO.h)(hd:Nat.blt t N=true:=by exact rfl)(h1:gH M G L->p1:=by (intro hg;first|omega|assumption|(simp_all only [decide_eq_true_eq,decide_eq_false_iff_not,n_,og,oh,oq,yK,yL,kD,List.toList_toArray,Bool.or_eq_false_iff,Bool.and_eq_true,Bool.not_eq_true',Bool.not_eq_false',gH,yu,aoU,LM,fD,Nat.beq,and_true,true_and,forall_const,List.length_map,pW,List.length_cons,List.length_nil,decide_true,decide_false,cond_true,cond_false,Bool.not_true,Bool.not_false];done)|(simp_all only [decide_eq_true_eq,decide_eq_false_iff_not,n_,og,oh,oq,yK,yL,kD,List.toList_toArray,Bool.or_eq_false_iff,Bool.and_eq_true,Bool.not_eq_true',Bool.not_eq_false',gH,yu,aoU,LM,fD,Nat.beq,and_true,true_and,forall_const,List.length_map,pW,List.length_cons,List.length_nil,decide_true,decide_false,cond_true,cond_false,Bool.not_true,Bool.not_false];(try simp only [sLen] at *);omega)))(h2:gH M G L->p2:=by (intro hg;first|omega|assumption|(simp_all only [decide_eq_true_eq,decide_eq_false_iff_not,n_,og,oh,oq,yK,yL,kD,List.toList_toArray,Bool.or_eq_false_iff,Bool.and_eq_true,Bool.not_eq_true',Bool.not_eq_false',gH,yu,aoU,LM,fD,Nat.beq,and_true,true_and,forall_const,List.length_map,pW,List.length_cons,List.length_nil,decide_true,decide_false,cond_true,cond_false,Bool.not_true,Bool.not_false];done)|(simp_all only [decide_eq_true_eq,decide_eq_false_iff_not,n_,og,oh,oq,yK,yL,kD,List.toList_toArray,Bool.or_eq_false_iff,Bool.and_eq_true,Bool.not_eq_true',Bool.not_eq_false',gH,yu,aoU,LM,fD,Nat.beq,and_true,true_and,forall_const,List.length_map,pW,List.length_cons,List.length_nil,decide_true,decide_false,cond_true,cond_false,Bool.not_true,Bool.not_false];(try simp only [sLen] at *);omega))) :
  WY P ops K iG i tp (⟨some t,.call ⟨.value (.func f),args,ts⟩,ty,pos,lZ,g⟩::rest) N V W U M G ah Q:=
 BR (fun hg=>hp (h1 hg) (h2 hg)) h hc hx hn hq hz hd
theorem oWG {l:List Oper}(h:WG P ops l N M G ah nx Q):WG P ops l N M G ah nx Q:=h
theorem oWL {l:List Oper}(h:WL P ops l N M ah nx Q):WL P ops l N M ah nx Q:=h
theorem oWY {l:List Oper}(h:WY P ops K iG i tp l N V W U M G ah Q):WY P ops K iG i tp l N V W U M G ah Q:=h
theorem oWX {l:List Oper}(h:WX P ops K iG i tp l N V W U M ah Q):WX P ops K iG i tp l N V W U M ah Q:=h
theorem oGc {d:Option Tmp}{f:FuncId}{args:Array Operand}{ts:Array TypeId}(h:WG P ops (⟨d,.call ⟨.value (.func f),args,ts⟩,ty,pos,lZ,g⟩::rest) N M G ah nx Q):WG P ops (⟨d,.call ⟨.value (.func f),args,ts⟩,ty,pos,lZ,g⟩::rest) N M G ah nx Q:=h
theorem oYc {d:Option Tmp}{f:FuncId}{args:Array Operand}{ts:Array TypeId}(h:WY P ops K iG i tp (⟨d,.call ⟨.value (.func f),args,ts⟩,ty,pos,lZ,g⟩::rest) N V W U M G ah Q):WY P ops K iG i tp (⟨d,.call ⟨.value (.func f),args,ts⟩,ty,pos,lZ,g⟩::rest) N V W U M G ah Q:=h
theorem oLc {d:Option Tmp}{f:FuncId}{args:Array Operand}{ts:Array TypeId}(h:WG P ops (⟨d,.call ⟨.value (.func f),args,ts⟩,ty,pos,lZ,g⟩::rest) N M [] ah nx Q):WL P ops (⟨d,.call ⟨.value (.func f),args,ts⟩,ty,pos,lZ,g⟩::rest) N M ah nx Q:=Si h
theorem oXc {d:Option Tmp}{f:FuncId}{args:Array Operand}{ts:Array TypeId}(h:WY P ops K iG i tp (⟨d,.call ⟨.value (.func f),args,ts⟩,ty,pos,lZ,g⟩::rest) N V W U M [] ah Q):WX P ops K iG i tp (⟨d,.call ⟨.value (.func f),args,ts⟩,ty,pos,lZ,g⟩::rest) N V W U M ah Q:=Vo h
theorem oAW {c:Code}(h:mJ P c N M ah nx Q):mJ P c N M ah nx Q:=h
def mgC (c:Bool):AV->AV->Option AV
 | .p (.bool x),.p (.bool y)=>some (.p (.bool (bif c then x else y)))
 | .p (.int k x),.p (.int k' y)=>(match aiS k k' with|true=>some (.p (.int k (bif c then x else y)))|false=>none)
 | .p (.float .f64 x),.p (.float .f64 y)=>some (.p (.float .f64 (bif c then x else y)))
 | .str x,.str y=>some (.str (bif c then x else y))
 |_,_=>none
theorem acC {c:Bool}{a b v:AV}(h:mgC c a b=some v):v=bif c then a else b:=by
 unfold mgC at h
 split at h
 .cases h;cases c<;>rfl
 .split at h
  .rename_i hk
   have e:=of_decide_eq_true hk
   cases h;subst e;cases c<;>rfl
  .cases h
 .cases h;cases c<;>rfl
 .cases h;cases c<;>rfl
 .cases h
def mgL (c:Bool):List AV->List AV->Option (List AV)
 |[],[]=>some []
 |a::r,b::s=>(match mgC c a b with|some v=>(match mgL c r s with|some l=>some (v::l)|none=>none)|none=>none)
 |_,_=>none
theorem acD {c:Bool}:∀{r s l:List AV},mgL c r s=some l->l=bif c then r else s
 |[],[],l,h=>by cases h;cases c<;>rfl
 |[],_::_,l,h=>by cases h
 |_::_,[],l,h=>by cases h
 |a::r,b::s,l,h=>by
  simp only [mgL] at h
  split at h
  .rename_i hv
   split at h
   .rename_i hl
    cases h
    rw [acC hv,acD hl]
    cases c<;>rfl
   .cases h
  .cases h
def Bh (M' M:MT):Prop:=∀t a,fD M t=some a->fD M' t=some a
theorem aaD : Bh M M:=fun _ _ h=>h
theorem acE {M':MT}{t:Nat}{v:AV}(h:Bh M' M)(ht:fD M t=none:=by exact rfl):Bh ((t,v)::M') M:=fun u a hu=>by
 simp only [fD]
 split
 .rename_i he
  obtain rfl:=Nat.eq_of_beq_eq_true he
  rw [ht] at hu;cases hu
 .exact h u a hu
theorem alb {M':MT}{t:Nat}{v:AV}(h:Bh M' M):Bh ((t,v)::M') ((t,v)::M):=fun u a hu=>by
 simp only [fD] at hu ⊢
 split
 .rename_i he;rw [he] at hu;exact hu
 .rename_i he;rw [he] at hu;exact h u a hu
theorem FA.sub {M':MT}{fr:nP}(h:FA N M' fr)(hs:Bh M' M):FA N M fr:=⟨h.len,fun t a ht=>h.get t a (hs t a ht)⟩
def MgQ (cb:Bool)(M M2:MT)(ah wL:AH)(rJ:Nat):MQ:=fun e M' eX nx'=>e=.normal/\nx'=rJ/\(cb=true->Bh M' M2/\eX=wL)
def MgP (cb:Bool)(M M2:MT)(ah wL:AH)(nx rJ:Nat):Prop:=nx<=rJ/\(cb=false->Bh M M2/\ah=wL)
theorem mgB {cb:Bool}{M':MT}{nx' b sz:Nat}{row0 aiZ acF:List AV}(hb:ah b=some (.rows sz [row0]):=by exact rfl)(hm:mgL cb aiZ row0=some acF:=by exact rfl)(hM:Bh M' M:=by repeat' first|exact aaD|refine acE ?_):MgQ cb M M ah (upd ah b (some (.rows sz [acF]))) nx' .normal M' (upd ah b (some (.rows sz [aiZ]))) nx':=
 ⟨rfl,rfl,fun e=>⟨hM,by rw [acD hm,e];rfl⟩⟩
theorem ale {cb:Bool}{nx' b sz:Nat}{row0 acF:List AV}(hn:Nat.ble nx nx'=true:=by exact rfl)(hb:ah b=some (.rows sz [row0]):=by exact rfl)(hm:cb=false->acF=row0:=by intro e;simp only [e,cond_false]<;>rfl):MgP cb M M ah (upd ah b (some (.rows sz [acF]))) nx nx':=⟨Nat.le_of_ble_eq_true hn,fun e=>⟨aaD,by
 rw [hm e]
 funext k
 unfold upd
 split
 .subst k;exact hb
 .rfl⟩⟩
theorem mgS {cb:Bool}{M':MT}{nx' t:Nat}{x y z:AV}(ht:fD M t=some y:=by exact rfl)(hm:mgC cb x y=some z:=by exact rfl)(hM:Bh M' M:=by repeat' first|exact aaD|refine acE ?_):MgQ cb M ((t,z)::M) ah ah nx' .normal ((t,x)::M') ah nx':=
 ⟨rfl,rfl,fun e=>⟨by rw [acC hm,e];exact alb hM,rfl⟩⟩
theorem alf {cb:Bool}{nx' t:Nat}{y z:AV}(hn:Nat.ble nx nx'=true:=by exact rfl)(ht:fD M t=some y:=by exact rfl)(hm:cb=false->z=y:=by intro e;simp only [e,cond_false]<;>rfl):MgP cb M ((t,z)::M) ah ah nx nx':=⟨Nat.le_of_ble_eq_true hn,fun e=>⟨fun u a hu=>by
 simp only [fD] at hu
 split at hu
 .rename_i he
  obtain rfl:=Nat.eq_of_beq_eq_true he
  cases hu
  rw [ht,hm e]
 .exact hu,rfl⟩⟩
theorem ahk {c:Code}{nx':Nat}(h:mJ P c N M ah nx' Q)(hn:nx<=nx'):mJ P c N M ah nx Q:=fun fr hf base w E a hs=>h fr hf base w E a ⟨hs.heap.weaken fun b hb=>Nat.le_trans hn hb,hs.fr,hs.defers⟩
def mgT (T:Gt)(t:Nat):Bool:=match tN t T.bo with|some _=>true|none=>(match tN t T.eq with|some _=>true|none=>(match tN t T.ty with|some (_,16)=>true|_=>false))
def mgO (T:Gt):List Oper->Bool
 |[]=>false
 |[o]=>(match o.op with | .store t _ _=>mgT T t | .assign _=>(match tN o.type T.bo with|some _=>true|none=>false)|_=>false)
 |_::r=>mgO T r
def mgX (T:Gt):Code->Bool
 | .region _ ops false=>mgO T ops.toList
 |_=>false
theorem kcm [hT:zH P T]{Q':MQ}{c:Operand}{X Y:Code}{cb:Bool}{M2:MT}{wL:AH}{rJ:Nat}(hX:mJ P X N M ah nx (MgQ cb M M2 ah wL rJ))(hP:MgP cb M M2 ah wL nx rJ)(hY:mJ P Y N M2 wL rJ Q)(hs:mgX T X=true:=by exact rfl)(hc:lI M c=some (.p (.bool cb)):=by exact rfl):mJ P (.cond c X .skip) N M ah nx (qp (fun M ah nx=>mJ P Y N M ah nx Q) Q'):=by
 refine (jT hc (fun e=>hX.mono ?_) fun e=>nJ ?_)
 .rintro e' M' eX nx' ⟨rfl,rfl,q2⟩
  obtain ⟨q4,rfl⟩:=q2 e
  exact fun fr hf=>hY fr (hf.sub q4)
 .obtain ⟨q4,rfl⟩:=hP.2 e
  exact ahk (fun fr hf=>hY fr (hf.sub q4)) hP.1
end
end Go.Fw
end
section
namespace Go.Fw
variable [iZ]
section
variable {P : Program} {T:Gt} {N nx:Nat} {M:MT} {ah:AH} {Q:MQ}
def wU (t:Nat):List Nat->Bool
 |[]=>false
 |x::r=>match Nat.beq x t with|true=>true|false=>wU t r
def Zc (ts:List Nat):MT->Option MT
 |[]=>some []
 |(t,v)::r=>match wU t ts with
  |false=>(match Zc ts r with|some l=>some l|none=>none)
  |true=>(match Zc ts r with|some l=>some ((t,v)::l)|none=>none)
theorem Sj {ts:List Nat}:∀{M M':MT},Zc ts M=some M'->∀t,fD M' t=(match wU t ts with|false=>none|true=>fD M t)
 |[],M',h,t=>by
  cases h;cases wU t ts<;>rfl
 |(t,v)::r,M',h,u=>by
  simp only [Zc] at h
  split at h
  .rename_i ht
   split at h
   .rename_i l hl
    cases h
    rw [Sj hl u]
    cases hu:wU u ts with
    |false=>rfl
    |true=>
     simp only [fD]
     split
     .rename_i he
      obtain rfl:=Nat.eq_of_beq_eq_true he
      rw [ht] at hu;cases hu
     .rfl
   .cases h
  .rename_i ht
   split at h
   .rename_i l hl
    cases h
    simp only [fD]
    split
    .rename_i he
     obtain rfl:=Nat.eq_of_beq_eq_true he
     rw [ht]
    .exact Sj hl u
   .cases h
theorem IJ {ts:List Nat}{M M':MT}(h:Zc ts M=some M'):Bh M M':=fun t a ha=>by
 rw [Sj h] at ha
 split at ha
 .cases ha
 .exact ha
def opR : AV->List Nat->List Nat
 | .op b _ _ _,l=>b::l
 | .os b _ _ _,l=>b::l
 |_,l=>l
def O7 : MT->List Nat
 |[]=>[]
 |(_,v)::r=>opR v (O7 r)
theorem zY : ∀{l:List AV},jZ l=true↔∀x∈l,x.fz=true
 |[]=>by simp [jZ]
 |a::r=>by simp [jZ,zY (l:=r)]
instance {l : List AV} {n:Nat} [h:BO l]:BO (l.take n):=⟨zY.2 fun x hx=>zY.1 h.h x (List.mem_of_mem_take hx)⟩
instance {l : List AV} {n:Nat} [h:BO l]:BO (l.drop n):=⟨zY.2 fun x hx=>zY.1 h.h x (List.mem_of_mem_drop hx)⟩
instance {l m:List AV} [h:BO l] [k:BO m]:BO (l++m):=⟨zY.2 fun x hx=>(List.mem_append.1 hx).elim (zY.1 h.h x) (zY.1 k.h x)⟩
instance {l m:List AV} {n:Nat} [h:BO l] [k:BO m]:BO (lay l n m):=⟨(inferInstance:BO (l.take n++m++l.drop (n+m.length))).h⟩
instance {l : List AV} {n:Nat} [h:BO l]:BP (.vp l n):=⟨h.h⟩
class JA (a:AV):Prop where h:a.refs=[]
class zl (l:List AV):Prop where h:jR l=[]
class Bj (l:List (List AV)):Prop where h:jI l=[]
theorem uD : ∀{l:List AV},jR l=[]↔∀x∈l,x.refs=[]
 |[]=>by simp [jR]
 |a::r=>by simp [jR,uD (l:=r)]
instance (priority :=low) {a:AV} [h:BP a]:JA a:=⟨zh (oL h.h)⟩
instance (priority :=low) {l:List AV} [h:BO l]:zl l:=⟨jM (qY h.h)⟩
instance {b : Bool}:JA (.sl [] b):=⟨rfl⟩
instance {v : Value}:JA (.p v):=⟨rfl⟩
instance {v : List UInt8}:JA (.str v):=⟨rfl⟩
instance : zl []:=⟨rfl⟩
instance {a : AV} {l:List AV} [h:JA a] [k:zl l]:zl (a::l):=⟨by simp only [jR,h.h,k.h,List.append_nil]⟩
instance {l : List AV} [h:zl l]:JA (.agg l):=⟨h.h⟩
instance {l : List AV} [h:zl l]:JA (.kS l):=⟨h.h⟩
instance {l : List AV} {n:Nat} [h:zl l]:JA (.vp l n):=⟨h.h⟩
instance {f : Fn} {l m:List AV} [h:zl l] [k:zl m]:JA (.fn f l m):=⟨by simp only [AV.refs,h.h,k.h,List.append_nil]⟩
instance {l : List AV} {n:Nat} [h:zl l]:zl (l.take n):=⟨uD.2 fun x hx=>uD.1 h.h x (List.mem_of_mem_take hx)⟩
instance {l : List AV} {n:Nat} [h:zl l]:zl (l.drop n):=⟨uD.2 fun x hx=>uD.1 h.h x (List.mem_of_mem_drop hx)⟩
instance {l m:List AV} [h:zl l] [k:zl m]:zl (l++m):=⟨uD.2 fun x hx=>(List.mem_append.1 hx).elim (uD.1 h.h x) (uD.1 k.h x)⟩
instance {l m:List AV} {n:Nat} [h:zl l] [k:zl m]:zl (lay l n m):=⟨(inferInstance:zl (l.take n++m++l.drop (n+m.length))).h⟩
instance {a : AV} [h:JA a]:zl a.cells:=⟨uD.2 fun x hx=>by
 cases a with
 |agg l=>exact uD.1 h.h x hx
 |_=>simp only [AV.cells,List.mem_singleton] at hx;subst hx;exact h.h⟩
instance : Bj []:=⟨rfl⟩
instance {r : List AV} {rs:List (List AV)} [h:zl r] [k:Bj rs]:Bj (r::rs):=⟨by simp only [jI,h.h,k.h,List.append_nil]⟩
theorem Sl : ∀{l:List (List AV)},jI l=[]↔∀x∈l,jR x=[]
 |[]=>by simp [jI]
 |a::r=>by simp [jI,Sl (l:=r)]
instance {r : List AV} {rs:List (List AV)} {n:Nat} [h:zl r] [k:Bj rs]:Bj (rs.set n r):=⟨Sl.2 fun x hx=>(List.mem_or_eq_of_mem_set hx).elim (Sl.1 k.h x) fun e=>by rw [e];exact h.h⟩
theorem Ed {a:AV}{nx:Nat}(h:a.refs=[]):∀b∈a.refs,b<nx:=fun b hb=>by rw [h] at hb;cases hb
def kbF (ah:AH):List Nat->Option (List (Nat×pI))
 |[]=>some []
 |k::r=>match ah k with
  |some b=>(match kbF ah r with|some l=>some ((k,b)::l)|none=>none)
  |none=>none
theorem IK : ∀{ks:List Nat} {l:List (Nat×pI)},kbF ah ks=some l->C9 l ah
 |[],l,h=>by cases h;trivial
 |k::r,l,h=>by
  simp only [kbF] at h
  split at h
  .rename_i hb
   split at h
   .rename_i hl
    cases h
    exact ⟨hb,IK hl⟩
   .cases h
  .cases h
theorem FA.app {fr:nP}:∀{vs M1:MT},(∀x∈vs,ji fr x.1=some x.2)->FA N M1 fr->FA N (vs++M1) fr
 |[],_,_,h=>h
 |(t,v)::r,M1,hv,h=>FA.cons (FA.app (fun x hx=>hv x (List.mem_cons_of_mem _ hx)) h) (hv _ List.mem_cons_self)
theorem FA.vs {fr:nP}{vs:MT}(h:FA N M fr)(hv:ML M vs):∀x∈vs,ji fr x.1=some x.2:=by
 induction vs with
 |nil=>intro x hx;cases hx
 |cons y r ih=>
  intro x hx
  rcases List.mem_cons.1 hx with rfl|hx
  .exact h.get _ _ hv.1
  .exact ih hv.2 x hx
end
end Go.Fw
end
section
namespace Go.Fw
variable [iZ]
section
variable {P : Program} {T:Gt} {ops:Array Oper} {rest:List Oper} {N nx:Nat} {M:MT} {ah:AH} {Q:MQ} {ty:TypeId} {pos:String} {lZ:Array Edge} {g:Option (Nat×Bool)}
structure KV {α:Type}(v:α):Prop
theorem ae6 {i t:Nat}{a:AV}(ht:fD M t=some a)(h:a.bnd->tJ P ops i N M ah nx Q):tJ P ops i N M ah nx Q:=fun fr hf base w E act hs=>by
 obtain ⟨v,hv,hrep⟩:=hs.fr.get t a (hf.get t a ht)
 exact h (RF hrep) fr hf base w E act hs
theorem kbd {t:Nat}{a:AV}(h:a.bnd->WL P ops rest N M ah nx Q)(ht:fD M t=some a:=by exact rfl):WL P ops rest N M ah nx Q:=fun i hi=>ae6 ht fun hb=>h hb i hi
theorem Zd {b sz:Nat}{rs:List (List AV)}(h:ah b=some (.rows sz rs))(hc:iM rs=true):rch ah aoK [b]=[b]:=by
 have h1:pR ah b=[]:=by unfold pR;rw [h];exact rX hc
 have h2:[b].flatMap (pR ah)=[]:=by simp [h1]
 show [b]++rch ah 2 ([b].flatMap (pR ah))=[b]
 rw [h2];rfl
theorem ae7 (t:Nat)(a:AV)(M:MT):fD ((t,a)::M) t=some a:=by
 unfold fD;simp only [Nat.beq_refl]
theorem EP {α:Type}{e:α->List AV}(h:∀x,jZ (e x)=true):∀{l:List α},iM (List.map e l)=true
 |[]=>rfl
 |x::r=>by simp only [List.map,iM,qY (h x),EP h (l:=r),Bool.and_self]
theorem agk {rs:List (List AV)}{f:Bool}(hc:iM rs=true):(AV.sl rs f).clean=true:=by simpa [AV.clean] using hc
theorem Ze {i t b sz len:Nat}{rs:List (List AV)}(ht:fD M t=some (.os b sz 0 len))(hd:Nat.blt t N=true)(hb:ah b=some (.rows sz rs))(hc:iM rs=true)(hl:rs.length=len)(h:tJ P ops i N ((t,.sl rs false)::M) (upd ah b none) nx Q):tJ P ops i N M ah nx Q:=
 acp ht hd (yH hb hc hl) (agk hc) (by rw [show (AV.os b sz 0 len).refs=[b] from rfl,Zd hb hc];exact h)
theorem Zf {c:Code}{t b sz len:Nat}{rs:List (List AV)}(ht:fD M t=some (.os b sz 0 len))(hd:Nat.blt t N=true)(hb:ah b=some (.rows sz rs))(hc:iM rs=true)(hl:rs.length=len)(h:mJ P c N ((t,.sl rs false)::M) (upd ah b none) nx Q):mJ P c N M ah nx Q:=
 Vj ht hd (yH hb hc hl) (agk hc) (by rw [show (AV.os b sz 0 len).refs=[b] from rfl,Zd hb hc];exact h)
theorem ai0 [hT:zH P T]{α:Type}{e:α->List AV}{l:List α}{t t1 t2 s2 el sz YK:Nat}{x1:Operand}{args:Array Operand}{ts:Array TypeId}{fl:Bool}{z:List AV}(h:WL P ops rest N ((t,.os nx sz 0 l.length)::M) (upd ah nx (some (.rows sz (List.map e l)))) (nx+1) Q)
  (ha:args.toList=[x1,.tmp s2]:=by exact rfl) (hx:lI M x1=some (.sl [] true):=by exact rfl) (hy:fD M s2=some (.sl (List.map e l) fl):=by exact rfl) (ht:ts[0]?=some t1:=by exact rfl) (ht2:ts[1]?=some t2:=by exact rfl) (he:tN t1 T.se=some (el,sz):=by exact rfl) (he2:tN t2 T.se=some (el,YK):=by exact rfl) (hz:tN el T.ze=some z:=by exact rfl) (hzl:z.length=sz:=by exact rfl) (hs:Nat.beq sz 0=false:=by exact rfl) (hl:∀x,(e x).length=sz:=by intro;exact rfl)
  (hg:gK ops M g=some true:=by exact rfl) (hd:Nat.blt t N=true:=by exact rfl):WL P ops (⟨some t,.call ⟨.builtin .append,args,ts⟩,ty,pos,lZ,g⟩::rest) N M ah nx Q:=kbd (fun hb=>fun i hi=>by
 let ⟨h1,h2⟩:=aoG hi
 obtain ⟨e1,b,e2,e3⟩:=hT.se.get he
 obtain ⟨e4,_⟩:=hT.se.get he2
 refine aeO (e:=(sz,b)) (ys:=List.map e l) (f:=fl) h1 (RU hg) hd ?_ ht ht2 e2 e3 (fun h0=>by rw [show sz=0 from h0] at hs;cases hs) e4 e1 (hT.ze.get hz).1 hzl (fun row hr=>?_) hb.1 ?_
 .have hy':lI M (.tmp s2)=some (.sl (List.map e l) fl):=hy
  rw [ha];simp only [qw,hx,hy']
 .obtain ⟨x,_,rfl⟩:=List.mem_map.1 hr
  exact hl x
 .rw [List.length_map];exact h _ h2) hy
inductive ai1 : Prop|mk
theorem C_ (kf:ai1)[hT:zH P T]{α:Type}{e:α->List AV}{l:List α}{t t1 t2 s1 s2 el sz YK:Nat}{args:Array Operand}{ts:Array TypeId}{fl:Bool}{z:List AV}(h:WL P ops rest N ((t,.sl (List.map e l) false)::(t,.os nx sz 0 l.length)::M) ah (nx+1) Q)
  (ha:args.toList=[.tmp s1,.tmp s2]:=by exact rfl) (hx:fD M s1=some (.sl [] true):=by exact rfl) (hy:fD M s2=some (.sl (List.map e l) fl):=by exact rfl) (ht:ts[0]?=some t1:=by exact rfl) (ht2:ts[1]?=some t2:=by exact rfl) (he:tN t1 T.se=some (el,sz):=by exact rfl) (he2:tN t2 T.se=some (el,YK):=by exact rfl) (hz:tN el T.ze=some z:=by exact rfl) (hzl:z.length=sz:=by exact rfl) (hs:Nat.beq sz 0=false:=by exact rfl) (hl:∀x,(e x).length=sz:=by intro;exact rfl) (hc:∀x,jZ (e x)=true:=by exact KR.h)
  (hg:gK ops M g=some true:=by exact rfl) (hd:Nat.blt t N=true:=by exact rfl) (hn:ah nx=none:=by exact rfl):WL P ops (⟨some t,.call ⟨.builtin .append,args,ts⟩,ty,pos,lZ,g⟩::rest) N M ah nx Q:=ai0 (fun i hi=>Ze (t:=t) (ae7 ..) hd (if_pos rfl) (EP hc) (List.length_map _) (by
 have e:upd (upd ah nx (some (.rows sz (List.map e l)))) nx none=ah:=by
  funext k
  unfold upd
  split
  .subst k;exact hn.symm
  .rfl
 rw [e]
 exact h i hi)) ha hx hy ht ht2 he he2 hz hzl hs hl hg hd
def Dc (P:Program)(N:Nat)(M:MT)(ah:AH)(id:Nat)(op:Op)(v:AV)(wr:List (Nat×Option pI))(rd:List Nat):Prop:=∀fr,FA N M fr->∀K:nT->Prop,K ⟨v,wr,rd⟩->JG P id fr ah op K
theorem ai2 [hT:zH P T]{α:Type}{e:α->List AV}{l:List α}{id tt el sz:Nat}{x y:Operand}{k:IntKind}{n:Int}{fl:Bool}
  (hx:lI M x=some (.sl (List.map e l) fl):=by exact rfl) (hy:lI M y=some (.p (.int k n)):=by exact rfl) (he:tN tt T.se=some (el,sz):=by exact rfl) (hl:∀x,(e x).length=sz:=by intro;exact rfl) (h0:0<=n:=by first|omega|(simp only [decide_eq_true_eq,decide_eq_false_iff_not,n_,og,oh,oq,yK,yL,kD,List.toList_toArray] at *;omega)) (h1:n<=l.length:=by first|omega|(simp only [decide_eq_true_eq,decide_eq_false_iff_not,n_,og,oh,oq,yK,yL,kD,List.toList_toArray] at *;omega)) :
  Dc P N M ah id (.slice tt x none (some y) none) (.sl (List.map e ((l.drop 0).take (n.toNat-0))) (fl&&decide (n.toNat=(List.map e l).length))) [] []:=fun fr hfr K hK=>by
 obtain ⟨e1,b,e2,e3⟩:=hT.se.get he
 refine dI.2 ⟨_,eP hfr hx,dI.2 ⟨[],rfl,dI.2 ⟨[((),.p (.int k n))],by simp [OV,eP hfr hy],dI.2 ⟨[],rfl,dI.2 ⟨(sz,b),e2,fun row hr=>?_,(fun c=>by cases c),h0,Nat.zero_le _,by rw [List.length_map];omega,Nat.le_refl _,?_⟩⟩⟩⟩⟩
 .obtain ⟨x,_,rfl⟩:=List.mem_map.1 hr
  exact hl x
 .simpa [List.map_take] using hK
theorem ai3 [hT:zH P T]{α:Type}{e:α->List AV}{l:List α}{id tt el sz:Nat}{x y:Operand}{k:IntKind}{n:Int}{fl:Bool}
  (hx:lI M x=some (.sl (List.map e l) fl):=by exact rfl) (hy:lI M y=some (.p (.int k n)):=by exact rfl) (he:tN tt T.se=some (el,sz):=by exact rfl) (hl:∀x,(e x).length=sz:=by intro;exact rfl) (h0:0<=n/\n<=l.length:=by first|omega|(simp only [List.length_map,decide_eq_true_eq,decide_eq_false_iff_not,n_,og,oh,oq,yK,yL,kD,List.toList_toArray] at *;omega)|(simp_all only [List.length_map,decide_eq_true_eq,decide_eq_false_iff_not,n_,og,oh,oq,yK,yL,kD,List.toList_toArray];omega)) :
  Dc P N M ah id (.slice tt x (some y) none none) (.sl (List.map e ((l.drop n.toNat).take ((l.length:Int).toNat-n.toNat))) (fl&&decide ((List.map e l).length=(List.map e l).length))) [] []:=fun fr hfr K hK=>by
 obtain ⟨e1,b,e2,e3⟩:=hT.se.get he
 refine dI.2 ⟨_,eP hfr hx,dI.2 ⟨[((),.p (.int k n))],by simp [OV,eP hfr hy],dI.2 ⟨[],rfl,dI.2 ⟨[],rfl,dI.2 ⟨(sz,b),e2,fun row hr=>?_,(fun c=>by cases c),h0.1,by rw [List.length_map];omega,Nat.le_refl _,Nat.le_refl _,?_⟩⟩⟩⟩⟩
 .obtain ⟨x,_,rfl⟩:=List.mem_map.1 hr
  exact hl x
 .simpa [List.map_take,List.map_drop] using hK
theorem ai4 [hT:zH P T]{α:Type}{e:α->List AV}{l:List α}{id tt el sz:Nat}{x y z:Operand}{k k':IntKind}{n m:Int}{fl:Bool}
  (hx:lI M x=some (.sl (List.map e l) fl):=by exact rfl) (hy:lI M y=some (.p (.int k n)):=by exact rfl) (hz:lI M z=some (.p (.int k' m)):=by exact rfl) (he:tN tt T.se=some (el,sz):=by exact rfl) (hl:∀x,(e x).length=sz:=by intro;exact rfl) (h0:0<=n:=by first|omega|(simp only [decide_eq_true_eq,decide_eq_false_iff_not,n_,og,oh,oq,yK,yL,kD,List.toList_toArray] at *;omega)) (h1:n<=m:=by first|omega|(simp only [decide_eq_true_eq,decide_eq_false_iff_not,n_,og,oh,oq,yK,yL,kD,List.toList_toArray] at *;omega)) (h2:m<=l.length:=by first|omega|(simp only [decide_eq_true_eq,decide_eq_false_iff_not,n_,og,oh,oq,yK,yL,kD,List.toList_toArray] at *;omega)) :
  Dc P N M ah id (.slice tt x none (some y) (some z)) (.sl (List.map e ((l.drop 0).take (n.toNat-0))) (decide (m.toNat=n.toNat))) [] []:=fun fr hfr K hK=>by
 obtain ⟨e1,b,e2,e3⟩:=hT.se.get he
 refine dI.2 ⟨_,eP hfr hx,dI.2 ⟨[],rfl,dI.2 ⟨[((),.p (.int k n))],by simp [OV,eP hfr hy],dI.2 ⟨[((),.p (.int k' m))],by simp [OV,eP hfr hz],dI.2 ⟨(sz,b),e2,fun row hr=>?_,(fun _=>rfl),h0,by omega,Nat.zero_le _,by omega,by simp;omega,?_⟩⟩⟩⟩⟩
 .obtain ⟨x,_,rfl⟩:=List.mem_map.1 hr
  exact hl x
 .simpa [List.map_take] using hK
def OpV {α:Type}(w:α)(P:Program)(N:Nat)(M:MT)(ah:AH)(id:Nat)(op:Op)(v:AV)(wr:List (Nat×Option pI))(rd:List Nat):Prop:=Dc P N M ah id op v wr rd
theorem ai6 [hT:zH P T]{α:Type}{e:α->List AV}{l:List α}{v:α}{id tt t2 s1 s2 b el sz YK:Nat}{args:Array Operand}{ts:Array TypeId}{fl:Bool}{z row:List AV}
  (ha:args.toList=[.tmp s1,.tmp s2]:=by exact rfl) (hx:fD M s1=some (.sl (List.map e l) fl):=by exact rfl) (hf:fl=true:=by first|exact rfl|simp) (hy:fD M s2=some (.os b sz 0 1):=by exact rfl) (hb:ah b=some (.rows sz [row]):=by exact rfl) (hr:row=e v:=by exact rfl) (ht:ts[0]?=some tt:=by exact rfl) (ht2:ts[1]?=some t2:=by exact rfl) (he:tN tt T.se=some (el,sz):=by exact rfl) (he2:tN t2 T.se=some (el,YK):=by exact rfl) (hz:tN el T.ze=some z:=by exact rfl) (hzl:z.length=sz:=by exact rfl) (hs:Nat.beq sz 0=false:=by exact rfl) (hl:∀x,(e x).length=sz:=by intro;exact rfl) (hlen:l.length<4294967296:=by first|omega|(simp only [List.length_take,List.length_drop,decide_eq_true_eq,decide_eq_false_iff_not,n_,og,oh,oq,yK,yL,kD,List.toList_toArray] at *;omega)) :
  OpV v P N M ah id (.call ⟨.builtin .append,args,ts⟩) (.os id sz 0 (l++[v]).length) [(id,some (.rows sz (List.map e (l++[v]))))] [b]:=fun fr hfr K hK=>by
 obtain ⟨e1,c,e2,e3⟩:=hT.se.get he
 obtain ⟨e4,_⟩:=hT.se.get he2
 refine dI.2 ⟨[.sl (List.map e l) fl,.os b sz 0 1],mG hfr (by rw [ha];simp only [qw,lI,hx,hy]),dI.2 ⟨tt,ht,dI.2 ⟨t2,ht2,.inl (dI.2 ⟨(sz,c),e2,e3,(fun h0=>by rw [show sz=0 from h0] at hs;cases hs),(by rw [e4];trivial),(by rw [e1];simp [(hT.ze.get hz).1,hzl]),rfl,?_⟩)⟩⟩⟩
 rw [hb]
 refine ⟨rfl,by simp,fun r hr=>?_,hf,.inr (by simp),by simp;omega,?_⟩
 .obtain ⟨x,_,rfl⟩:=List.mem_map.1 hr
  exact hl x
 .simpa [hr] using hK
theorem ai7 [hT:zH P T]{α:Type}{e:α->List AV}{l:List α}{v:α}{id tt t2 s1 s2 b b0 len el sz YK:Nat}{args:Array Operand}{ts:Array TypeId}{z row:List AV}
  (ha:args.toList=[.tmp s1,.tmp s2]:=by exact rfl) (hx:fD M s1=some (.os b0 sz 0 len):=by exact rfl) (hb0:ah b0=some (.rows sz (List.map e l)):=by exact rfl) (hln:len=l.length:=by first|exact rfl|(simp;done)) (hy:fD M s2=some (.os b sz 0 1):=by exact rfl) (hb:ah b=some (.rows sz [row]):=by exact rfl) (hr:row=e v:=by exact rfl) (ht:ts[0]?=some tt:=by exact rfl) (ht2:ts[1]?=some t2:=by exact rfl) (he:tN tt T.se=some (el,sz):=by exact rfl) (he2:tN t2 T.se=some (el,YK):=by exact rfl) (hz:tN el T.ze=some z:=by exact rfl) (hzl:z.length=sz:=by exact rfl) (hs:Nat.beq sz 0=false:=by exact rfl) (hlen:l.length<4294967296:=by first|omega|(simp only [List.length_take,List.length_drop,decide_eq_true_eq,decide_eq_false_iff_not,n_,og,oh,oq,yK,yL,kD,List.toList_toArray] at *;omega)) :
  OpV v P N M ah id (.call ⟨.builtin .append,args,ts⟩) (.os id sz 0 (l++[v]).length) [(b0,none),(id,some (.rows sz (List.map e (l++[v]))))] [b0,b]:=fun fr hfr K hK=>by
 obtain ⟨e1,c,e2,e3⟩:=hT.se.get he
 obtain ⟨e4,_⟩:=hT.se.get he2
 refine dI.2 ⟨[.os b0 sz 0 len,.os b sz 0 1],mG hfr (by rw [ha];simp only [qw,lI,hx,hy]),dI.2 ⟨tt,ht,dI.2 ⟨t2,ht2,.inl (dI.2 ⟨(sz,c),e2,e3,(fun h0=>by rw [show sz=0 from h0] at hs;cases hs),(by rw [e4];trivial),(by rw [e1];simp [(hT.ze.get hz).1,hzl]),rfl,?_⟩)⟩⟩⟩
 rw [hb]
 refine ⟨rfl,by simp,rfl,?_⟩
 rw [hb0]
 subst hln
 refine ⟨rfl,by simp,by simp;omega,?_⟩
 simpa [hr,List.take_of_length_le] using hK
theorem ai8 [hT:zH P T]{α:Type}{e:α->List AV}{l1 l2:List α}{id tt t2 s1 s2 el sz YK:Nat}{args:Array Operand}{ts:Array TypeId}{f1 fl:Bool}{z:List AV}
  (ha:args.toList=[.tmp s1,.tmp s2]:=by exact rfl) (hx:fD M s1=some (.sl (List.map e l1) f1):=by exact rfl) (hf:f1=true:=by first|exact rfl|simp) (h1:l1=[]:=by first|exact rfl|simp) (hy:fD M s2=some (.sl (List.map e l2) fl):=by exact rfl) (ht:ts[0]?=some tt:=by exact rfl) (ht2:ts[1]?=some t2:=by exact rfl) (he:tN tt T.se=some (el,sz):=by exact rfl) (he2:tN t2 T.se=some (el,YK):=by exact rfl) (hz:tN el T.ze=some z:=by exact rfl) (hzl:z.length=sz:=by exact rfl) (hs:Nat.beq sz 0=false:=by exact rfl) (hl:∀x,(e x).length=sz:=by intro;exact rfl) (hlen:l2.length<=4294967296:=by first|omega|(simp only [List.length_take,List.length_drop,List.length_append,List.length_map,decide_eq_true_eq,decide_eq_false_iff_not,n_,og,oh,oq,yK,yL,kD,List.toList_toArray] at *;omega)|(simp_all only [List.length_take,List.length_drop,List.length_append,List.length_map,decide_eq_true_eq,decide_eq_false_iff_not,n_,og,oh,oq,yK,yL,kD,List.toList_toArray];omega)) :
  Dc P N M ah id (.call ⟨.builtin .append,args,ts⟩) (.os id sz 0 l2.length) [(id,some (.rows sz (List.map e l2)))] []:=fun fr hfr K hK=>by
 obtain ⟨e1,c,e2,e3⟩:=hT.se.get he
 obtain ⟨e4,_⟩:=hT.se.get he2
 subst h1
 refine dI.2 ⟨[.sl (List.map e []) f1,.sl (List.map e l2) fl],mG hfr (by rw [ha];simp only [qw,lI,hx,hy]),dI.2 ⟨tt,ht,dI.2 ⟨t2,ht2,.inl (dI.2 ⟨(sz,c),e2,e3,(fun h0=>by rw [show sz=0 from h0] at hs;cases hs),(by rw [e4];trivial),(by rw [e1];simp [(hT.ze.get hz).1,hzl]),(fun r hr=>?_),?_⟩)⟩⟩⟩
 .obtain ⟨x,_,rfl⟩:=List.mem_map.1 hr
  exact hl x
 refine ⟨(fun r hr=>by cases hr),hf,.inl rfl,by simpa using hlen,?_⟩
 simpa using hK
theorem ai9 [hT:zH P T]{α:Type}{e:α->List AV}{l1 l2:List α}{id tt t2 s1 s2 b0 len el sz YK:Nat}{args:Array Operand}{ts:Array TypeId}{fl:Bool}{z:List AV}
  (ha:args.toList=[.tmp s1,.tmp s2]:=by exact rfl) (hx:fD M s1=some (.os b0 sz 0 len):=by exact rfl) (hb0:ah b0=some (.rows sz (List.map e l1)):=by exact rfl) (hln:l1.length=len:=by first|exact rfl|simp) (hy:fD M s2=some (.sl (List.map e l2) fl):=by exact rfl) (ht:ts[0]?=some tt:=by exact rfl) (ht2:ts[1]?=some t2:=by exact rfl) (he:tN tt T.se=some (el,sz):=by exact rfl) (he2:tN t2 T.se=some (el,YK):=by exact rfl) (hz:tN el T.ze=some z:=by exact rfl) (hzl:z.length=sz:=by exact rfl) (hs:Nat.beq sz 0=false:=by exact rfl) (hl:∀x,(e x).length=sz:=by intro;exact rfl) (hlen:l1.length+l2.length<=4294967296:=by first|omega|(simp only [List.length_take,List.length_drop,List.length_append,List.length_map,decide_eq_true_eq,decide_eq_false_iff_not,n_,og,oh,oq,yK,yL,kD,List.toList_toArray] at *;omega)|(simp_all only [List.length_take,List.length_drop,List.length_append,List.length_map,decide_eq_true_eq,decide_eq_false_iff_not,n_,og,oh,oq,yK,yL,kD,List.toList_toArray];omega)) :
  Dc P N M ah id (.call ⟨.builtin .append,args,ts⟩) (.os id sz 0 (l1++l2).length) [(b0,none),(id,some (.rows sz (List.map e (l1++l2))))] [b0]:=fun fr hfr K hK=>by
 obtain ⟨e1,c,e2,e3⟩:=hT.se.get he
 obtain ⟨e4,_⟩:=hT.se.get he2
 refine dI.2 ⟨[.os b0 sz 0 len,.sl (List.map e l2) fl],mG hfr (by rw [ha];simp only [qw,lI,hx,hy]),dI.2 ⟨tt,ht,dI.2 ⟨t2,ht2,.inl (dI.2 ⟨(sz,c),e2,e3,(fun h0=>by rw [show sz=0 from h0] at hs;cases hs),(by rw [e4];trivial),(by rw [e1];simp [(hT.ze.get hz).1,hzl]),(fun r hr=>?_),?_⟩)⟩⟩⟩
 .obtain ⟨x,_,rfl⟩:=List.mem_map.1 hr
  exact hl x
 refine ⟨rfl,?_⟩
 rw [hb0]
 subst hln
 refine ⟨rfl,by simp,by simpa using hlen,?_⟩
 simpa [List.take_of_length_le] using hK
theorem ai_ [hT:zH P T]{id tt t2 s1 s2 b b0 len el sz YK:Nat}{args:Array Operand}{ts:Array TypeId}{rs:List (List AV)}{z row:List AV}
  (ha:args.toList=[.tmp s1,.tmp s2]:=by exact rfl) (hx:fD M s1=some (.os b0 sz 0 len):=by exact rfl) (hb0:ah b0=some (.rows sz rs):=by exact rfl) (hln:rs.length=len:=by first|exact rfl|simp) (hy:fD M s2=some (.os b sz 0 1):=by exact rfl) (hb:ah b=some (.rows sz [row]):=by exact rfl) (ht:ts[0]?=some tt:=by exact rfl) (ht2:ts[1]?=some t2:=by exact rfl) (he:tN tt T.se=some (el,sz):=by exact rfl) (he2:tN t2 T.se=some (el,YK):=by exact rfl) (hz:tN el T.ze=some z:=by exact rfl) (hzl:z.length=sz:=by exact rfl) (hs:Nat.beq sz 0=false:=by exact rfl) (hlen:len<4294967296:=by first|omega|(simp only [List.length_map,List.length_take,List.length_drop,decide_eq_true_eq,decide_eq_false_iff_not,n_,og,oh,oq,yK,yL,kD,List.toList_toArray] at *;omega)) :
  Dc P N M ah id (.call ⟨.builtin .append,args,ts⟩) (.os id sz 0 (len+1)) [(b0,none),(id,some (.rows sz (rs++[row])))] [b0,b]:=fun fr hfr K hK=>by
 obtain ⟨e1,c,e2,e3⟩:=hT.se.get he
 obtain ⟨e4,_⟩:=hT.se.get he2
 refine dI.2 ⟨[.os b0 sz 0 len,.os b sz 0 1],mG hfr (by rw [ha];simp only [qw,lI,hx,hy]),dI.2 ⟨tt,ht,dI.2 ⟨t2,ht2,.inl (dI.2 ⟨(sz,c),e2,e3,(fun h0=>by rw [show sz=0 from h0] at hs;cases hs),(by rw [e4];trivial),(by rw [e1];simp [(hT.ze.get hz).1,hzl]),rfl,?_⟩)⟩⟩⟩
 rw [hb]
 refine ⟨rfl,by simp,rfl,?_⟩
 rw [hb0]
 subst hln
 refine ⟨rfl,by simp,by simp;omega,?_⟩
 simpa [List.take_of_length_le] using hK
theorem fbs [hT:zH P T]{id tt len el sz:Nat}{parts:Array (Nat×Operand)}{ps:List (Nat×AV)}{z cs:List AV}(hx:XE M parts.toList=some ps:=by exact rfl)(he:tN tt T.se=some (el,sz):=by exact rfl)(hz:tN el T.ze=some z:=by exact rfl)(hl:z.length=sz:=by exact rfl)(hb:Nat.ble (len*sz+len) 16777216=true:=by exact rfl)(hf:uV (fun k=>some (k*sz,sz)) (List.replicate len z).flatten ps=some cs:=by exact rfl) :
  Dc P N M ah id (.buildSlice tt len parts) (.os id sz 0 len) [(id,some (.rows sz (aoS sz len cs)))] []:=fun fr hfr K hK=>dI.2 ⟨_,Iz hfr hx,by
 obtain ⟨e1,c,e2,e3⟩:=hT.se.get he
 unfold kU at e2
 rw [e1] at e2
 dsimp only at e2
 cases hi:P.info? el with
 |none=>rw [hi] at e2;cases e2
 |some inf=>
  rw [hi] at e2
  simp only [Option.map_some,Option.some.injEq,Prod.mk.injEq] at e2
  obtain ⟨q,_⟩:=e2
  unfold pO
  rw [e1]
  subst q
  exact dI.2 ⟨inf,hi,dI.2 ⟨z,(hT.ze.get hz).1,hl,Nat.le_of_ble_eq_true hb,dI.2 ⟨cs,hf,hK⟩⟩⟩⟩
theorem fio [hT:zH P T]{id b sz len el sz':Nat}{tt:TypeId}{x y:Operand}{k:IntKind}{n:Int}(hx:lI M x=some (.os b sz 0 len):=by exact rfl)(hy:lI M y=some (.p (.int k n)):=by exact rfl)(he:tN tt T.se=some (el,sz'):=by exact rfl)(hs:sz=sz':=by exact rfl)(h0:0<=n:=by first|omega|(simp only [decide_eq_true_eq,decide_eq_false_iff_not,n_,og,oh,oq,yK,yL,kD,List.toList_toArray,List.length_map] at *;omega))(h1:n<len:=by first|omega|(simp only [decide_eq_true_eq,decide_eq_false_iff_not,n_,og,oh,oq,yK,yL,kD,List.toList_toArray,List.length_map] at *;omega)) :
  Dc P N M ah id (.indexAddr tt x y) (.op b sz n.toNat 0) [] []:=fun fr hfr K hK=>by
 obtain ⟨e1,c,e2,e3⟩:=hT.se.get he
 exact dI.2 ⟨_,eP hfr hx,dI.2 ⟨_,eP hfr hy,dI.2 ⟨(sz',c),e2,h0,by omega,hs,by rw [Nat.zero_add];exact hK⟩⟩⟩
theorem fsr [hT:zH P T]{α:Type}[Inhabited α]{w:α}{e:α->List AV}{l:List α}{id b sz j off:Nat}{tt:TypeId}{tv:Bool×Nat}{x y:Operand}{v:AV}(hx:lI M x=some (.op b sz j off):=by exact rfl)(hy:lI M y=some v:=by exact rfl)(ht:tN tt T.ty=some tv:=by exact rfl)(hb:ah b=some (.rows sz (List.map e l)):=by exact rfl)(hv:v.Eh=true:=by exact rfl)(hl:v.cells.length=tv.2:=by exact rfl)(hr:∀x,(e x).length=sz:=by intro;exact rfl)(hf:Nat.ble (off+tv.2) sz=true:=by exact rfl)(hw:lay (e (l.getD j default)) off v.cells=e w:=by exact rfl)(hj:j<l.length:=by first|omega|(simp only [decide_eq_true_eq,decide_eq_false_iff_not,n_,og,oh,oq,yK,yL,kD,List.toList_toArray] at *;omega)) :
  OpV w P N M ah id (.store tt x y) (.p undef) [(b,some (.rows sz (List.map e (l.set j w))))] [b]:=fun fr hfr K hK=>by
 have hrow:(List.map e l)[j]?=some (e (l.getD j default)):=by
  rw [List.getElem?_map,List.getElem?_eq_getElem hj]
  simp [List.getD,List.getElem?_eq_getElem hj]
 refine dI.2 ⟨_,eP hfr hx,dI.2 ⟨_,eP hfr hy,dI.2 ⟨tv,hT.ty.get ht,?_⟩⟩⟩
 dsimp only
 rw [hb]
 refine ⟨rfl,hv,hl,dI.2 ⟨_,hrow,by rw [hr];exact Nat.le_of_ble_eq_true hf,?_⟩⟩
 rw [hw,<- List.map_set]
 exact hK
theorem yF {op:Op}{t:Nat}{v:AV}{wr:List (Nat×Option pI)}{rd:List Nat}(h:WL P ops rest N ((t,v)::M) (lJ ah wr) (nx+1) Q)(hA:Dc P N M ah nx op v wr rd:=by first|exact ai2|exact ai3|exact ai4|exact fbs|exact fio)(hg:gK ops M g=some true:=by exact rfl)(hd:Nat.blt t N=true:=by exact rfl):WL P ops (⟨some t,op,ty,pos,lZ,g⟩::rest) N M ah nx Q:=fun i hi=>
 let ⟨h1,h2⟩:=aoG hi
 nZ h1 (RU hg) hd fun fr hf=>hA fr hf _ (h _ h2)
theorem DT {α:Type}{w:α}(kv:KV w){op:Op}{d:Option Nat}{v:AV}{wr:List (Nat×Option pI)}{rd:List Nat}(h:WL P ops rest N (iW M d v) (lJ ah wr) (nx+1) Q)(hA:OpV w P N M ah nx op v wr rd:=by first|exact ai6|exact ai7|exact fsr)(hg:gK ops M g=some true:=by exact rfl)(hd:mX N d=true:=by exact rfl):WL P ops (⟨d,op,ty,pos,lZ,g⟩::rest) N M ah nx Q:=fun i hi=>
 let ⟨h1,h2⟩:=aoG hi
 nZ h1 (RU hg) hd fun fr hf=>hA fr hf _ (h _ h2)
theorem ahl {K:List Nat}{iG i tp:Nat}{V W:List Nat}{U:List qF}{op:Op}{d:Option Nat}{v:AV}{wr:List (Nat×Option pI)}{rd:List Nat}(hA:Dc P N M ah (iG+i) op v wr rd)(hg:gK ops M g=some true)(hd:mX N d=true)(hap:apB K i rd (wr.map (·.1)) U=true)(hb:(RV (iG+(i+1)) rd&&RV (iG+(i+1)) (wr.map (·.1)))=true)
  (h:WX P ops K iG (i+1) tp rest N (i::V) (i::W) (⟨i,rd,wr.map (·.1)⟩::U) (iW M d v) (lJ ah wr) Q):WX P ops K iG i tp (⟨d,op,ty,pos,lZ,g⟩::rest) N V W U M ah Q:=fun hi=>by
 obtain ⟨h1,h2⟩:=Hq hi
 simp only [Bool.and_eq_true,RV,List.all_eq_true] at hb
 exact CY (i::V) (i::W) (⟨i,rd,wr.map (·.1)⟩::U) h1 (RU hg) hd (fun fr hf K' hK=>hA fr hf K' hK) (fun f h0 _ _ _ _=>acu hap f h0) (fun b hm=>by simpa using hb.1 b hm) (fun b hm=>by simpa using hb.2 b hm)
  (fun j hj=>List.mem_cons_of_mem _ hj) (fun j hj=>List.mem_cons_of_mem _ hj) (fun j hj=>List.mem_cons_of_mem _ hj) (.inr ⟨List.mem_cons_self,List.mem_cons_self,.inr List.mem_cons_self⟩) (h h2)
theorem xaw {K:List Nat}{iG i tp:Nat}{V W:List Nat}{U:List qF}{op:Op}{t:Nat}{v:AV}{wr:List (Nat×Option pI)}{rd:List Nat}(h:WX P ops K iG (i+1) tp rest N (i::V) (i::W) (⟨i,rd,wr.map (·.1)⟩::U) ((t,v)::M) (lJ ah wr) Q)(hA:Dc P N M ah (iG+i) op v wr rd:=by first|exact ai2|exact ai3|exact ai4|exact fbs|exact fio)(hg:gK ops M g=some true:=by exact rfl)(hd:Nat.blt t N=true:=by exact rfl)(hap:apB K i rd (wr.map (·.1)) U=true:=by kernel_rfl)(hb:(RV (iG+(i+1)) rd&&RV (iG+(i+1)) (wr.map (·.1)))=true:=by kernel_rfl):WX P ops K iG i tp (⟨some t,op,ty,pos,lZ,g⟩::rest) N V W U M ah Q:=ahl (d:=some t) hA hg hd hap hb h
theorem DU {α:Type}{w:α}(kv:KV w){K:List Nat}{iG i tp:Nat}{V W:List Nat}{U:List qF}{op:Op}{d:Option Nat}{v:AV}{wr:List (Nat×Option pI)}{rd:List Nat}(h:WX P ops K iG (i+1) tp rest N (i::V) (i::W) (⟨i,rd,wr.map (·.1)⟩::U) (iW M d v) (lJ ah wr) Q)(hA:OpV w P N M ah (iG+i) op v wr rd:=by first|exact ai6|exact ai7|exact fsr)(hg:gK ops M g=some true:=by exact rfl)(hd:mX N d=true:=by exact rfl)(hap:apB K i rd (wr.map (·.1)) U=true:=by kernel_rfl)(hb:(RV (iG+(i+1)) rd&&RV (iG+(i+1)) (wr.map (·.1)))=true:=by kernel_rfl):WX P ops K iG i tp (⟨d,op,ty,pos,lZ,g⟩::rest) N V W U M ah Q:=ahl hA hg hd hap hb h
theorem kfz {t t0 b sz len:Nat}{ff:FuncId}{ar:List Operand}{args:Array Operand}{ts:Array TypeId}{rs:List (List AV)}(h:WL P ops (⟨some t0,.call ⟨.value (.func ff),args,ts⟩,ty,pos,lZ,g⟩::rest) N ((t,.sl rs false)::M) (upd ah b none) nx Q)(ha:args.toList=.tmp t::ar:=by exact rfl)(hm:fD M t=some (.os b sz 0 len):=by exact rfl)(hb:ah b=some (.rows sz rs):=by exact rfl)(hl:rs.length=len:=by first|exact rfl|simp)(hc:Nk rs=true:=by exact zk KR.h)(hd:Nat.blt t N=true:=by exact rfl):WL P ops (⟨some t0,.call ⟨.value (.func ff),args,ts⟩,ty,pos,lZ,g⟩::rest) N M ah nx Q:=
 fun i hi=>Ze hm hd hb (rZ hc) hl (h i hi)
def ajb : MT->Option Nat
 |[]=>none
 |(t,.os _ _ _ _)::_=>some t
 |_::r=>ajb r
theorem NK {α:Type}{l:List α}:List.take ((l.length:Int).toNat-0) (List.drop 0 l)=l:=by simp
theorem zn {α:Type}{l:List α}{i:Nat}{w:α}:List.take ((l.length:Int).toNat-0) (List.drop 0 (l.set i w))=l.set i w:=by
 rw [List.drop_zero,List.take_of_length_le (by simp)]
theorem krz {α:Type}{e:α->List AV}{l:List α}{t b sz len:Nat}(h:mJ P .ret N ((t,.sl (List.map e l) false)::M) (upd ah b none) nx Q)(ht:ajb M=some t:=by exact rfl)(hm:fD M t=some (.os b sz 0 len):=by exact rfl)(hb:ah b=some (.rows sz (List.map e l)):=by exact rfl)(hl:l.length=len:=by first|exact rfl|assumption|(simp;done))(hc:∀x,jZ (e x)=true:=by exact KR.h)(hd:Nat.blt t N=true:=by exact rfl):mJ P .ret N M ah nx Q:=
 Zf hm hd hb (EP hc) (by simpa using hl) h
end
end Go.Fw
end
section
namespace Go.Fw
variable [iZ]
section
variable {P : Program} {T:Gt} {ops:Array Oper} {rest:List Oper} {N nx id:Nat} {M:MT} {G:GT} {L:GL} {γ:Option (Nat×Bool)} {ah:AH} {Q:MQ} {op:Op} {ty:TypeId} {pos:String} {lZ:Array Edge} {g:Option (Nat×Bool)} {K V W:List Nat} {U:List qF} {iG i tp:Nat}
theorem fqi {k:IntKind}{a b:Int}{t t2:TypeId}{x y:Operand}(hb:b≠0)(hx:lI M x=some (.p (.int k a)):=by exact rfl)(hy:lI M y=some (.p (.int k b)):=by exact rfl):Dc P N M ah id (.binOp .quo t x y t2) (.p (.int k (CO k a b))) [] []:=
 fun fr hf K hK=>dI.2 ⟨_,eP hf hx,dI.2 ⟨_,eP hf hy,.inl ⟨rfl,hb,hK⟩⟩⟩
theorem fri {k:IntKind}{a b:Int}{t t2:TypeId}{x y:Operand}(hb:b≠0)(hx:lI M x=some (.p (.int k a)):=by exact rfl)(hy:lI M y=some (.p (.int k b)):=by exact rfl):Dc P N M ah id (.binOp .rem t x y t2) (.p (.int k (zi k a b))) [] []:=
 fun fr hf K hK=>dI.2 ⟨_,eP hf hx,dI.2 ⟨_,eP hf hy,.inl ⟨rfl,hb,hK⟩⟩⟩
theorem fsh {k k2:IntKind}{a b:Int}{t t2:TypeId}{x y:Operand}(hb:0<=b)(hx:lI M x=some (.p (.int k a)):=by exact rfl)(hy:lI M y=some (.p (.int k2 b)):=by exact rfl):Dc P N M ah id (.binOp .shr t x y t2) (.p (.int k (jA k a b))) [] []:=
 fun fr hf K hK=>dI.2 ⟨_,eP hf hx,dI.2 ⟨_,eP hf hy,.inl ⟨hb,hK⟩⟩⟩
theorem fmi {t:TypeId}{a:AV}{x:Operand}(hx:lI M x=some a:=by exact rfl)(hu:(match P.underlying t with|some (.interface _)=>false|none=>false|_=>true)=true:=by kernel_rfl):Dc P N M ah id (.makeInterface t x) (.wI t a) [] []:=fun fr hf K hK=>dI.2 ⟨_,eP hf hx,by
 refine ⟨?_,hK⟩
 split
 .rename_i he;rw [he] at hu;cases hu
 .rename_i he;rw [he] at hu;cases hu
 .trivial⟩
theorem fqf {b:Nat}{t t2:TypeId}{x y:Operand}(hb:CQ b)(hx:lI M x=some (.p (.float .f64 4607182418800017408)):=by exact rfl)(hy:lI M y=some (.p (.float .f64 b)):=by exact rfl):Dc P N M ah id (.binOp .quo t x y t2) (.p (.float .f64 ((FloatKind.f64.format.div 4607182418800017408 b).getD 0))) [] []:=
 fun fr hf K hK=>dI.2 ⟨_,eP hf hx,dI.2 ⟨_,eP hf hy,.inl ⟨rfl,dI.2 ⟨_,apk hb,hK⟩⟩⟩⟩
def nOk (b:Nat):Prop:=(FloatKind.f64.decode b).toInt .zero=some (((FloatKind.f64.decode b).toInt .zero).getD 0)/\IntKind.i64.min<=((FloatKind.f64.decode b).toInt .zero).getD 0/\((FloatKind.f64.decode b).toInt .zero).getD 0<=IntKind.i64.max
theorem alh {b:Nat}(h1:Qq b 14069245235905429503=true)(h2:OT b 4845873199050653695=true):nOk b:=aeD h1 h2
theorem ajc {b:Nat}(h1:Qq b 0=true)(h2:OT b 4652218415073722368=true):nOk b:=by
 obtain ⟨q,hq,hb⟩:=aeE h1 h2
 have e:((FloatKind.f64.decode b).toInt .zero).getD 0=(q:Int):=by rw [hq];rfl
 refine ⟨by rw [e];exact hq,?_,?_⟩
 .rw [e];have:IntKind.i64.min = -9223372036854775808:=rfl;omega
 .rw [e];have:IntKind.i64.max=9223372036854775807:=rfl;omega
theorem acG {s d:TypeId}{x:AV}{K:nT->Prop}(hu:P.underlying d≠some .string)(h:AX P s d x fun a=>K (.val a)):Ie P ah s d x K:=by
 unfold Ie
 split
 .rename_i he;exact absurd he hu
 .exact h
theorem fct {b:Nat}{s d:TypeId}{x:Operand}(hb:nOk b)(hx:lI M x=some (.p (.float .f64 b)):=by exact rfl)(hu:P.underlying d=some (.int .i64):=by exact rfl)(hs:(P.underlying s).isSome=true:=by kernel_rfl):Dc P N M ah id (.convert s d x) (.p (.int .i64 (((FloatKind.f64.decode b).toInt .zero).getD 0))) [] []:=
 fun fr hf K hK=>dI.2 ⟨_,eP hf hx,acG (by rw [hu];simp) ⟨hs,by rw [hu];exact dI.2 ⟨_,hb.1,hb.2.1,hb.2.2,hK⟩⟩⟩
theorem WW {n:Int}{k k':IntKind}{s d:TypeId}{x:Operand}(hb:True)(hx:lI M x=some (.p (.int k' n)):=by exact rfl)(hu:P.underlying d=some (.int k):=by exact rfl)(hs:(P.underlying s).isSome=true:=by kernel_rfl):Dc P N M ah id (.convert s d x) (.p (.int k (k.wrap n))) [] []:=
 fun fr hf K hK=>dI.2 ⟨_,eP hf hx,acG (by rw [hu];simp) ⟨hs,by rw [hu];exact hK⟩⟩
theorem fcf {n:Int}{k:FloatKind}{k':IntKind}{s d:TypeId}{x:Operand}(hb:True)(hx:lI M x=some (.p (.int k' n)):=by exact rfl)(hu:P.underlying d=some (.float k):=by exact rfl)(hs:(P.underlying s).isSome=true:=by kernel_rfl):Dc P N M ah id (.convert s d x) (.p (.float k (k.nearest n))) [] []:=
 fun fr hf K hK=>dI.2 ⟨_,eP hf hx,acG (by rw [hu];simp) ⟨hs,by rw [hu];exact hK⟩⟩
theorem fsi {u:List UInt8}{n:Int}{k:IntKind}{t:TypeId}{x y:Operand}(hb:0<=n/\n<u.length)(hx:lI M x=some (.str u):=by exact rfl)(hy:lI M y=some (.p (.int k n)):=by exact rfl)(hu:P.underlying t=some .string:=by exact rfl):Dc P N M ah id (.index t x y) (.p (.int .u8 ((u.getD n.toNat 0).toNat:Nat))) [] []:=
 fun fr hf K hK=>dI.2 ⟨_,eP hf hx,dI.2 ⟨_,eP hf hy,by
  have hlt:n.toNat<u.length:=by omega
  refine ⟨hu,hb.1,dI.2 ⟨_,List.getElem?_eq_getElem hlt,?_⟩⟩
  rw [List.getD_eq_getElem?_getD,List.getElem?_eq_getElem hlt] at hK
  exact hK⟩⟩
theorem fca {u v:List UInt8}{t t2:TypeId}{x y:Operand}(hb:u.length+v.length<=4294967296)(hx:lI M x=some (.str u):=by exact rfl)(hy:lI M y=some (.str v):=by exact rfl):Dc P N M ah id (.binOp .add t x y t2) (.str (u++v)) [] []:=
 fun fr hf K hK=>dI.2 ⟨_,eP hf hx,dI.2 ⟨_,eP hf hy,.inl ⟨hb,hK⟩⟩⟩
theorem ae8 {n:Int}(h0:0<=n)(h1:n<128):O3 n=[UInt8.ofNat n.toNat]:=by
 have key:∀k:Fin 128,(Xv.drop k.1).take 1=[UInt8.ofNat k.1]:=by decide +kernel
 unfold O3
 rw [Qv h0 (by omega),show (n+1).toNat-n.toNat=1 by omega]
 exact key ⟨n.toNat,by omega⟩
theorem fcb {n:Int}{k':IntKind}{s d:TypeId}{x:Operand}(hb:0<=n/\n<128)(hx:lI M x=some (.p (.int k' n)):=by exact rfl)(hu:P.underlying d=some .string:=by exact rfl)(hs:(match P.underlying s with|some (.slice _)=>false|some _=>true|none=>false)=true:=by kernel_rfl):Dc P N M ah id (.convert s d x) (.str (O3 n)) [] []:=
 fun fr hf K hK=>dI.2 ⟨_,eP hf hx,by
  rw [ae8 hb.1 hb.2] at hK
  unfold Ie
  split
  .rename_i he _;rw [he] at hs;cases hs
  .refine ⟨?_,by rw [hu];exact ⟨hb.1,hb.2,hK⟩⟩
   cases e:P.underlying s with
   |none=>rw [e] at hs;cases hs
   |some _=>rfl⟩
def mE {α β:Type}(ek:α->AV)(ev:β->AV)(l:List (α×β)):List (AV×AV):=l.map fun p=>(ek p.1,ev p.2)
class aaE (P:Program){α:Type}[DecidableEq α](kt:TypeId)(ek:α->AV):Prop where
 h:∀a b,aeq P 10000 kt (ek a) (ek b)=some (decide (a=b))
 h2:∀a,Cc P 10000 kt (ek a)=true
 h3:∀a,aej (ek a)=true
theorem agl {α β:Type}[DecidableEq α]{ek:α->AV}{ev:β->AV}{kt:TypeId}[hk:aaE P kt ek](k:α)(z:β):∀(l:List (α×β)),∃r,zJ P kt (ek k) (mE ek ev l)=some r/\∀c,(match r with|none=>DL c (ev z) false|some q=>DL c q.2 true)=DL c (ev (qh z k l).2) (qh z k l).1
 |[]=>⟨none,rfl,fun c=>rfl⟩
 |e::r=>by
  simp only [mE,List.map_cons,zJ,hk.h,qh]
  by_cases h:k=e.1
  .simp only [h,decide_true,if_true];exact ⟨_,rfl,fun c=>rfl⟩
  .simp only [h,decide_false,if_false]
   obtain ⟨q,h1,h2⟩:=agl (ek:=ek) (kt:=kt) (ev:=ev) k z r
   unfold mE at h1
   rw [h1]
   cases q with
   |none=>exact ⟨_,rfl,h2⟩
   |some q=>exact ⟨_,rfl,h2⟩
theorem ajd {α β:Type}[DecidableEq α]{ek:α->AV}{ev:β->AV}{kt:TypeId}[hk:aaE P kt ek](k:α)(v:β):∀(l:List (α×β)),∃r,zJ P kt (ek k) (mE ek ev l)=some r/\(∀q,r=some q->((mE ek ev l)[q.1]?).map (·.1)=some (ek k))/\
  (match r with|none=>mE ek ev l++[(ek k,ev v)]|some q=>(mE ek ev l).set q.1 (ek k,ev v))=mE ek ev (qj k v l)
 |[]=>⟨none,rfl,(fun q h=>by cases h),rfl⟩
 |e::r=>by
  simp only [mE,List.map_cons,zJ,hk.h,qj]
  by_cases h:k=e.1
  .simp only [h,decide_true,if_true]
   refine ⟨_,rfl,fun q hq=>?_,?_⟩
   .simp only [Option.some.injEq] at hq;subst hq;simp
   .simp
  .simp only [h,decide_false,if_false]
   obtain ⟨q,h1,h2,h3⟩:=ajd (ek:=ek) (kt:=kt) (ev:=ev) k v r
   unfold mE at h1 h2 h3
   rw [h1]
   cases q with
   |none=>exact ⟨_,rfl,(fun q h=>by cases h),by simpa using h3⟩
   |some q=>
    refine ⟨_,rfl,fun q' hq'=>?_,by simpa using h3⟩
    cases hq'
    simpa using h2 q rfl
theorem fmk {t:TypeId}:Dc P N M ah id (.makeMap t none) (.mp id) [(id,some (.map []))] []:=fun fr hf K hK=>⟨trivial,hK⟩
theorem ali {t kt et:TypeId}{x:Operand}{k:IntKind}{n:Int}(hx:lI M x=some (.p (.int k n)):=by exact rfl)(hu:P.underlying t=some (.map kt et):=by exact rfl):Dc P N M ah id (.makeMap t (some x)) (.mp id) [(id,some (.map []))] []:=fun fr hf K hK=>dI.2 ⟨_,eP hf hx,by
 unfold AY
 dsimp only
 rw [hu]
 exact ⟨trivial,hK⟩⟩
theorem fml {α β:Type}[DecidableEq α]{ek:α->AV}{ev:β->AV}{t kt et:TypeId}{c:Bool}{x y:Operand}{b:Nat}{k:α}{z:β}{l:List (α×β)}(hx:lI M x=some (.mp b):=by exact rfl)(hb:ah b=some (.map (mE ek ev l)):=by exact rfl)(hy:lI M y=some (ek k):=by exact rfl)(hu:P.underlying t=some (.map kt et):=by exact rfl)(hz:JE P et=some (ev z):=by exact rfl)(hk:aaE P kt ek:=by infer_instance) :
  Dc P N M ah id (.lookup t x y c) (DL c (ev (qh z k l).2) (qh z k l).1) [] [b]:=fun fr hf K hK=>dI.2 ⟨_,eP hf hx,dI.2 ⟨_,eP hf hy,by
 obtain ⟨r,h1,h2⟩:=agl (P:=P) (ek:=ek) (kt:=kt) (ev:=ev) k z l
 unfold Ce
 rw [hu]
 refine ⟨hk.h2 k,dI.2 ⟨_,hz,?_⟩⟩
 unfold abr
 dsimp only
 rw [hb]
 refine dI.2 ⟨r,h1,?_⟩
 have h2:=h2 c
 cases r with
 |none=>dsimp only at h2 ⊢;rw [h2];exact hK
 |some q=>dsimp only at h2 ⊢;rw [h2];exact hK⟩⟩
theorem fmp {α β:Type}[DecidableEq α]{ek:α->AV}{ev:β->AV}{t kt et:TypeId}{x y u:Operand}{b:Nat}{k:α}{v:β}{l:List (α×β)}(hx:lI M x=some (.mp b):=by exact rfl)(hb:ah b=some (.map (mE ek ev l)):=by exact rfl)(hy:lI M y=some (ek k):=by exact rfl)(hv:lI M u=some (ev v):=by exact rfl)(hu:P.underlying t=some (.map kt et):=by exact rfl)(hk:aaE P kt ek:=by infer_instance) :
  Dc P N M ah id (.mapUpdate t x y u) (.p undef) [(b,some (.map (mE ek ev (qj k v l))))] [b]:=fun fr hf K hK=>dI.2 ⟨_,eP hf hx,dI.2 ⟨_,eP hf hy,dI.2 ⟨_,eP hf hv,by
 obtain ⟨r,h1,h2,h3⟩:=ajd (P:=P) (ek:=ek) (kt:=kt) (ev:=ev) k v l
 unfold Ci
 rw [hu]
 refine ⟨hk.h2 k,hk.h3 k,?_⟩
 unfold Uu
 dsimp only
 rw [hb]
 refine dI.2 ⟨r,h1,h2,?_⟩
 cases r with
 |none=>dsimp only at h3 ⊢;rw [h3];exact hK
 |some q=>dsimp only at h3 ⊢;rw [h3];exact hK⟩⟩⟩
theorem kan {op:Op}{v:AV}{wr:List (Nat×Option pI)}{rd:List Nat}(hA:Dc P N M ah nx op v wr rd)(h:WL P ops rest N M (lJ ah wr) (nx+1) Q)(hg:gK ops M g=some true:=by exact rfl):WL P ops (⟨none,op,ty,pos,lZ,g⟩::rest) N M ah nx Q:=fun i hi=>
 let ⟨h1,h2⟩:=aoG hi
 nZ h1 (RU hg) rfl fun fr hf=>hA fr hf _ (h _ h2)
theorem H9 {p:Prop}{t:Nat}{v:AV}{rd:List Nat}{M':MT}{G':GT}(hc:Eb ops M G g=some (γ,L))(hA:p->Dc P N (yu M G L) ah nx op v [] rd)(h:WG P ops rest N M' G' ah (nx+1) Q)(hq:Ec M G t γ v=some (M',G'):=by exact rfl)(hd:Nat.blt t N=true:=by exact rfl)(hp:gH M G L->p:=by (intro hg;first|exact True.intro|omega|assumption|(simp_all only [decide_eq_true_eq,decide_eq_false_iff_not,n_,og,oh,oq,yK,yL,kD,List.toList_toArray,Bool.or_eq_false_iff,Bool.and_eq_true,Bool.not_eq_true',Bool.not_eq_false',gH,yu,aoU,LM,fD,Nat.beq,and_true,true_and,forall_const,List.length_map,pW,List.length_cons,List.length_nil,decide_true,decide_false,cond_true,cond_false,Bool.not_true,Bool.not_false];done)|(simp_all only [decide_eq_true_eq,decide_eq_false_iff_not,n_,og,oh,oq,yK,yL,kD,List.toList_toArray,Bool.or_eq_false_iff,Bool.and_eq_true,Bool.not_eq_true',Bool.not_eq_false',gH,yu,aoU,LM,fD,Nat.beq,and_true,true_and,forall_const,List.length_map,pW,List.length_cons,List.length_nil,decide_true,decide_false,cond_true,cond_false,Bool.not_true,Bool.not_false];(try simp only [sLen] at *);omega))):WG P ops (⟨some t,op,ty,pos,lZ,g⟩::rest) N M G ah nx Q:=
 kgV h (fun fr hf hg hL K hK=>hA (hp (KW hf hg hL)) fr (uM hf hL hg) K hK) hc hq hd
theorem KX {p:Prop}{t:Nat}{v:AV}{M':MT}{G':GT}(hc:Eb ops M G g=some (γ,L))(hA:p->Dc P N (yu M G L) ah (iG+i) op v [] [])(h:WY P ops K iG (i+1) tp rest N V W U M' G' ah Q)(hq:Ec M G t γ v=some (M',G'):=by exact rfl)(hd:Nat.blt t N=true:=by exact rfl)(hp:gH M G L->p:=by (intro hg;first|exact True.intro|omega|assumption|(simp_all only [decide_eq_true_eq,decide_eq_false_iff_not,n_,og,oh,oq,yK,yL,kD,List.toList_toArray,Bool.or_eq_false_iff,Bool.and_eq_true,Bool.not_eq_true',Bool.not_eq_false',gH,yu,aoU,LM,fD,Nat.beq,and_true,true_and,forall_const,List.length_map,pW,List.length_cons,List.length_nil,decide_true,decide_false,cond_true,cond_false,Bool.not_true,Bool.not_false];done)|(simp_all only [decide_eq_true_eq,decide_eq_false_iff_not,n_,og,oh,oq,yK,yL,kD,List.toList_toArray,Bool.or_eq_false_iff,Bool.and_eq_true,Bool.not_eq_true',Bool.not_eq_false',gH,yu,aoU,LM,fD,Nat.beq,and_true,true_and,forall_const,List.length_map,pW,List.length_cons,List.length_nil,decide_true,decide_false,cond_true,cond_false,Bool.not_true,Bool.not_false];(try simp only [sLen] at *);omega))):WY P ops K iG i tp (⟨some t,op,ty,pos,lZ,g⟩::rest) N V W U M G ah Q:=
 xgV (rd:=[]) h (fun fr hf hg hL K hK=>hA (hp (KW hf hg hL)) fr (uM hf hL hg) K hK) hc hq hd rfl (.inl rfl)
theorem acH {f:FuncId}{az as0:List AV}{r:AV}{K:CK}(hpc:PC P f az r)(hn:Us as0=az)(hz:jZ az=true)(hK:K r ah (nx+1)):CW P f as0 ah nx K:=fun base w E vs hh hG hrep o a he next Q hnext=>by
 have hz':jZ (Us as0)=true:=by rw [hn];exact hz
 have has:kN ah as0=some az:=by rw [<- hn];exact FX hz'
 have hr0:=UK hh (fun _ _ h=>h) hrep has (fun b hb=>by rw [jM (vH hz')] at hb;cases hb)
 exact CJ (id:=nx) hh hG (fun _ _ h=>h) hh.jO hr0 hpc (.inl (.inr fun _ _ h=>h)) (he w) fun v w' E' hst hh' hv=>hnext v w' E' r ah (nx+1) hK hst (hh'.weaken fun b hb=>⟨by show nx<=b;have:nx+1<=b:=hb;omega,by have:nx+1<=b:=hb;omega⟩) hv
theorem Sm {t:Nat}{x:Operand}{f:FuncId}{args:Array Operand}{ts:Array TypeId}{first captured az as0:List AV}{r:AV}(hp:PC P f az r)(h:WL P ops rest N ((t,r)::M) ah (nx+1) Q)(hx:lI M x=some (.fn (.func f) first captured):=by exact rfl)(hy:qw M args.toList=some as0:=by exact rfl)(hn:Us (first++as0++captured)=az:=by exact rfl)(hz:jZ az=true:=by exact BO.h)(hd:Nat.blt t N=true:=by exact rfl) :
  WL P ops (⟨some t,.call ⟨.value x,args,ts⟩,ty,pos,lZ,none⟩::rest) N M ah nx Q:=fun i hi=>
 let ⟨h1,h2⟩:=aoG hi
 Y8 h1 hd hx hy (acH hp hn hz (h _ h2))
theorem frN : kN ah []=some []:=rfl
theorem frC {a b:AV}{l m:List AV}(h1:ny ah a=some b)(h2:kN ah l=some m):kN ah (a::l)=some (b::m):=by simp only [kN,h1,h2];rfl
theorem frP {b sz i off:Nat}{rs:List (List AV)}{row:List AV}(hb:ah b=some (.rows sz rs))(hc:iM rs=true)(hr:rs[i]?=some row):ny ah (.op b sz i off)=some (.vp row off):=by simp only [ny,hb,hc,hr,and_self,if_true];rfl
theorem frF {f:Fn}{l m:List AV}(h:kN ah l=some m):ny ah (.fn f [] l)=some (.fn f [] m):=by simp only [ny,kN,h];rfl
theorem frW {a b:AV}(h:nf a=b)(hz:b.fz=true):ny ah a=some b:=by subst h;exact XI hz
theorem Df {t:Nat}{f:FuncId}{args:Array Operand}{ts:Array TypeId}{az as0:List AV}{r:AV}{M':MT}{G':GT}(hp:gH M G L->PC P f az r)(h:WG P ops rest N M' G' ah (nx+1) Q)(hc:Eb ops M G g=some (γ,L):=by exact rfl)(hx:qw (yu M G L) args.toList=some as0:=by exact rfl)(hf:kN (vP ah aoK) as0=some az:=by repeat' first|exact frN|refine frC ?_ ?_|exact frW rfl BP.h|refine frF ?_|exact frP rfl rfl rfl)(hr:r.flat=true:=by exact rfl)(hq:Ec M G t γ r=some (M',G'):=by exact rfl)(hd:Nat.blt t N=true:=by exact rfl) :
  WG P ops (⟨some t,.call ⟨.value (.func f),args,ts⟩,ty,pos,lZ,g⟩::rest) N M G ah nx Q:=
 kgV h (fun fr hf' hg hL K hK=>dI.2 ⟨_,mG (uM hf' hL hg) hx,dI.2 ⟨az,hf,az,r,fun _ _ _ h=>h,hp (KW hf' hg hL),.inl ⟨.inr (.inl hr),hK⟩⟩⟩) hc hq hd
theorem qV {p1:Prop}{t:Nat}{f:FuncId}{args:Array Operand}{ts:Array TypeId}{az as0:List AV}{r:AV}{M':MT}{G':GT}(hp:p1->PC P f az r)(h:WG P ops rest N M' G' ah (nx+1) Q)(hc:Eb ops M G g=some (γ,L):=by exact rfl)(hx:qw (yu M G L) args.toList=some as0:=by exact rfl)(hf:kN (vP ah aoK) as0=some az:=by repeat' first|exact frN|refine frC ?_ ?_|exact frW rfl BP.h|refine frF ?_|exact frP rfl rfl rfl)(h1:gH M G L->p1:=by (intro hg;first|exact True.intro|omega|assumption|(simp_all only [decide_eq_true_eq,decide_eq_false_iff_not,n_,og,oh,oq,yK,yL,kD,List.toList_toArray,Bool.or_eq_false_iff,Bool.and_eq_true,Bool.not_eq_true',Bool.not_eq_false',gH,yu,aoU,LM,fD,Nat.beq,and_true,true_and,forall_const,List.length_map,pW,List.length_cons,List.length_nil,decide_true,decide_false,cond_true,cond_false,Bool.not_true,Bool.not_false];done)|(simp_all only [decide_eq_true_eq,decide_eq_false_iff_not,n_,og,oh,oq,yK,yL,kD,List.toList_toArray,Bool.or_eq_false_iff,Bool.and_eq_true,Bool.not_eq_true',Bool.not_eq_false',gH,yu,aoU,LM,fD,Nat.beq,and_true,true_and,forall_const,List.length_map,pW,List.length_cons,List.length_nil,decide_true,decide_false,cond_true,cond_false,Bool.not_true,Bool.not_false];(try simp only [sLen] at *);omega)))(hr:r.flat=true:=by exact rfl)(hq:Ec M G t γ r=some (M',G'):=by exact rfl)(hd:Nat.blt t N=true:=by exact rfl) :
  WG P ops (⟨some t,.call ⟨.value (.func f),args,ts⟩,ty,pos,lZ,g⟩::rest) N M G ah nx Q:=
 Df (fun hg=>hp (h1 hg)) h hc hx hf hr hq hd
end
end Go.Fw
end
section
namespace Go.Fw
variable [iZ]
section
variable {P : Program} {T:Gt} {N nx:Nat} {M:MT} {ah:AH} {Q:MQ}
instance {α : Type} {f:α->List AV} [h:KR f] {l:List α}:Bj (List.map f l):=⟨rX (EP h.h)⟩
abbrev J4 :=List (Nat×Nat×List (List AV))
def OU (nx:Nat):J4->MT
 |[]=>[]
 |(t,sz,rows)::r=>(t,.os nx sz 0 rows.length)::OU (nx+1) r
def Vq (nx:Nat):J4->List (Nat×pI)
 |[]=>[]
 |(_,sz,rows)::r=>(nx,.rows sz rows)::Vq (nx+1) r
inductive ER (M:MT)(ah:AH):J4->List Nat->Prop
 |nil:ER M ah [] []
 |cons {t sz b len:Nat} {rows:List (List AV)} {l:J4} {ids:List Nat} (h1:fD M t=some (.os b sz 0 len)) (h2:ah b=some (.rows sz rows)) (h3:rows.length=len) (h4:jI rows=[]) (h5:wU b ids=false) (r:ER M ah l ids):ER M ah ((t,sz,rows)::l) (b::ids)
theorem NM {b:Nat}:∀{l:List Nat},wU b l=false->b∉l
 |[],_,h=>by cases h
 |x::r,hm,h=>by
  simp only [wU] at hm
  split at hm
  .cases hm
  .rename_i hx
   rcases List.mem_cons.1 h with rfl|h
   .simp at hx
   .exact NM hm h
theorem rO.ren {base:Nat}{w:World}{E E':Env}{b k sz:Nat}{rs:List (List AV)}(h:rO base w E b (.rows sz rs))(hf:E'.fix=E.fix)(hb:E'.own k=E.own b)(hr:jI rs=[]):rO base w E' k (.rows sz rs):=by
 rcases h with ⟨q1,q2⟩|⟨c,o,arr,ty,q1,q2,q3,q4,q5,q6,q7,q8⟩
 .exact .inl ⟨by rw [hb];exact q1,q2⟩
 .refine .inr ⟨c,o,arr,ty,by rw [hb];exact q1,q2,fun off h0=>q3 off (by rw [<- hf];exact h0),q4,q5,q6,q7,fun i row j x hi hj=>?_⟩
  obtain ⟨v,hv,hx⟩:=q8 i row j x hi hj
  exact ⟨v,hv,xg (fun c o h=>by rw [hf];exact h) hx fun y hy=>by
   have:=uI i row hi (jG j x hj hy)
   rw [hr] at this;cases this⟩
def XJ (nx:Nat)(E:Env)(ids:List Nat):Nat->Own:=fun b=>if b<nx then E.own b else (match ids[b-nx]? with|some x=>E.own x|none=>.free)
theorem Lj.acI {base:Nat}{w:World}{E:Env}{fr:nP}{nx':Nat}{a:Act}{M':MT}{l:List (Nat×pI)}{ow:J4}{ids:List Nat}(hs:Lj base w E fr ah nx' a)(hf:FA N M fr)(hf':FA N M' fr)(hl:C9 l ah)(hr:wS nx M')(hb:Bg nx l)(ho:ER M ah ow ids)(hd:nV (fun k _=>wU k ids=false) l) :
  ∃E',FA N (OU nx ow++M') (Gh N (OU nx ow++M'))/\Lj base w E' (Gh N (OU nx ow++M')) (II (Vq nx ow++l)) (nx+ow.length) a/\E'.fix=E.fix/\(∀b,b<nx->E'.own b=E.own b)/\∀b c o,E'.own b=.at c o->∃b' o',E.own b'=.at c o':=by
 let E':Env:=⟨E.fix,XJ nx E ids⟩
 have hlt:∀b,b<nx->E'.own b=E.own b:=fun b h=>if_pos h
 have hge:∀i x,ids[i]?=some x->E'.own (nx+i)=E.own x:=fun i x h=>by
  show XJ nx E ids (nx+i)=_
  unfold XJ
  rw [if_neg (by omega),show nx+i-nx=i by omega,h]
 have hat:∀b c o,E'.own b=.at c o->∃b' o',E.own b'=.at c o':=fun b c o h=>by
  have h':XJ nx E ids b=.at c o:=h
  unfold XJ at h'
  split at h'
  .exact ⟨b,o,h'⟩
  .split at h'
   .rename_i x hx;exact ⟨x,o,h'⟩
   .cases h'
 have hlen:ow.length=ids.length:=by
  clear hd hat hge hlt E'
  induction ho with
  |nil=>rfl
  |cons _ _ _ _ _ _ ih=>simp [ih]
 
 have slots:∀(ow2:J4) (Sr:List Nat) (n:Nat),ER M ah ow2 Sr->(∀i,Sr[i]?=ids[n+i]?)->∀t x,fD (OU (nx+n) ow2++M') t=some x->∃v,a.tmps[t]?=some v/\Rep w E' x v/\t<N:=by
  intro ow2
  induction ow2 with
  |nil=>
   intro Sr n _ _ t x hx
   obtain ⟨v,hv,hrep⟩:=hs.fr.get t x (hf'.get t x hx)
   exact ⟨v,hv,xg (E:=E) (E':=E') (fun _ _ h=>h) hrep fun b hbx=>hlt b (NJ hr hx b hbx),hf'.lt hx⟩
  |cons e r ih=>
   intro Sr n h2 hi t x hx
   obtain ⟨t0,sz,rows⟩:=e
   cases h2 with
   |@cons _ _ b len _ _ ahm h1 h2 h3 h4 h5 hr'=>
   simp only [OU,cu,fD] at hx
   split at hx
   .rename_i he
    obtain rfl:=aA he
    simp only [au] at hx;subst hx
    obtain ⟨v,hv,hrep⟩:=hs.fr.get t0 _ (hf.get t0 _ h1)
    refine ⟨v,hv,?_,hf.lt h1⟩
    have hown:E'.own (nx+n)=E.own b:=hge n b (by have:=hi 0;simpa using this.symm)
    rw [h3]
    clear h3 h1 h2
    cases hrep with
    |lg _ _ _ a1 hb1=>exact .lg _ sz 0 a1 (by rw [hown];exact hb1)
    |os _ _ _ _ c o cap hb1 hcap hsize=>exact .os _ sz 0 len c o cap (by rw [hown];exact hb1) hcap hsize
   .exact ih ahm (n+1) hr' (fun i=>by have:=hi (i+1);simp only [List.getElem?_cons_succ] at this;rw [this,show n+(i+1)=n+1+i by omega]) t x (by rw [show nx+(n+1)=nx+n+1 by omega];exact hx)
 
 have blks:∀(ow2:J4) (Sr:List Nat) (n:Nat),ER M ah ow2 Sr->(∀i,Sr[i]?=ids[n+i]?)->∀k b,II (Vq (nx+n) ow2++l) k=some b->
   (∃i x,n<=i/\k=nx+i/\ids[i]?=some x/\ah x=some b/\(∃sz rs,b=.rows sz rs/\jI rs=[]))\/(k<nx/\ah k=some b/\k∉ids/\∀x∈b.vW,x<nx):=by
  intro ow2
  induction ow2 with
  |nil=>
   intro Sr n _ _ k b hk
   exact .inr ⟨(nV.get hb hk).1,nV.get hl hk,NM (nV.get hd hk),(nV.get hb hk).2⟩
  |cons e r ih=>
   intro Sr n h2 hi k b hk
   obtain ⟨t0,sz,rows⟩:=e
   cases h2 with
   |@cons _ _ b0 len _ _ ahm h1 h2 h3 h4 h5 hr'=>
   simp only [Vq,cu,II,tN] at hk
   split at hk
   .rename_i he
    have:=aA he
    simp only [au] at hk;subst hk
    exact .inl ⟨n,b0,dH _,this.symm,by have:=hi 0;simpa using this.symm,h2,sz,rows,rfl,h4⟩
   .rcases ih ahm (n+1) hr' (fun i=>by have:=hi (i+1);simp only [List.getElem?_cons_succ] at this;rw [this,show n+(i+1)=n+1+i by omega]) k b (by rw [show nx+(n+1)=nx+n+1 by omega];exact hk) with ⟨i,x,q1,q2⟩|q
    .exact .inl ⟨i,x,by omega,q2⟩
    .exact .inr q
 have hnd:ids.Nodup:=by
  clear hd hat hge hlt hlen slots blks E'
  induction ho with
  |nil=>exact List.nodup_nil
  |cons _ _ _ _ h5 _ ih=>exact List.nodup_cons.2 ⟨NM h5,ih⟩
 have XK:=slots ow ids 0 ho (fun i=>by rw [Nat.zero_add])
 have acJ:=blks ow ids 0 ho (fun i=>by rw [Nat.zero_add])
 simp only [Nat.add_zero] at XK acJ
 have hfa:FA N (OU nx ow++M') (Gh N (OU nx ow++M')):=⟨by simp [Gh],fun t x hx=>by
  obtain ⟨_,_,_,h⟩:=XK t x hx
  rw [IG,if_pos h];exact hx⟩
 
 have act:∀k b,II (Vq nx ow++l) k=some b->∃x,ah x=some b/\E'.own k=E.own x/\((k<nx/\x=k/\k∉ids)\/∃i,k=nx+i/\ids[i]?=some x):=fun k b h=>by
  rcases acJ k b h with ⟨i,x,-,rfl,q2,q3,-⟩|⟨q1,q2,q3,-⟩
  .exact ⟨x,q3,hge i x q2,.inr ⟨i,rfl,q2⟩⟩
  .exact ⟨k,q2,hlt k q1,.inl ⟨q1,rfl,q3⟩⟩
 refine ⟨E',hfa,⟨⟨fun b k h=>?_,fun b b' k k' c o c' o' hne h1 h2 h3 h4=>?_,fun b h=>?_,hs.heap.jO,hs.heap.bs,fun b c o h=>?_⟩,⟨?_,fun t x hx=>?_,hs.fr.GY⟩,hs.defers⟩,rfl,hlt,hat⟩
 .rcases acJ b k h with ⟨i,x,-,rfl,q2,q3,sz,rs,rfl,q4⟩|⟨q1,q2,q3,q4⟩
  .exact (hs.heap.blk x _ q3).ren rfl (hge i x q2) q4
  .exact (hs.heap.blk b k q2).env (fun _ _ h=>h) (fun _ _ _ _ h=>h) (hlt b q1) fun x hx=>hlt x (q4 x hx)
 .obtain ⟨x,a1,a2,a3⟩:=act b k h1
  obtain ⟨x',b1,b2,b3⟩:=act b' k' h2
  rw [a2] at h3
  rw [b2] at h4
  refine hs.heap.sep x x' k k' c o c' o' (fun e=>hne ?_) a1 b1 h3 h4
  subst e
  rcases a3 with ⟨p1,p2,p3⟩|⟨i,p1,p2⟩
  .rcases b3 with ⟨r1,r2,r3⟩|⟨j,r1,r2⟩
   .rw [<- p2,<- r2]
   .exact absurd (aK r2) (by rw [p2];exact p3)
  .rcases b3 with ⟨r1,r2,r3⟩|⟨j,r1,r2⟩
   .exact absurd (aK p2) (by rw [r2];exact r3)
   .rw [p1,r1]
    congr 1
    obtain ⟨l1,e1⟩:=aG.1 p2
    obtain ⟨l2,e2⟩:=aG.1 r2
    have hp:=List.pairwise_iff_getElem.1 hnd
    rcases Nat.lt_trichotomy i j with h|h|h
    .exact absurd (e1.trans e2.symm) (hp i j l1 l2 h)
    .exact h
    .exact absurd (e2.trans e1.symm) (hp j i l2 l1 h)
 .show XJ nx E ids b=.free
  have hb':nx+ow.length<=b:=h
  unfold XJ
  rw [if_neg (by omega),bT (by omega)]
 .obtain ⟨b',o',h'⟩:=hat b c o h
  exact hs.heap.lH b' c o' h'
 .have:=hs.fr.size;rw [hf.len] at this;simpa [Gh] using this
 .rw [IG] at hx
  split at hx
  .obtain ⟨v,hv,hrep,_⟩:=XK t x hx
   exact ⟨v,hv,hrep⟩
  .cases hx
def owF (M:MT)(ah:AH):J4->Option (List Nat)
 |[]=>some []
 |(t,_,_)::r=>match fD M t with
  |some (.os b _ _ _)=>(match owF M ah r with|some l=>some (b::l)|none=>none)
  |_=>none
abbrev Vr :=List (Nat×pI)
def ae_ (b:Nat):List Nat->List Nat
 |[]=>[]
 |x::r=>match Nat.beq x b with|true=>ae_ b r|false=>x::ae_ b r
def exN (l:List Nat):Vr->List Nat
 |[]=>l
 |(b,_)::r=>exN (ae_ b l) r
class NP (b:pI):Prop where h:b.vW=[]
instance {sz : Nat} {rs:List (List AV)} [h:Bj rs]:NP (.rows sz rs):=⟨h.h⟩
instance {α β:Type} {ek:α->AV} {ev:β->AV} {l:List (α×β)} [h:∀a,BP (ek a)] [k:∀b,BP (ev b)]:NP (.map (mE ek ev l)):=⟨by
 show jR ((mE ek ev l).map (·.1))++jR ((mE ek ev l).map (·.2))=[]
 rw [uD.2 fun x hx=>?_,uD.2 fun x hx=>?_];rfl
 .simp only [mE,List.map_map,aX,Function.comp] at hx
  obtain ⟨p,_,rfl⟩:=hx
  exact zh (oL (k p.2).h)
 .simp only [mE,List.map_map,aX,Function.comp] at hx
  obtain ⟨p,_,rfl⟩:=hx
  exact zh (oL (h p.1).h)⟩
theorem Gi {b nx:Nat}(h:Nat.blt b nx=true):∀x∈(AV.mp b).refs,x<nx:=fun x hx=>by
 simp only [AV.refs,bZ] at hx
 subst hx;simpa using h
theorem Sv {nx:Nat}{b:pI}(h:b.vW=[]):∀x∈b.vW,x<nx:=fun x hx=>by rw [h] at hx;cases hx
theorem LQ {m:List (Int×Bool)}{d:List Bool}:(EK m d).length=d.length:=by simp [EK]
def Gu (vs:MT)(ow:J4)(M1:MT)(bl:List (Nat×pI))(M':MT)(eX:AH):Prop:=ML M' vs/\Bh M' M1/\C9 bl eX/\∃ids,ER M' eX ow ids/\nV (fun k _=>wU k ids=false) bl
theorem Vs {vs M1 M':MT}{ow:J4}{bl:List (Nat×pI)}{eX:AH}{ids:List Nat}(h1:ML M' vs:=by repeat' first|exact trivial|refine ⟨rfl,?_⟩)(h2:Bh M' M1:=by repeat' first|exact aaD|refine acE ?_)(h3:C9 bl eX:=by repeat' first|exact trivial|refine ⟨rfl,?_⟩)(ho:owF M' eX ow=some ids:=by exact rfl)(h4:ER M' eX ow ids:=by repeat' first|exact ER.nil|refine ER.cons rfl (by first|exact rfl|(simp only [List.map_append];exact rfl)) (by first|exact rfl|(simp;done)|simp only [dB,LQ]) Bj.h rfl ?_)(h5:nV (fun k _=>wU k ids=false) bl:=by repeat' first|exact trivial|refine ⟨rfl,?_⟩):Gu vs ow M1 bl M' eX:=⟨h1,h2,h3,ids,h4,h5⟩
theorem klr {cc:Code}{β:Type}(I:Nat->β->Prop)(vars:β->MT)(ow:β->J4)(kk:Nat)(hk:∀b,(ow b).length=kk)(M1:MT)(bl:β->List (Nat×pI))(b0:β)(n0:Nat)(h0:I n0 b0)(hM:ML M (vars b0))(hM2:Bh M M1)(hbl:C9 (bl b0) ah){ids:List Nat}(ho:ER M ah (ow b0) ids)(hd:nV (fun k _=>wU k ids=false) (bl b0))(hr:∀b,wS nx (vars b))(hr2:wS nx M1)(hb:∀b,Bg nx (bl b))
  (round:∀n b,I n b->mJ P cc N (OU nx (ow b)++(vars b++M1)) (II (Vq nx (ow b)++bl b)) (nx+kk) (qp (fun M' eX _=>∃b' m,I m b'/\m<n/\Gu (vars b') (ow b') M1 (bl b') M' eX) Q)):mJ P (.loop cc) N M ah nx Q:=by
 intro fr hf base w E a Rz
 have hfree:∀b,E.own b≠.free->b<nx:=fun b h=>by
  rcases Nat.lt_or_ge b nx with hlt|hge
  .exact hlt
  .exact absurd (Rz.heap.fresh b hge) h
 refine wp_loop_ghost (fun n a' w'=>∃b E',I n b/\FA N (OU nx (ow b)++(vars b++M1)) (Gh N (OU nx (ow b)++(vars b++M1)))/\Lj base w' E' (Gh N (OU nx (ow b)++(vars b++M1))) (II (Vq nx (ow b)++bl b)) (nx+kk) a'/\Step base w E w' E') n0 ?_ ?_
 .obtain ⟨E',q1,q2,q3,q4,q5⟩:=Rz.acI hf (FA.app (hf.vs hM) (hf.sub hM2)) hbl (EO (hr b0) hr2) (hb b0) ho hd
  rw [hk] at q2
  exact ⟨b0,E',h0,q1,q2,Ir (Step.refl _ _ _) q3 (fun b h=>q4 b (hfree b h)) q5⟩
 .intro n a' w' ⟨b,E',hI,hfa,hs',hst⟩
  refine wp_mono (round n b hI _ hfa base w' E' a' hs') fun e a2 w2 hp=>?_
  obtain ⟨E2,fr2,wL,rJ,⟨M2,Vt,hq⟩,hs2,hst2⟩:=hp
  cases e with
  |normal=>
   obtain ⟨b',m,hI',hm,hM',alk,hs2',anI,ho',hd'⟩:=hq
   obtain ⟨E3,q1,q2,q3,q4,q5⟩:=hs2.acI Vt (FA.app (Vt.vs hM') (Vt.sub alk)) hs2' (EO (hr b') hr2) (hb b') ho' hd'
   rw [hk] at q2
   have hall:=hst.trans hst2
   exact ⟨m,hm,b',E3,hI',q1,q2,Ir hall q3 (fun b h=>q4 b (hfree b h)) q5⟩
  |_=>exact ⟨E2,fr2,wL,rJ,⟨M2,Vt,hq⟩,hs2,hst.trans hst2⟩
theorem Vu {nx sz:Nat}{rs:List (List AV)}(h:((jI rs).all fun x=>Nat.blt x nx)=true):∀x∈(pI.rows sz rs).vW,x<nx:=fun x hx=>by
 have:=aJ.1 h x hx
 simpa using this
theorem ES : ∀{a b:List (Nat×pI)},C9 a ah->C9 b ah->C9 (a++b) ah
 |[],_,_,h=>h
 |_::_,_,⟨h1,h2⟩,h=>⟨h1,ES h2 h⟩
structure KL1 {α ρ:Type}(J:Nat->α->Prop)(F:Nat->α->ρ)(R:ρ)(vars:α->MT)(ow:α->J4)(vb:α->Vr)(ts:List Nat)(a0:α)(n0:Nat):Type where
 h:R=F n0 a0
theorem Bl {cc:Code}{α ρ:Type}{J:Nat->α->Prop}{F:Nat->α->ρ}{R:ρ}{vars:α->MT}{ow:α->J4}{vb:α->Vr}{ts:List Nat}{a0:α}{n0:Nat}(kl:KL1 J F R vars ow vb ts a0 n0){kk:Nat}{M1:MT}{bl:List (Nat×pI)}{ids:List Nat}
  (round:∀(n:Nat) a,J (n+1) a->R=F (n+1) a->mJ P cc N (OU nx (ow a)++(vars a++M1)) (II (Vq nx (ow a)++(vb a++bl))) (nx+kk) (qp (fun M' eX _=>∃a',(J n a'/\R=F n a')/\Gu (vars a') (ow a') M1 (vb a'++bl) M' eX) Q))
  (h0:J n0 a0:=by ((try dsimp only);first|omega|(simp only [decide_eq_true_eq,decide_eq_false_iff_not,n_,og,oh,oq,yK,yL,kD,List.toList_toArray,dB,List.length_replicate,pW,sLen,List.length_nil,dD];omega)|assumption|exact ⟨by assumption,by assumption⟩|simp_all)) (h1:∀a,J 0 a->False:=by (intro _ h;(try dsimp only at h);first|omega|exact absurd h.1 Bool.false_ne_true|exact h)) (hk:∀a,(ow a).length=kk:=by intros;first|exact rfl|(simp only [dD,List.length_nil];exact rfl))
  (hM:ML M (vars a0):=by repeat' first|exact trivial|refine ⟨rfl,?_⟩) (hM2:Zc ts M=some M1:=by exact rfl) (ho:owF M ah (ow a0)=some ids:=by exact rfl) (ho2:ER M ah (ow a0) ids:=by repeat' first|exact ER.nil|refine ER.cons rfl rfl (by first|exact rfl|simp) Bj.h rfl ?_) (hbl:kbF ah (exN (O7 (vars a0++M1)) (vb a0))=some bl:=by exact rfl) (hvb:C9 (vb a0) ah:=by repeat' first|exact trivial|refine ⟨rfl,?_⟩) (hd:nV (fun k _=>wU k ids=false) (vb a0++bl):=by repeat' first|exact trivial|refine ⟨rfl,?_⟩)
  (hr:∀a,wS nx (vars a):=by intros;repeat' first|exact trivial|refine ⟨?_,?_⟩|exact Ed JA.h|exact Ea rfl|exact Gi rfl) (hr2:wS nx M1:=by repeat' first|exact trivial|refine ⟨?_,?_⟩|exact Ed JA.h|exact Ea rfl|exact Gi rfl) (hb:∀a,Bg nx (vb a++bl):=by intros;repeat' first|exact trivial|refine ⟨rfB rfl ?_,?_⟩|exact Sv NP.h|exact Vu rfl):mJ P (.loop cc) N M ah nx Q:=
 klr (β:=α) (fun n b=>J n b/\R=F n b) (fun b=>vars b) (fun b=>ow b) kk (fun b=>hk b) M1 (fun b=>vb b++bl) a0 n0 ⟨h0,kl.h⟩ hM (IJ hM2) (ES hvb (IK hbl)) ho2 hd (fun b=>hr b) hr2 (fun b=>hb b) fun n b hI=>by
  obtain ⟨i1,i3⟩:=hI
  try dsimp only at i1 i3
  cases n with
  |zero=>exact (h1 _ i1).elim
  |succ n=>
   refine (round n b i1 i3).mono fun e M' eX nx' hq=>?_
   cases e with
   |normal=>
    obtain ⟨a',q1,q2⟩:=hq
    exact ⟨a',n,q1,Nat.lt_succ_self _,q2⟩
   |_=>exact hq
structure QB {α β ρ:Type}(J:Nat->α->β->Prop)(F:Nat->α->β->ρ)(R:ρ)(vars:α->β->MT)(ow:α->β->J4)(vb:α->β->Vr)(ts:List Nat)(a0:α)(b0:β)(n0:Nat):Type where
 h:R=F n0 a0 b0
theorem Bo {cc:Code}{α β ρ:Type}{J:Nat->α->β->Prop}{F:Nat->α->β->ρ}{R:ρ}{vars:α->β->MT}{ow:α->β->J4}{vb:α->β->Vr}{ts:List Nat}{a0:α}{b0:β}{n0:Nat}(kl:QB J F R vars ow vb ts a0 b0 n0){kk:Nat}{M1:MT}{bl:List (Nat×pI)}{ids:List Nat}
  (round:∀(n:Nat) a b,J (n+1) a b->R=F (n+1) a b->mJ P cc N (OU nx (ow a b)++(vars a b++M1)) (II (Vq nx (ow a b)++(vb a b++bl))) (nx+kk) (qp (fun M' eX _=>∃a' b',(J n a' b'/\R=F n a' b')/\Gu (vars a' b') (ow a' b') M1 (vb a' b'++bl) M' eX) Q))
  (h0:J n0 a0 b0:=by ((try dsimp only);first|omega|(simp only [decide_eq_true_eq,decide_eq_false_iff_not,n_,og,oh,oq,yK,yL,kD,List.toList_toArray,dB,List.length_replicate,pW,sLen,List.length_nil,dD];omega)|assumption|exact ⟨by assumption,by assumption⟩|simp_all)) (h1:∀a b,J 0 a b->False:=by (intro _ _ h;(try dsimp only at h);first|omega|exact absurd h.1 Bool.false_ne_true|exact h)) (hk:∀a b,(ow a b).length=kk:=by intros;first|exact rfl|(simp only [dD,List.length_nil];exact rfl))
  (hM:ML M (vars a0 b0):=by repeat' first|exact trivial|refine ⟨rfl,?_⟩) (hM2:Zc ts M=some M1:=by exact rfl) (ho:owF M ah (ow a0 b0)=some ids:=by exact rfl) (ho2:ER M ah (ow a0 b0) ids:=by repeat' first|exact ER.nil|refine ER.cons rfl rfl (by first|exact rfl|simp) Bj.h rfl ?_) (hbl:kbF ah (exN (O7 (vars a0 b0++M1)) (vb a0 b0))=some bl:=by exact rfl) (hvb:C9 (vb a0 b0) ah:=by repeat' first|exact trivial|refine ⟨rfl,?_⟩) (hd:nV (fun k _=>wU k ids=false) (vb a0 b0++bl):=by repeat' first|exact trivial|refine ⟨rfl,?_⟩)
  (hr:∀a b,wS nx (vars a b):=by intros;repeat' first|exact trivial|refine ⟨?_,?_⟩|exact Ed JA.h|exact Ea rfl|exact Gi rfl) (hr2:wS nx M1:=by repeat' first|exact trivial|refine ⟨?_,?_⟩|exact Ed JA.h|exact Ea rfl|exact Gi rfl) (hb:∀a b,Bg nx (vb a b++bl):=by intros;repeat' first|exact trivial|refine ⟨rfB rfl ?_,?_⟩|exact Sv NP.h|exact Vu rfl):mJ P (.loop cc) N M ah nx Q:=
 klr (β:=α×β) (fun n b=>J n b.1 b.2/\R=F n b.1 b.2) (fun b=>vars b.1 b.2) (fun b=>ow b.1 b.2) kk (fun b=>hk b.1 b.2) M1 (fun b=>vb b.1 b.2++bl) (a0,b0) n0 ⟨h0,kl.h⟩ hM (IJ hM2) (ES hvb (IK hbl)) ho2 hd (fun b=>hr b.1 b.2) hr2 (fun b=>hb b.1 b.2) fun n b hI=>by
  obtain ⟨a,b⟩:=b
  obtain ⟨i1,i3⟩:=hI
  try dsimp only at i1 i3
  cases n with
  |zero=>exact (h1 _ _ i1).elim
  |succ n=>
   refine (round n a b i1 i3).mono fun e M' eX nx' hq=>?_
   cases e with
   |normal=>
    obtain ⟨a',b',q1,q2⟩:=hq
    exact ⟨(a',b'),n,q1,Nat.lt_succ_self _,q2⟩
   |_=>exact hq
structure KL3 {α β γ ρ:Type}(J:Nat->α->β->γ->Prop)(F:Nat->α->β->γ->ρ)(R:ρ)(vars:α->β->γ->MT)(ow:α->β->γ->J4)(vb:α->β->γ->Vr)(ts:List Nat)(a0:α)(b0:β)(c0:γ)(n0:Nat):Type where
 h:R=F n0 a0 b0 c0
theorem Bq {cc:Code}{α β γ ρ:Type}{J:Nat->α->β->γ->Prop}{F:Nat->α->β->γ->ρ}{R:ρ}{vars:α->β->γ->MT}{ow:α->β->γ->J4}{vb:α->β->γ->Vr}{ts:List Nat}{a0:α}{b0:β}{c0:γ}{n0:Nat}(kl:KL3 J F R vars ow vb ts a0 b0 c0 n0){kk:Nat}{M1:MT}{bl:List (Nat×pI)}{ids:List Nat}
  (round:∀(n:Nat) a b c,J (n+1) a b c->R=F (n+1) a b c->mJ P cc N (OU nx (ow a b c)++(vars a b c++M1)) (II (Vq nx (ow a b c)++(vb a b c++bl))) (nx+kk) (qp (fun M' eX _=>∃a' b' c',(J n a' b' c'/\R=F n a' b' c')/\Gu (vars a' b' c') (ow a' b' c') M1 (vb a' b' c'++bl) M' eX) Q))
  (h0:J n0 a0 b0 c0:=by ((try dsimp only);first|omega|(simp only [decide_eq_true_eq,decide_eq_false_iff_not,n_,og,oh,oq,yK,yL,kD,List.toList_toArray,dB,List.length_replicate,pW,sLen,List.length_nil,dD];omega)|assumption|exact ⟨by assumption,by assumption⟩|simp_all)) (h1:∀a b c,J 0 a b c->False:=by (intro _ _ _ h;(try dsimp only at h);first|omega|exact absurd h.1 Bool.false_ne_true|exact h)) (hk:∀a b c,(ow a b c).length=kk:=by intros;first|exact rfl|(simp only [dD,List.length_nil];exact rfl))
  (hM:ML M (vars a0 b0 c0):=by repeat' first|exact trivial|refine ⟨rfl,?_⟩) (hM2:Zc ts M=some M1:=by exact rfl) (ho:owF M ah (ow a0 b0 c0)=some ids:=by exact rfl) (ho2:ER M ah (ow a0 b0 c0) ids:=by repeat' first|exact ER.nil|refine ER.cons rfl rfl (by first|exact rfl|simp) Bj.h rfl ?_) (hbl:kbF ah (exN (O7 (vars a0 b0 c0++M1)) (vb a0 b0 c0))=some bl:=by exact rfl) (hvb:C9 (vb a0 b0 c0) ah:=by repeat' first|exact trivial|refine ⟨rfl,?_⟩) (hd:nV (fun k _=>wU k ids=false) (vb a0 b0 c0++bl):=by repeat' first|exact trivial|refine ⟨rfl,?_⟩)
  (hr:∀a b c,wS nx (vars a b c):=by intros;repeat' first|exact trivial|refine ⟨?_,?_⟩|exact Ed JA.h|exact Ea rfl|exact Gi rfl) (hr2:wS nx M1:=by repeat' first|exact trivial|refine ⟨?_,?_⟩|exact Ed JA.h|exact Ea rfl|exact Gi rfl) (hb:∀a b c,Bg nx (vb a b c++bl):=by intros;repeat' first|exact trivial|refine ⟨rfB rfl ?_,?_⟩|exact Sv NP.h|exact Vu rfl):mJ P (.loop cc) N M ah nx Q:=
 klr (β:=α×β×γ) (fun n b=>J n b.1 b.2.1 b.2.2/\R=F n b.1 b.2.1 b.2.2) (fun b=>vars b.1 b.2.1 b.2.2) (fun b=>ow b.1 b.2.1 b.2.2) kk (fun b=>hk b.1 b.2.1 b.2.2) M1 (fun b=>vb b.1 b.2.1 b.2.2++bl) (a0,b0,c0) n0 ⟨h0,kl.h⟩ hM (IJ hM2) (ES hvb (IK hbl)) ho2 hd (fun b=>hr b.1 b.2.1 b.2.2) hr2 (fun b=>hb b.1 b.2.1 b.2.2) fun n b hI=>by
  obtain ⟨a,b,c⟩:=b
  obtain ⟨i1,i3⟩:=hI
  try dsimp only at i1 i3
  cases n with
  |zero=>exact (h1 _ _ _ i1).elim
  |succ n=>
   refine (round n a b c i1 i3).mono fun e M' eX nx' hq=>?_
   cases e with
   |normal=>
    obtain ⟨a',b',c',q1,q2⟩:=hq
    exact ⟨(a',b',c'),n,q1,Nat.lt_succ_self _,q2⟩
   |_=>exact hq
structure KL4 {α β γ δ ρ:Type}(J:Nat->α->β->γ->δ->Prop)(F:Nat->α->β->γ->δ->ρ)(R:ρ)(vars:α->β->γ->δ->MT)(ow:α->β->γ->δ->J4)(vb:α->β->γ->δ->Vr)(ts:List Nat)(a0:α)(b0:β)(c0:γ)(d0:δ)(n0:Nat):Type where
 h:R=F n0 a0 b0 c0 d0
theorem Bv {cc:Code}{α β γ δ ρ:Type}{J:Nat->α->β->γ->δ->Prop}{F:Nat->α->β->γ->δ->ρ}{R:ρ}{vars:α->β->γ->δ->MT}{ow:α->β->γ->δ->J4}{vb:α->β->γ->δ->Vr}{ts:List Nat}{a0:α}{b0:β}{c0:γ}{d0:δ}{n0:Nat}(kl:KL4 J F R vars ow vb ts a0 b0 c0 d0 n0){kk:Nat}{M1:MT}{bl:List (Nat×pI)}{ids:List Nat}
  (round:∀(n:Nat) a b c d,J (n+1) a b c d->R=F (n+1) a b c d->mJ P cc N (OU nx (ow a b c d)++(vars a b c d++M1)) (II (Vq nx (ow a b c d)++(vb a b c d++bl))) (nx+kk) (qp (fun M' eX _=>∃a' b' c' d',(J n a' b' c' d'/\R=F n a' b' c' d')/\Gu (vars a' b' c' d') (ow a' b' c' d') M1 (vb a' b' c' d'++bl) M' eX) Q))
  (h0:J n0 a0 b0 c0 d0:=by ((try dsimp only);first|omega|(simp only [decide_eq_true_eq,decide_eq_false_iff_not,n_,og,oh,oq,yK,yL,kD,List.toList_toArray,dB,List.length_replicate,pW,sLen,List.length_nil,dD];omega)|assumption|exact ⟨by assumption,by assumption⟩|simp_all)) (h1:∀a b c d,J 0 a b c d->False:=by (intro _ _ _ _ h;(try dsimp only at h);first|omega|exact absurd h.1 Bool.false_ne_true|exact h)) (hk:∀a b c d,(ow a b c d).length=kk:=by intros;first|exact rfl|(simp only [dD,List.length_nil];exact rfl))
  (hM:ML M (vars a0 b0 c0 d0):=by repeat' first|exact trivial|refine ⟨rfl,?_⟩) (hM2:Zc ts M=some M1:=by exact rfl) (ho:owF M ah (ow a0 b0 c0 d0)=some ids:=by exact rfl) (ho2:ER M ah (ow a0 b0 c0 d0) ids:=by repeat' first|exact ER.nil|refine ER.cons rfl rfl (by first|exact rfl|simp) Bj.h rfl ?_) (hbl:kbF ah (exN (O7 (vars a0 b0 c0 d0++M1)) (vb a0 b0 c0 d0))=some bl:=by exact rfl) (hvb:C9 (vb a0 b0 c0 d0) ah:=by repeat' first|exact trivial|refine ⟨rfl,?_⟩) (hd:nV (fun k _=>wU k ids=false) (vb a0 b0 c0 d0++bl):=by repeat' first|exact trivial|refine ⟨rfl,?_⟩)
  (hr:∀a b c d,wS nx (vars a b c d):=by intros;repeat' first|exact trivial|refine ⟨?_,?_⟩|exact Ed JA.h|exact Ea rfl|exact Gi rfl) (hr2:wS nx M1:=by repeat' first|exact trivial|refine ⟨?_,?_⟩|exact Ed JA.h|exact Ea rfl|exact Gi rfl) (hb:∀a b c d,Bg nx (vb a b c d++bl):=by intros;repeat' first|exact trivial|refine ⟨rfB rfl ?_,?_⟩|exact Sv NP.h|exact Vu rfl):mJ P (.loop cc) N M ah nx Q:=
 klr (β:=α×β×γ×δ) (fun n b=>J n b.1 b.2.1 b.2.2.1 b.2.2.2/\R=F n b.1 b.2.1 b.2.2.1 b.2.2.2) (fun b=>vars b.1 b.2.1 b.2.2.1 b.2.2.2) (fun b=>ow b.1 b.2.1 b.2.2.1 b.2.2.2) kk (fun b=>hk b.1 b.2.1 b.2.2.1 b.2.2.2) M1 (fun b=>vb b.1 b.2.1 b.2.2.1 b.2.2.2++bl) (a0,b0,c0,d0) n0 ⟨h0,kl.h⟩ hM (IJ hM2) (ES hvb (IK hbl)) ho2 hd (fun b=>hr b.1 b.2.1 b.2.2.1 b.2.2.2) hr2 (fun b=>hb b.1 b.2.1 b.2.2.1 b.2.2.2) fun n b hI=>by
  obtain ⟨a,b,c,d⟩:=b
  obtain ⟨i1,i3⟩:=hI
  try dsimp only at i1 i3
  cases n with
  |zero=>exact (h1 _ _ _ _ i1).elim
  |succ n=>
   refine (round n a b c d i1 i3).mono fun e M' eX nx' hq=>?_
   cases e with
   |normal=>
    obtain ⟨a',b',c',d',q1,q2⟩:=hq
    exact ⟨(a',b',c',d'),n,q1,Nat.lt_succ_self _,q2⟩
   |_=>exact hq
structure KIf {ρ:Type}(R v:ρ):Type
theorem KIf.no {ρ:Type}{R v:ρ}(e:R=v)(h:KIf R v):True:=trivial
structure KI1 {α ρ:Type}(J:Nat->α->Prop)(F:Nat->α->ρ)(vars:α->MT)(ow:α->J4)(vb:α->Vr)(ts:List Nat)(n0:Nat):Type
theorem Dh {cc:Code}{α ρ:Type}{J:Nat->α->Prop}{F:Nat->α->ρ}{vars:α->MT}{ow:α->J4}{vb:α->Vr}{ts:List Nat}{n0:Nat}(kl:KI1 J F vars ow vb ts n0){a0:α}{kk:Nat}{M1:MT}{bl:List (Nat×pI)}{ids:List Nat}
  (round:∀R,F n0 a0=R->(∀(n:Nat) a,KIf R (F n a))->∀(n:Nat) a,J (n+1) a->R=F (n+1) a->mJ P cc N (OU nx (ow a)++(vars a++M1)) (II (Vq nx (ow a)++(vb a++bl))) (nx+kk) (qp (fun M' eX _=>∃a',(J n a'/\R=F n a')/\Gu (vars a') (ow a') M1 (vb a'++bl) M' eX) Q)) (h0:J n0 a0)
  (hM:ML M (vars a0):=by repeat' first|exact trivial|refine ⟨rfl,?_⟩) (ho:owF M ah (ow a0)=some ids:=by exact rfl) (ho2:ER M ah (ow a0) ids:=by repeat' first|exact ER.nil|refine ER.cons rfl rfl (by first|exact rfl|simp) Bj.h rfl ?_) (hvb:C9 (vb a0) ah:=by repeat' first|exact trivial|refine ⟨rfl,?_⟩)
  (h1:∀a,J 0 a->False:=by (intro _ h;(try dsimp only at h);first|omega|exact absurd h.1 Bool.false_ne_true|exact h)) (hk:∀a,(ow a).length=kk:=by intros;first|exact rfl|(simp only [dD,List.length_nil];exact rfl))
  (hM2:Zc ts M=some M1:=by exact rfl) (hbl:kbF ah (exN (O7 (vars a0++M1)) (vb a0))=some bl:=by exact rfl) (hd:nV (fun k _=>wU k ids=false) (vb a0++bl):=by repeat' first|exact trivial|refine ⟨rfl,?_⟩)
  (hr:∀a,wS nx (vars a):=by intros;repeat' first|exact trivial|refine ⟨?_,?_⟩|exact Ed JA.h|exact Ea rfl|exact Gi rfl) (hr2:wS nx M1:=by repeat' first|exact trivial|refine ⟨?_,?_⟩|exact Ed JA.h|exact Ea rfl|exact Gi rfl) (hb:∀a,Bg nx (vb a++bl):=by intros;repeat' first|exact trivial|refine ⟨rfB rfl ?_,?_⟩|exact Sv NP.h|exact Vu rfl):mJ P (.loop cc) N M ah nx Q:=
 Bl ⟨rfl⟩ (round _ rfl fun _ _=>⟨⟩) h0 h1 hk hM hM2 ho ho2 hbl hvb hd hr hr2 hb
structure J5 {α β ρ:Type}(J:Nat->α->β->Prop)(F:Nat->α->β->ρ)(vars:α->β->MT)(ow:α->β->J4)(vb:α->β->Vr)(ts:List Nat)(n0:Nat):Type
theorem Di {cc:Code}{α β ρ:Type}{J:Nat->α->β->Prop}{F:Nat->α->β->ρ}{vars:α->β->MT}{ow:α->β->J4}{vb:α->β->Vr}{ts:List Nat}{n0:Nat}(kl:J5 J F vars ow vb ts n0){a0:α}{b0:β}{kk:Nat}{M1:MT}{bl:List (Nat×pI)}{ids:List Nat}
  (round:∀R,F n0 a0 b0=R->(∀(n:Nat) a b,KIf R (F n a b))->∀(n:Nat) a b,J (n+1) a b->R=F (n+1) a b->mJ P cc N (OU nx (ow a b)++(vars a b++M1)) (II (Vq nx (ow a b)++(vb a b++bl))) (nx+kk) (qp (fun M' eX _=>∃a' b',(J n a' b'/\R=F n a' b')/\Gu (vars a' b') (ow a' b') M1 (vb a' b'++bl) M' eX) Q)) (h0:J n0 a0 b0)
  (hM:ML M (vars a0 b0):=by repeat' first|exact trivial|refine ⟨rfl,?_⟩) (ho:owF M ah (ow a0 b0)=some ids:=by exact rfl) (ho2:ER M ah (ow a0 b0) ids:=by repeat' first|exact ER.nil|refine ER.cons rfl rfl (by first|exact rfl|simp) Bj.h rfl ?_) (hvb:C9 (vb a0 b0) ah:=by repeat' first|exact trivial|refine ⟨rfl,?_⟩)
  (h1:∀a b,J 0 a b->False:=by (intro _ _ h;(try dsimp only at h);first|omega|exact absurd h.1 Bool.false_ne_true|exact h)) (hk:∀a b,(ow a b).length=kk:=by intros;first|exact rfl|(simp only [dD,List.length_nil];exact rfl))
  (hM2:Zc ts M=some M1:=by exact rfl) (hbl:kbF ah (exN (O7 (vars a0 b0++M1)) (vb a0 b0))=some bl:=by exact rfl) (hd:nV (fun k _=>wU k ids=false) (vb a0 b0++bl):=by repeat' first|exact trivial|refine ⟨rfl,?_⟩)
  (hr:∀a b,wS nx (vars a b):=by intros;repeat' first|exact trivial|refine ⟨?_,?_⟩|exact Ed JA.h|exact Ea rfl|exact Gi rfl) (hr2:wS nx M1:=by repeat' first|exact trivial|refine ⟨?_,?_⟩|exact Ed JA.h|exact Ea rfl|exact Gi rfl) (hb:∀a b,Bg nx (vb a b++bl):=by intros;repeat' first|exact trivial|refine ⟨rfB rfl ?_,?_⟩|exact Sv NP.h|exact Vu rfl):mJ P (.loop cc) N M ah nx Q:=
 Bo ⟨rfl⟩ (round _ rfl fun _ _ _=>⟨⟩) h0 h1 hk hM hM2 ho ho2 hbl hvb hd hr hr2 hb
structure Sz {α β γ ρ:Type}(J:Nat->α->β->γ->Prop)(F:Nat->α->β->γ->ρ)(vars:α->β->γ->MT)(ow:α->β->γ->J4)(vb:α->β->γ->Vr)(ts:List Nat)(n0:Nat):Type
theorem Dj {cc:Code}{α β γ ρ:Type}{J:Nat->α->β->γ->Prop}{F:Nat->α->β->γ->ρ}{vars:α->β->γ->MT}{ow:α->β->γ->J4}{vb:α->β->γ->Vr}{ts:List Nat}{n0:Nat}(kl:Sz J F vars ow vb ts n0){a0:α}{b0:β}{c0:γ}{kk:Nat}{M1:MT}{bl:List (Nat×pI)}{ids:List Nat}
  (round:∀R,F n0 a0 b0 c0=R->(∀(n:Nat) a b c,KIf R (F n a b c))->∀(n:Nat) a b c,J (n+1) a b c->R=F (n+1) a b c->mJ P cc N (OU nx (ow a b c)++(vars a b c++M1)) (II (Vq nx (ow a b c)++(vb a b c++bl))) (nx+kk) (qp (fun M' eX _=>∃a' b' c',(J n a' b' c'/\R=F n a' b' c')/\Gu (vars a' b' c') (ow a' b' c') M1 (vb a' b' c'++bl) M' eX) Q)) (h0:J n0 a0 b0 c0)
  (hM:ML M (vars a0 b0 c0):=by repeat' first|exact trivial|refine ⟨rfl,?_⟩) (ho:owF M ah (ow a0 b0 c0)=some ids:=by exact rfl) (ho2:ER M ah (ow a0 b0 c0) ids:=by repeat' first|exact ER.nil|refine ER.cons rfl rfl (by first|exact rfl|simp) Bj.h rfl ?_) (hvb:C9 (vb a0 b0 c0) ah:=by repeat' first|exact trivial|refine ⟨rfl,?_⟩)
  (h1:∀a b c,J 0 a b c->False:=by (intro _ _ _ h;(try dsimp only at h);first|omega|exact absurd h.1 Bool.false_ne_true|exact h)) (hk:∀a b c,(ow a b c).length=kk:=by intros;first|exact rfl|(simp only [dD,List.length_nil];exact rfl))
  (hM2:Zc ts M=some M1:=by exact rfl) (hbl:kbF ah (exN (O7 (vars a0 b0 c0++M1)) (vb a0 b0 c0))=some bl:=by exact rfl) (hd:nV (fun k _=>wU k ids=false) (vb a0 b0 c0++bl):=by repeat' first|exact trivial|refine ⟨rfl,?_⟩)
  (hr:∀a b c,wS nx (vars a b c):=by intros;repeat' first|exact trivial|refine ⟨?_,?_⟩|exact Ed JA.h|exact Ea rfl|exact Gi rfl) (hr2:wS nx M1:=by repeat' first|exact trivial|refine ⟨?_,?_⟩|exact Ed JA.h|exact Ea rfl|exact Gi rfl) (hb:∀a b c,Bg nx (vb a b c++bl):=by intros;repeat' first|exact trivial|refine ⟨rfB rfl ?_,?_⟩|exact Sv NP.h|exact Vu rfl):mJ P (.loop cc) N M ah nx Q:=
 Bq ⟨rfl⟩ (round _ rfl fun _ _ _ _=>⟨⟩) h0 h1 hk hM hM2 ho ho2 hbl hvb hd hr hr2 hb
structure KI4 {α β γ δ ρ:Type}(J:Nat->α->β->γ->δ->Prop)(F:Nat->α->β->γ->δ->ρ)(vars:α->β->γ->δ->MT)(ow:α->β->γ->δ->J4)(vb:α->β->γ->δ->Vr)(ts:List Nat)(n0:Nat):Type
theorem Dk {cc:Code}{α β γ δ ρ:Type}{J:Nat->α->β->γ->δ->Prop}{F:Nat->α->β->γ->δ->ρ}{vars:α->β->γ->δ->MT}{ow:α->β->γ->δ->J4}{vb:α->β->γ->δ->Vr}{ts:List Nat}{n0:Nat}(kl:KI4 J F vars ow vb ts n0){a0:α}{b0:β}{c0:γ}{d0:δ}{kk:Nat}{M1:MT}{bl:List (Nat×pI)}{ids:List Nat}
  (round:∀R,F n0 a0 b0 c0 d0=R->(∀(n:Nat) a b c d,KIf R (F n a b c d))->∀(n:Nat) a b c d,J (n+1) a b c d->R=F (n+1) a b c d->mJ P cc N (OU nx (ow a b c d)++(vars a b c d++M1)) (II (Vq nx (ow a b c d)++(vb a b c d++bl))) (nx+kk) (qp (fun M' eX _=>∃a' b' c' d',(J n a' b' c' d'/\R=F n a' b' c' d')/\Gu (vars a' b' c' d') (ow a' b' c' d') M1 (vb a' b' c' d'++bl) M' eX) Q)) (h0:J n0 a0 b0 c0 d0)
  (hM:ML M (vars a0 b0 c0 d0):=by repeat' first|exact trivial|refine ⟨rfl,?_⟩) (ho:owF M ah (ow a0 b0 c0 d0)=some ids:=by exact rfl) (ho2:ER M ah (ow a0 b0 c0 d0) ids:=by repeat' first|exact ER.nil|refine ER.cons rfl rfl (by first|exact rfl|simp) Bj.h rfl ?_) (hvb:C9 (vb a0 b0 c0 d0) ah:=by repeat' first|exact trivial|refine ⟨rfl,?_⟩)
  (h1:∀a b c d,J 0 a b c d->False:=by (intro _ _ _ _ h;(try dsimp only at h);first|omega|exact absurd h.1 Bool.false_ne_true|exact h)) (hk:∀a b c d,(ow a b c d).length=kk:=by intros;first|exact rfl|(simp only [dD,List.length_nil];exact rfl))
  (hM2:Zc ts M=some M1:=by exact rfl) (hbl:kbF ah (exN (O7 (vars a0 b0 c0 d0++M1)) (vb a0 b0 c0 d0))=some bl:=by exact rfl) (hd:nV (fun k _=>wU k ids=false) (vb a0 b0 c0 d0++bl):=by repeat' first|exact trivial|refine ⟨rfl,?_⟩)
  (hr:∀a b c d,wS nx (vars a b c d):=by intros;repeat' first|exact trivial|refine ⟨?_,?_⟩|exact Ed JA.h|exact Ea rfl|exact Gi rfl) (hr2:wS nx M1:=by repeat' first|exact trivial|refine ⟨?_,?_⟩|exact Ed JA.h|exact Ea rfl|exact Gi rfl) (hb:∀a b c d,Bg nx (vb a b c d++bl):=by intros;repeat' first|exact trivial|refine ⟨rfB rfl ?_,?_⟩|exact Sv NP.h|exact Vu rfl):mJ P (.loop cc) N M ah nx Q:=
 Bv ⟨rfl⟩ (round _ rfl fun _ _ _ _ _=>⟨⟩) h0 h1 hk hM hM2 ho ho2 hbl hvb hd hr hr2 hb
structure KE (p:Prop):Type where
 h:p
def KT (p q:Prop):Prop:=p->q
theorem KT.use {p q:Prop}(h:KT p q)(k:p):q:=h k
theorem KT.Dl {p q r:Prop}(h:KT p q)(k:p)(l:r):q/\r:=⟨h k,l⟩
theorem oLo {cc:Code}(h:mJ P (.loop cc) N M ah nx Q):mJ P (.loop cc) N M ah nx Q:=h
structure KN (t n:Nat):Prop
theorem SA {t n:Nat}{cc:Code}(kn:KN t n)(h:mJ P (.loop cc) N ((t,.os nx n 0 0)::M) (upd ah nx (some (.rows n []))) (nx+1) Q)(ht:fD M t=some (.sl [] true):=by exact rfl)(hd:Nat.blt t N=true:=by exact rfl):mJ P (.loop cc) N M ah nx Q:=NI ht hd h
structure KNE {α:Type}(t n:Nat)(e:α->List AV):Prop
theorem SB {α:Type}{e:α->List AV}{t n:Nat}{cc:Code}(kn:KNE t n e)(h:mJ P (.loop cc) N ((t,.os nx n 0 (List.map e []).length)::M) (upd ah nx (some (.rows n (List.map e [])))) (nx+1) Q)(ht:fD M t=some (.sl [] true):=by exact rfl)(hd:Nat.blt t N=true:=by exact rfl):mJ P (.loop cc) N M ah nx Q:=NI ht hd h
def Unr (P:Program)(cc:Code)(N:Nat)(Q:MQ):Nat->MT->AH->Nat->Prop
 |0,_,_,_=>False
 |k+1,M,ah,nx=>mJ P cc N M ah nx (qp (fun M ah nx=>Unr P cc N Q k M ah nx) Q)
theorem unS {cc:Code}{k:Nat}(h:mJ P cc N M ah nx (qp (fun M ah nx=>Unr P cc N Q k M ah nx) Q)):Unr P cc N Q (k+1) M ah nx:=h
structure KU (k:Nat):Prop
theorem SE {cc:Code}{k:Nat}(ku:KU k)(h:Unr P cc N Q k M ah nx):mJ P (.loop cc) N M ah nx Q:=by
 intro fr hf
 refine YW (fun n fr ah nx=>∃M,FA N M fr/\Unr P cc N Q n M ah nx) k fr (Ai.refl fr) ⟨M,hf,h⟩ fun n fr ah nx hI K hK=>?_
 obtain ⟨M1,h1,h2⟩:=hI
 cases n with
 |zero=>exact h2.elim
 |succ n=>
  refine (h2 fr h1).mono fun e fr ah nx hq=>?_
  obtain ⟨M2,q1,q2⟩:=hq
  cases e with
  |normal=>exact hK _ _ _ ⟨n,Nat.lt_succ_self _,fr,Ai.refl fr,M2,q1,q2⟩
  |_=>exact ⟨M2,q1,q2⟩
structure KFL {α:Type}(t:Nat)(e:α->List AV)(l:List α):Prop
theorem SG {α:Type}{e:α->List AV}{l:List α}{t b sz len:Nat}{cc:Code}(kf:KFL t e l)(h:mJ P (.loop cc) N ((t,.sl (List.map e l) false)::M) (upd ah b none) nx Q)(hm:fD M t=some (.os b sz 0 len):=by exact rfl)(hb:ah b=some (.rows sz (List.map e l)):=by exact rfl)(hl:l.length=len:=by first|exact rfl|simp)(hc:∀x,jZ (e x)=true:=by exact KR.h)(hd:Nat.blt t N=true:=by exact rfl):mJ P (.loop cc) N M ah nx Q:=Zf hm hd hb (EP hc) (by simpa using hl) h
end
end Go.Fw
end
section
namespace Go.Fw
variable [iZ]
section
variable {P : Program} {T:Gt} {N id:Nat} {M:MT} {ah:AH}
def Vw (n:Int):List AV:=[.p (.int .i64 n)]
def Vx (b:Bool):List AV:=[.p (.bool b)]
instance : KR Vw:=⟨fun _=>rfl⟩
instance : KR Vx:=⟨fun _=>rfl⟩
theorem zo : dV (kP true) 0=true:=rfl
theorem zq : dV (kP false) 0=false:=rfl
structure KMS {α:Type}(e:α->List AV)(w:α):Prop
theorem SH [hT:zH P T]{α:Type}{e:α->List AV}{w:α}(ks:KMS e w){t el sz:Nat}{x y:Operand}{k1 k2:IntKind}{l c:Int}{z:List AV}(hx:lI M x=some (.p (.int k1 l)):=by exact rfl)(hy:lI M y=some (.p (.int k2 c)):=by exact rfl)(he:tN t T.se=some (el,sz):=by exact rfl)(hz:tN el T.ze=some z:=by exact rfl)(hzl:z.length=sz:=by exact rfl)(hw:z.map GR=e w:=by exact rfl)
  (h0:0<=l/\l<=c/\c<=4294967296:=by first|omega|(simp only [decide_eq_true_eq,decide_eq_false_iff_not,n_,og,oh,oq,yK,yL,kD,List.toList_toArray,pW,dB] at *;omega)):Dc P N M ah id (.makeSlice t x y) (.os id sz 0 l.toNat) [(id,some (.rows sz (List.map e (List.replicate l.toNat w))))] []:=fun fr hfr K hK=>by
 obtain ⟨hu,b,hs,hb⟩:=hT.se.get he
 obtain ⟨inf,hi,h1,h2⟩:=EN hu hs
 refine dI.2 ⟨_,eP hfr hx,dI.2 ⟨_,eP hfr hy,?_⟩⟩
 unfold rQ
 rw [hu]
 refine dI.2 ⟨inf,hi,dI.2 ⟨z,(hT.ze.get hz).1,by rw [h1];exact hzl,h0.1,h0.2.1,h0.2.2,by rw [h2];exact hb,?_⟩⟩
 rw [h1,hw,<- List.map_replicate]
 exact hK
theorem flo [hT:zH P T]{α:Type}[Inhabited α]{e:α->List AV}{l:List α}{b sz j off tt:Nat}{tv:Bool×Nat}{x:Operand}{v:AV}(hx:lI M x=some (.op b sz j off):=by exact rfl)(ht:tN tt T.ty=some tv:=by exact rfl)(hb:ah b=some (.rows sz (List.map e l)):=by exact rfl)(hv:apF tv (e (l.getD j default)) off=some v:=by exact rfl)
  (hj:j<l.length:=by first|omega|(simp only [decide_eq_true_eq,decide_eq_false_iff_not,n_,og,oh,oq,yK,yL,kD,List.toList_toArray,List.length_set,dB] at *;omega)):Dc P N M ah id (.load tt x) v [] [b]:=fun fr hfr K hK=>by
 have hrow:(List.map e l)[j]?=some (e (l.getD j default)):=by
  rw [bV,bf hj]
  simp [List.getD,bf hj]
 refine dI.2 ⟨_,eP hfr hx,dI.2 ⟨tv,hT.ty.get ht,?_⟩⟩
 dsimp only
 rw [hb]
 exact ⟨rfl,dI.2 ⟨_,hrow,J3 hv hK⟩⟩
theorem alq [hT:zH P T]{α:Type}[Inhabited α]{e:α->List AV}{l:List α}{b sz j tt:Nat}{x:Operand}(hx:lI M x=some (.op b sz j 0):=by exact rfl)(ht:tN tt T.ty=some (true,sz):=by exact rfl)(hb:ah b=some (.rows sz (List.map e l)):=by exact rfl)(hl:∀x,(e x).length=sz:=by intro;exact rfl)
  (hj:j<l.length:=by first|omega|(simp only [decide_eq_true_eq,decide_eq_false_iff_not,n_,og,oh,oq,yK,yL,kD,List.toList_toArray,List.length_set,dB] at *;omega)):Dc P N M ah id (.load tt x) (.agg (e (l.getD j default))) [] [b]:=
 flo hx ht hb (by
  unfold apF
  have h1:Nat.ble (0+sz) (e (l.getD j default)).length=true:=by rw [hl];simp
  dsimp only
  rw [h1]
  dsimp only
  rw [List.drop_zero,List.take_of_length_le (by rw [hl];exact dH _)]) hj
theorem ajh [hT:zH P T]{b sz len el sz':Nat}{tt:TypeId}{x y:Operand}{k:IntKind}{n:Int}(hh:0<=n/\n<len)(hx:lI M x=some (.os b sz 0 len):=by exact rfl)(hy:lI M y=some (.p (.int k n)):=by exact rfl)(he:tN tt T.se=some (el,sz'):=by exact rfl)(hs:sz=sz':=by exact rfl) :
 Dc P N M ah id (.indexAddr tt x y) (.op b sz n.toNat 0) [] []:=fio hx hy he hs hh.1 hh.2
theorem aji [hT:zH P T]{α:Type}{e:α->List AV}{l:List α}{b sz j off tt:Nat}{tv:Bool×Nat}{x:Operand}{v:AV}(hj:j<l.length)(hx:lI M x=some (.op b sz j off):=by exact rfl)(ht:tN tt T.ty=some tv:=by exact rfl)(hb:ah b=some (.rows sz (List.map e l)):=by exact rfl)(hi:Inhabited α:=by infer_instance)(hv:apF tv (e (l.getD j default)) off=some v:=by exact rfl):Dc P N M ah id (.load tt x) v [] [b]:=flo hx ht hb hv hj
theorem XL {u:Int}(h0:0<=u)(h1:u<=4294967296):jg .i64 u 1<=u-1/\u-1<=jg .i64 u 1:=by
 have e:jg .i64 u 1=u-1:=tH (by omega) (by omega)
 omega
theorem wu {a b:Int}(h : -4611686018427387904<=a+b/\a+b<=4611686018427387903):eG .i64 a b<=a+b/\a+b<=eG .i64 a b:=by
 have e:eG .i64 a b=a+b:=ng (by omega) (by omega)
 omega
theorem uN {a b:Int}(h : -4611686018427387904<=a-b/\a-b<=4611686018427387903):jg .i64 a b<=a-b/\a-b<=jg .i64 a b:=by
 have e:jg .i64 a b=a-b:=tH (by omega) (by omega)
 omega
theorem acK {u:Int}(h:0<=u/\u<=4611686018427387903):(D9 .i64 2 u<=2*u/\2*u<=D9 .i64 2 u)/\(D9 .i64 u 2<=2*u/\2*u<=D9 .i64 u 2):=by
 have e1:D9 .i64 2 u=2*u:=Qx (by omega) (by omega)
 have e2:D9 .i64 u 2=u*2:=Qx (by omega) (by omega)
 omega
theorem SI {a b:Int}(h:0<=a/\0<=b/\a+b<=4611686018427387903):2*IntKind.wrap .i64 (jA .u64 (IntKind.wrap .u64 (eG .i64 a b)) 1)<=a+b/\a+b<=2*IntKind.wrap .i64 (jA .u64 (IntKind.wrap .u64 (eG .i64 a b)) 1)+1:=by
 have e:eG .i64 a b=a+b:=ng (by omega) (by omega)
 rw [e,aiL (by omega) (by omega)]
 omega
theorem fsw [hT:zH P T]{α:Type}[Inhabited α]{w:α}{e:α->List AV}{l:List α}{b sz j tt:Nat}{tv:Bool×Nat}{x y:Operand}{v:AV}(hx:lI M x=some (.op b sz j 0):=by exact rfl)(hy:lI M y=some v:=by exact rfl)(ht:tN tt T.ty=some tv:=by exact rfl)(hb:ah b=some (.rows sz (List.map e l)):=by exact rfl)(hv:v.Eh=true:=by exact rfl)(hl:tv.2=sz:=by exact rfl)(hw:v.cells=e w:=by exact rfl)(hr:∀x,(e x).length=sz:=by intro;exact rfl)
  (hj:j<l.length:=by first|omega|(simp only [decide_eq_true_eq,decide_eq_false_iff_not,n_,og,oh,oq,yK,yL,kD,List.toList_toArray,List.length_set,dB] at *;omega)):Dc P N M ah id (.store tt x y) (.p undef) [(b,some (.rows sz (List.map e (l.set j w))))] [b]:=fun fr hfr K hK=>by
 have hrow:(List.map e l)[j]?=some (e (l.getD j default)):=by
  rw [bV,bf hj]
  simp [List.getD,bf hj]
 refine dI.2 ⟨_,eP hfr hx,dI.2 ⟨_,eP hfr hy,dI.2 ⟨tv,hT.ty.get ht,?_⟩⟩⟩
 dsimp only
 rw [hb]
 refine ⟨rfl,hv,by rw [hw,hr,hl],dI.2 ⟨_,hrow,by rw [hr,hl];omega,?_⟩⟩
 have e1:lay (e (l.getD j default)) 0 v.cells=e w:=by
  unfold lay
  rw [hw,List.take_zero,List.nil_append,Nat.zero_add,List.drop_eq_nil_of_le (by rw [hr,hr];exact dH _),dn]
 rw [e1,<- List.map_set]
 exact hK
structure KMM {α β:Type}(ek:α->AV)(ev:β->AV):Prop
theorem Dn {α β:Type}{ek:α->AV}{ev:β->AV}(km:KMM ek ev){t:TypeId}:Dc P N M ah id (.makeMap t none) (.mp id) [(id,some (.map (mE ek ev [])))] []:=fmk
theorem frg {α β:Type}{ek:α->AV}{ev:β->AV}{l:List (α×β)}{t kt et:TypeId}{x:Operand}{b:Nat}(hx:lI M x=some (.mp b):=by exact rfl)(hb:ah b=some (.map (mE ek ev l)):=by exact rfl)(hu:P.underlying t=some (.map kt et):=by exact rfl) :
  Dc P N M ah id (.range t x) (.op id 1 0 0) [(id,some (.it b (mE ek ev l).length 0))] [b]:=fun fr hf K hK=>dI.2 ⟨_,eP hf hx,by
 unfold GU
 rw [hu]
 dsimp only
 rw [hb]
 exact hK⟩
def acL (n:Nat)(l:List (Int×Bool)):Prop:=∀e∈l,0<=e.1/\e.1<(n:Int)
theorem NQ {n:Nat}:acL n []=True:=eq_true fun e he=>by cases he
theorem Vy {n:Nat}{k:Int}{v:Bool}:∀{l:List (Int×Bool)},acL n l->0<=k->k<n->acL n (qj k v l)
 |[],_,h0,h1=>fun e he=>by
  simp only [qj,bZ] at he;subst he;exact ⟨h0,h1⟩
 |x::r,h,h0,h1=>fun e he=>by
  simp only [qj] at he
  split at he
  .rcases bH.1 he with rfl|he
   .exact ⟨h0,h1⟩
   .exact h e (aQ _ he)
  .rcases bH.1 he with rfl|he
   .exact h _ bD
   .exact Vy (fun e he=>h e (aQ _ he)) h0 h1 e he
def mdN (ts:List Nat):MT->MT
 |[]=>[]
 |(t,v)::r=>match wU t ts with|true=>mdN ts r|false=>(t,v)::mdN ts r
theorem LU {t:Nat}:∀{ts:List Nat},wU t ts=true↔t∈ts
 |[]=>by simp [wU]
 |x::r=>by
  simp only [wU,bH]
  split
  .rename_i h
   simp [aA h]
  .rename_i h
   rw [LU (ts:=r)]
   have:t≠x:=fun e=>by subst e;simp at h
   simp [this]
theorem SK {ts:List Nat}:∀{M:MT} {t:Nat} {a:AV},fD (mdN ts M) t=some a->t∉ts/\fD M t=some a
 |[],t,a,h=>by cases h
 |(k,v)::r,t,a,h=>by
  simp only [mdN] at h
  split at h
  .rename_i hk
   obtain ⟨h1,h2⟩:=SK h
   refine ⟨h1,?_⟩
   simp only [fD]
   split
   .rename_i he
    obtain rfl:=aA he
    exact absurd (LU.1 hk) h1
   .exact h2
  .rename_i hk
   simp only [fD] at h ⊢
   split
   .rename_i he
    obtain rfl:=aA he
    rw [he] at h
    refine ⟨fun hm=>?_,h⟩
    rw [LU.2 hm] at hk;cases hk
   .rename_i he
    rw [he] at h
    exact SK h
structure KMk (m:vw)(n:Nat):Prop
theorem SL [hT:zH P T]{Q:MQ}{nx:Nat}{m:vw}{n:Nat}(km:KMk m n){o1 o2 p1 p2 p3 q1 q2 q3 q4:Oper}{r1 r2 r3 id id5 q sq mb bd len el:Nat}{l:List (Int×Bool)}{d:List Bool}
  (h:Q .normal (mdN m.ts M) (upd (upd ah q none) bd (some (.rows 1 (List.map Vx (EK l d))))) nx) (hk:n=d.length/\acL n l)
  (hN:m.ts.all (Nat.blt · N)=true:=by exact rfl) (hit:wU m.it m.ts=false:=by exact rfl) (htD:wU m.tD m.ts=false:=by exact rfl) (hd:(!(Nat.beq m.t8 m.d1)&&!(Nat.beq m.d1 m.d2))=true:=by exact rfl)
  (hq:fD M m.it=some (.op q sq 0 0):=by exact rfl) (hqa:ah q=some (.it mb (mE (fun n:Int=>AV.p (.int .i64 n)) (fun b:Bool=>AV.p (.bool b)) l).length 0):=by exact rfl) (hma:ah mb=some (.map (mE (fun n:Int=>AV.p (.int .i64 n)) (fun b:Bool=>AV.p (.bool b)) l)):=by exact rfl) (hD:fD M m.tD=some (.os bd 1 0 len):=by exact rfl) (hbd:ah bd=some (.rows 1 (List.map Vx d)):=by exact rfl) (hlen:(List.map Vx d).length=len:=by exact rfl)
  (hse:tN m.T T.se=some (el,1):=by exact rfl) (hty:tN m.TB T.ty=some (false,1):=by exact rfl) (hne:(!(Nat.beq q mb)&&(!(Nat.beq q bd)&&!(Nat.beq mb bd)))=true:=by exact rfl) (hm:af6 m o1 o2 p1 p2 p3 q1 q2 q3 q4:=by exact ⟨⟨rfl,rfl,rfl⟩,⟨rfl,rfl,rfl⟩,⟨rfl,rfl,rfl⟩,⟨rfl,rfl,rfl⟩,⟨rfl,rfl,rfl⟩,⟨rfl,rfl,rfl⟩,⟨rfl,rfl,rfl⟩,⟨rfl,rfl,rfl⟩,⟨rfl,rfl,rfl⟩⟩) :
  mJ P (.block id (.loop (.seq (.region r1 #[o1,o2] false) (.seq (.cond (.tmp m.tb) .skip (.exit id)) (.block id5 (.seq (.region r2 #[p1,p2,p3] false) (.region r3 #[q1,q2,q3,q4] false))))))) N M ah nx Q:=fun fr hf=>by
 simp only [ay,Bool.not_eq_true'] at hd hne
 obtain ⟨hu,b,hs,-⟩:=hT.se.get hse
 have ne:∀{a b:Nat},Nat.beq a b=false->a≠b:=fun h e=>by subst e;simp at h
 have hno:∀{t:Nat},wU t m.ts=false->t∉m.ts:=fun h hm=>by rw [LU.2 hm] at h;cases h
 have hl':len=d.length:=by rw [<- hlen];simp
 refine aex hm (fun t ht=>by rw [hf.len];simpa using aJ.1 hN t ht) (hno hit) (hno htD) (ne hd.1) (ne hd.2) (hf.get _ _ hq) hqa hma (hf.get _ _ hD) hbd (by rw [hlen];exact dH _) hs (hT.ty.get hty) (fun e he=>?_) (ne hne.1) (ne hne.2.1) (ne hne.2.2) fun fr' rs' h1 h2 h3 h4=>?_
 .simp only [mE,aX] at he
  obtain ⟨p,hp,rfl⟩:=he
  obtain ⟨k0,k1⟩:=hk.2 p hp
  exact ⟨.i64,p.1,rfl,k0,by omega⟩
 .have e:rs'=List.map Vx (EK l d):=by
   apply List.ext_getElem?
   intro i
   by_cases hi:i<d.length
   .rw [h4 i (by simpa using hi)]
    have ea:(mE (fun n:Int=>AV.p (.int .i64 n)) (fun b:Bool=>AV.p (.bool b)) l).any (fun e=>Nat.beq (kOf e.1) i)=l.any fun e=>Nat.beq e.1.toNat i:=by
     simp only [mE,List.any_map];rfl
    rw [ea]
    simp only [bV,EK,List.getElem?_mapIdx,bf hi,Option.map_some]
    cases l.any fun e=>Nat.beq e.1.toNat i with
    |true=>simp [Vx,TT]
    |false=>simp
   .rw [bT (by rw [h3];simpa using Nat.le_of_not_lt hi),bT (by simp [EK];omega)]
  rw [e]
  exact ⟨_,⟨by rw [h1];exact hf.len,fun t a ha=>by
   obtain ⟨g1,g2⟩:=SK ha
   rw [h2 t g1];exact hf.get t a g2⟩,h⟩
end
end Go.Fw
end
section
namespace Go.Fw
variable [iZ]
section
variable {P : Program} {fr:nP} {ah:AH} {nx:Nat} {Q:AQ}
theorem Hr {f:FuncId}{az as':List AV}{r y1:AV}{p:List Nat}{sz:Nat}{K:CK}(hfz:kN (vP ah aoK) az=some as')
  {rows:List (List AV)} (hrr:r=.kS [.sl rows false,y1]) (hpp:p=[0]) (hy1:y1.flat=true) (hfl:∀row∈rows,KA row=true) (hcell:aoN r p=.sl rows false) (hpc:Y0 P f as' r p sz) (hK:K (EG p r (.os nx sz 0 rows.length)) (upd ah nx (some (.rows sz rows))) (nx+1)):CW P f az ah nx K:=by
 intro base w E vs hh hG hrep o a he next Q hnext
 have hrows:Nj p r=rows:=by unfold Nj;rw [hcell];rfl
 have acd:iT w (iq fun c o=>c<w.heap.size) as' vs:=FI hh hh.jO (fun b c o h off=>(hh.lH b c o h).2) aoK hrep hfz
 have hq:=hpc w (fun c o=>c<w.heap.size) vs (fun _ _ h=>h) (hG.mono hh.jO (fun _ _ _=>rfl) fun c arr ty fz h=>⟨arr,fz,h,rfl⟩) acd
 split at hq
 .exact hq.elim
 rename_i fn hfn
 obtain ⟨hbody,hname,hq⟩:=hq
 have hcall:(callFunc f vs.toArray).run P w=.ok (.enter f vs.toArray) w:=by
  have:(fn.name == "runtime.NumGoroutine")=false:=by simpa using hname
  simp only [callFunc,Sem.run_bind,run_program,Result.andThen_ok,hfn,this,aV,if_false,hbody,Sem.run_pure]
 unfold Oper.wp
 rw [he w,hcall]
 refine hq.mono fun e w' hq=>?_
 obtain ⟨v,E1,rfl,hst,hh1,hv⟩:=hq
 rw [hrows] at hh1 hv
 let E2:Env:=⟨fun c o=>E.fix c o\/(w.heap.size<=c/\E1.fix c o),fun b=>if b=nx then E1.own 0 else E.own b⟩
 have Iy:E.own nx=.free:=hh.fresh nx (dH _)
 have su:E2.own nx=E1.own 0:=if_pos rfl
 have own_ne:∀b,b≠nx->E2.own b=E.own b:=fun b h=>if_neg h
 have hblk:∀c,c<w.heap.size->w'.heap[c]?=w.heap[c]?:=hst.below.block
 have hown1:∀c o,E1.own 0=.at c o->w.heap.size<=c/\c<w'.heap.size:=fun c o h=>hh1.lH 0 c o h
 have hx:Ext w E w' E2:=by
  refine ⟨fun c o h=>.inl h,fun c o h=>World.cell?_of_block (w:=w) (hblk c (hh.jO c o h)),fun b hb=>own_ne b fun e=>hb (by rw [e];exact Iy),fun c arr ty fz h=>⟨arr,fz,?_,rfl⟩⟩
  rw [hblk c (bI.1 h).1];exact h
 refine hnext v w' E2 _ _ (nx+1) hK ⟨hx,hst.below.mono hh.bs,fun c o hc h=>?_,fun c hc _=>hblk c hc,fun b c o h hc=>?_,fun c o h hc=>?_⟩ ?_ ?_
 .rcases h with h|⟨h,-⟩
  .exact h
  .have:=hh.bs;omega
 .by_cases hb:b=nx
  .subst hb;rw [su] at h;have:=(hown1 c o h).1;omega
  .rw [own_ne b hb] at h;exact ⟨b,o,h⟩
 .rcases h with h|⟨h,-⟩
  .exact .inl h
  .omega
 .have hb1:=hh1.blk 0 _ (by rfl:EH (.rows sz rows) 0=some _)
  refine ⟨fun b k hb=>?_,fun b b' k k' c o c' o' hne h1 h2 h3 h4=>?_,fun b hb=>?_,fun c o h=>?_,cO hh.bs hst.below.size,fun b c o h=>?_⟩
  .by_cases hbn:b=nx
   .subst hbn
    rw [eY rfl] at hb
    simp only [au] at hb;subst hb
    rcases hb1 with ⟨q1,q2⟩|⟨c,o,arr,ty,q1,q2,q3,q4,q5,q6,q7,q8⟩
    .exact .inl ⟨by rw [su];exact q1,q2⟩
    .refine .inr ⟨c,o,arr,ty,by rw [su];exact q1,cO hh.bs q2,fun off h=>?_,q4,q5,q6,q7,fun i row j x hi hj=>?_⟩
     .rcases h with h|⟨-,h⟩
      .have:=hh.jO c off h;omega
      .exact q3 off h
     .obtain ⟨u,hu,hxu⟩:=q8 i row j x hi hj
      refine ⟨u,hu,Ey hxu (FH (hfl row (aK hi)) j x hj)⟩
   .rw [aoE hbn] at hb
    have hb':=hh.blk b k hb
    have hk:=hb'.keep (w':=w') (E':=⟨E2.fix,E.own⟩) ⟨fun c o h=>.inl h,hx.cell,fun _ _=>rfl,hx.arr⟩ (fun c o ho=>hblk c (hb'.lt ho).1) (fun c o off ho h=>?_)
    .refine hk.env (fun _ _ h=>h) (fun _ _ _ _ h=>h) (own_ne b hbn) fun x hxr=>own_ne x ?_
     intro e
     rw [e] at hxr
     exact Qw hb' hxr Iy
    .rcases h with h|⟨h,-⟩
     .exact h
     .have:=(hb'.lt ho).1;omega
  .by_cases e1:b=nx
   .subst e1
    rw [su] at h3
    rw [own_ne b' (Ne.symm hne)] at h4
    have:=(hown1 c o h3).1
    have:=(hh.lH b' c' o' h4).2
    omega
   .rw [own_ne b e1] at h3
    by_cases e2:b'=nx
    .subst e2
     rw [su] at h4
     have:=(hown1 c' o' h4).1
     have:=(hh.lH b c o h3).2
     omega
    .rw [own_ne b' e2] at h4
     rw [aoE e1] at h1
     rw [aoE e2] at h2
     exact hh.sep b b' k k' c o c' o' hne h1 h2 h3 h4
  .rw [own_ne b (by omega)];exact hh.fresh b (by omega)
  .rcases h with h|⟨-,h⟩
   .exact cZ (hh.jO c o h) hst.below.size
   .exact hh1.jO c o h
  .by_cases hbn:b=nx
   .subst hbn;rw [su] at h
    have:=hown1 c o h
    exact ⟨cO hh.bs this.1,this.2⟩
   .rw [own_ne b hbn] at h
    exact ⟨(hh.lH b c o h).1,cZ (hh.lH b c o h).2 hst.below.size⟩
 .have hy:∀u,Rep w' E1 (.os 0 sz 0 rows.length) u->Rep w' E2 (.os nx sz 0 rows.length) u:=by
   intro u hu
   generalize rows.length=len at hu ⊢
   cases hu with
   |lg _ _ _ a1 hb1=>exact .lg nx sz 0 a1 (by rw [su];exact hb1)
   |os _ _ _ _ c o cap hb1 hcap hsize=>exact .os nx sz 0 len c o cap (by rw [su];exact hb1) hcap hsize
  subst hrr hpp
  have hv':Rep w' E1 (.kS [.os 0 sz 0 rows.length,y1]) v:=hv
  show Rep w' E2 (.kS [.os nx sz 0 rows.length,y1]) v
  cases hv' with
  |kS _ vs hl hc=>
   refine .kS _ vs hl fun i c u hi hu=>?_
   match i,hi with
   |0,hi=>
    obtain rfl:=Option.some.inj hi
    exact hy u (hc 0 _ u rfl hu)
   |1,hi=>
    obtain rfl:=Option.some.inj hi
    exact Ey (hc 1 _ u rfl hu) hy1
   |n+2,hi=>cases hi
end
end Go.Fw
end
section
namespace Go.Fw
variable [iZ]
section
variable {P : Program} {T:Gt} {N nx:Nat} {M:MT} {ah:AH} {Q:MQ}
inductive Shp
 |one
 |kS (y:AV)
 |agg
def uO : Shp->AV->AV
 | .one,a=>a
 | .kS y,a=>.kS [a,y]
 | .agg,a=>.agg [a]
def upO : Shp->List Nat
 | .one=>[]
 |_=>[0]
def ulO : Shp->AV->List AV
 | .one,a=>[a]
 | .kS y,a=>[a,y]
 | .agg,a=>[.agg [a]]
def ufO : Shp->Bool
 | .kS y=>y.flat
 |_=>true
def KRO (T:Gt)(res:List ResultVar)(rows:List (List AV))(y:Shp)(sz:Nat):MQ:=fun e M ah nx=>(e=.normal\/e=.ret)/\∃b,rsF T M ah res=some (ulO y (.os b sz 0 rows.length))/\ah b=some (.rows sz rows)/\jI rows=[]
theorem kpo [hT:zH P T]{f:FuncId}{fn:Func}{c:Code}{args:List AV}{rows:List (List AV)}{y:Shp}{sz:Nat}{M:MT}(hf:P.funcs[f]?=some fn)(h:mJ P c fn.ntmps M (fun _=>none) 0 (KRO T fn.results.toList rows y sz))(hM:AL args M)(hy:ufO y=true:=by exact rfl)(hb:fn.body=some c:=by exact rfl)(hname:fn.name≠ "runtime.NumGoroutine" :=by decide) (hn:Nat.ble args.length fn.ntmps=true:=by exact rfl):Y0 P f args (uO y (.sl rows false)) (upO y) sz:=by
 intro w fix vs hfix hG hargs
 rw [hf]
 refine ⟨by rw [hb];rfl,hname,(Va (K:=fun r ah nx=>∃b,r=uO y (.os b sz 0 rows.length)/\ah b=some (.rows sz rows)/\jI rows=[]) (ah:=fun _=>none) (nx:=0) hf hb (aI hn)
  ((h _ ⟨Iu (aI hn),fun t a ht=>NH hM ht⟩).mono fun e fr ah nx ⟨M',h1,h2,b,h3,h4,h5⟩=>⟨h2,RX h1 h3 (by
   refine ⟨b,?_,h4,h5⟩
   cases y<;>rfl)⟩) (base:=w.heap.size) (E:=iq fix) ⟨fun b k hb=>(by cases hb),fun b b' k k' c o c' o' _ hb=>(by cases hb),fun _ _=>rfl,hfix,dH _,fun b c o hb=>(by cases hb)⟩ hG hargs).mono fun e w' hq=>?_⟩
 obtain ⟨r,eX,nx',v,E',⟨b,rfl,hbk,hrf⟩,rfl,hst,hh,hv⟩:=hq
 let E1:Env:=⟨E'.fix,fun k=>if k=0 then E'.own b else .free⟩
 have h0:E1.own 0=E'.own b:=(if_pos rfl:(if (0:Nat)=0 then E'.own b else Own.free)=E'.own b)
 have hown:∀k c o,E1.own k=.at c o->E'.own b=.at c o:=fun k c o hk=>by
  have hk':(if k=0 then E'.own b else Own.free)=.at c o:=hk
  split at hk'
  .exact hk'
  .cases hk'
 have er:Nj (upO y) (uO y (.sl rows false))=rows:=by cases y<;>rfl
 have es:∀a,EG (upO y) (uO y (.sl rows false)) a=uO y a:=fun a=>by cases y<;>rfl
 rw [er,es]
 have hos:∀u,Rep w' E' (.os b sz 0 rows.length) u->Rep w' E1 (.os 0 sz 0 rows.length) u:=fun u hu=>by
  generalize rows.length=len at hu ⊢
  cases hu with
  |lg _ _ _ a1 hb1=>exact .lg 0 sz 0 a1 (by rw [h0];exact hb1)
  |os _ _ _ _ c o cap hb1 hcap hsize=>exact .os 0 sz 0 len c o cap (by rw [h0];exact hb1) hcap hsize
 refine ⟨v,E1,rfl,⟨⟨hst.ext.fix,hst.ext.cell,fun b hb=>absurd rfl hb,hst.ext.arr⟩,hst.below,hst.Ei,hst.keep,fun k c o hk hc=>hst.Ej b c o (hown k c o hk) hc,hst.GN⟩,⟨fun k x hk=>?_,fun k k' x x' c o c' o' hne h1 h2 _ _=>?_,fun k hk=>if_neg (by have:1<=k:=hk;omega),hh.jO,hh.bs,fun k c o hk=>hh.lH b c o (hown k c o hk)⟩,?_⟩
 .unfold EH at hk
  split at hk
  .rename_i hk0
   subst hk0
   simp only [au] at hk;subst hk
   exact (hh.blk b _ hbk).ren rfl h0 hrf
  .cases hk
 .unfold EH at h1 h2
  split at h1
  .split at h2
   .rename_i e1 e2;exact absurd (e1.trans e2.symm) hne
   .cases h2
  .cases h1
 .cases y with
  |one=>exact hos _ hv
  |agg=>
   cases hv with
   |agg cs vs hl hs h=>
    refine .agg _ _ hl (fun c hc=>?_) fun i a u hi hu=>?_
    .simp only [bZ] at hc;subst hc;rfl
    .match i,hi with
     |0,hi=>
      simp only [List.getElem?_cons_zero,au] at hi;subst hi
      exact hos _ (h 0 _ u rfl hu)
     |i+1,hi=>simp at hi
  |kS y=>
   cases hv with
   |kS cs vs hl h=>
    refine .kS _ _ hl fun i a u hi hu=>?_
    match i,hi with
    |0,hi=>
     simp only [List.getElem?_cons_zero,au] at hi;subst hi
     exact hos _ (h 0 _ u rfl hu)
    |1,hi=>
     simp only [List.getElem?_cons_succ,List.getElem?_cons_zero,au] at hi;subst hi
     exact Ey (h 1 _ u rfl hu) hy
    |i+2,hi=>simp at hi
theorem alv {res:List ResultVar}{rows rows':List (List AV)}{y v:AV}{sz b len:Nat}(h:rows'=rows/\v=y)(hx:rsF T M ah res=some [.os b sz 0 len,v]:=by exact rfl)(hb:ah b=some (.rows sz rows'):=by exact rfl)(hlen:rows'.length=len:=by first|exact rfl|(simp;done)|(simp only [dB];assumption))(hr:jI rows'=[]:=by exact Bj.h):KRO T res rows (.kS y) sz .ret M ah nx:=by
 obtain ⟨rfl,rfl⟩:=h
 exact ⟨.inr rfl,b,by rw [hx,hlen];rfl,hb,hr⟩
theorem alx {res:List ResultVar}{rows rows':List (List AV)}{sz b len:Nat}(h:rows'=rows)(hx:rsF T M ah res=some [.os b sz 0 len]:=by exact rfl)(hb:ah b=some (.rows sz rows'):=by exact rfl)(hlen:rows'.length=len:=by first|exact rfl|(simp;done)|(simp only [dB];assumption))(hr:jI rows'=[]:=by exact Bj.h):KRO T res rows .one sz .ret M ah nx:=by
 subst h
 exact ⟨.inr rfl,b,by rw [hx,hlen];rfl,hb,hr⟩
theorem aly {res:List ResultVar}{rows rows':List (List AV)}{sz b len:Nat}(h:rows'=rows)(hx:rsF T M ah res=some [.agg [.os b sz 0 len]]:=by exact rfl)(hb:ah b=some (.rows sz rows'):=by exact rfl)(hlen:rows'.length=len:=by first|exact rfl|(simp;done)|(simp only [dB];assumption))(hr:jI rows'=[]:=by exact Bj.h):KRO T res rows .agg sz .ret M ah nx:=by
 subst h
 exact ⟨.inr rfl,b,by rw [hx,hlen];rfl,hb,hr⟩
inductive KNR (t n:Nat):Prop
 |mk
inductive QC : Prop
 |mk
theorem SN {t n:Nat}(kn:KNR t n)(h:mJ P .ret N ((t,.os nx n 0 0)::M) (upd ah nx (some (.rows n []))) (nx+1) Q)(hm:fD M t=some (.sl [] true):=by exact rfl)(hd:Nat.blt t N=true:=by exact rfl):mJ P .ret N M ah nx Q:=NI hm hd h
end
end Go.Fw
end
section
namespace Go.Fw
variable [iZ]
section
variable {P : Program} {T:Gt} {N nx:Nat} {M:MT} {ah:AH} {Q:MQ}
theorem ahp {w:World}{E E':Env}{b k sz len:Nat}{v:Value}(h:E'.own k=E.own b)(hv:Rep w E (.os b sz 0 len) v):Rep w E' (.os k sz 0 len) v:=by
 cases hv with
 |lg _ _ _ a1 hb1=>exact .lg k sz 0 a1 (by rw [h];exact hb1)
 |os _ _ _ _ c o cap hb1 hcap hsize=>exact .os k sz 0 len c o cap (by rw [h];exact hb1) hcap hsize
theorem Lj.acM {base:Nat}{w:World}{E:Env}{fr:nP}{nx':Nat}{a:Act}{M':MT}{l:List (Nat×pI)}{B b sz0 sz len:Nat}{rows:List (List AV)}(hs:Lj base w E fr ah nx' a)(hf':FA N M' fr)(hl:C9 l ah)(hr:wS nx M')(hb:Bg nx l)
  (hB:ah B=some (.rows sz0 [[.os b sz 0 len]])) (hBn:B<nx) (hbb:ah b=some (.rows sz rows)) (hrr:jI rows=[]) (hne:B≠b) (hd:nV (fun k _=>k≠B/\k≠b) l) :
  ∃E',FA N M' (Gh N M')/\Lj base w E' (Gh N M') (II ((B,.rows sz0 [[.os nx sz 0 len]])::(nx,.rows sz rows)::l)) (nx+1) a/\E'.fix=E.fix/\(∀k,k<nx->E'.own k=E.own k)/\∀k c o,E'.own k=.at c o->∃k' o',E.own k'=.at c o':=by
 let E':Env:=⟨E.fix,fun k=>if k<nx then E.own k else if k=nx then E.own b else .free⟩
 have hlt:∀k,k<nx->E'.own k=E.own k:=fun k h=>if_pos h
 have hnx:E'.own nx=E.own b:=by
  show (if nx<nx then E.own nx else if nx=nx then E.own b else .free)=_
  rw [if_neg (dF _),if_pos rfl]
 have hat:∀k c o,E'.own k=.at c o->∃k' o',E.own k'=.at c o':=fun k c o h=>by
  have h':(if k<nx then E.own k else if k=nx then E.own b else .free)=.at c o:=h
  split at h'
  .exact ⟨k,o,h'⟩
  .split at h'
   .exact ⟨b,o,h'⟩
   .cases h'
 have blks:∀k x,II ((B,.rows sz0 [[.os nx sz 0 len]])::(nx,.rows sz rows)::l) k=some x->(k=B/\x=.rows sz0 [[.os nx sz 0 len]])\/(k=nx/\x=.rows sz rows)\/(k<nx/\k≠B/\k≠b/\ah k=some x/\∀y∈x.vW,y<nx):=fun k x hk=>by
  simp only [II,tN] at hk
  split at hk
  .rename_i he
   simp only [au] at hk
   exact .inl ⟨(aA he).symm,hk.symm⟩
  .split at hk
   .rename_i he
    simp only [au] at hk
    exact .inr (.inl ⟨(aA he).symm,hk.symm⟩)
   .obtain ⟨d1,d2⟩:=nV.get hd hk
    exact .inr (.inr ⟨(nV.get hb hk).1,d1,d2,nV.get hl hk,(nV.get hb hk).2⟩)
 have act:∀k x,II ((B,.rows sz0 [[.os nx sz 0 len]])::(nx,.rows sz rows)::l) k=some x->∃y z,ah y=some z/\E'.own k=E.own y/\((k=nx/\y=b)\/(k<nx/\y=k/\k≠b)):=fun k x hk=>by
  rcases blks k x hk with ⟨rfl,-⟩|⟨rfl,-⟩|⟨q1,q2,q3,q4,-⟩
  .exact ⟨k,_,hB,hlt _ hBn,.inr ⟨hBn,rfl,hne⟩⟩
  .exact ⟨b,_,hbb,hnx,.inl ⟨rfl,rfl⟩⟩
  .exact ⟨k,_,q4,hlt _ q1,.inr ⟨q1,rfl,q3⟩⟩
 refine ⟨E',hf'.of,⟨⟨fun k x hk=>?_,fun k k' x x' c o c' o' hne' h1 h2 h3 h4=>?_,fun k h=>?_,hs.heap.jO,hs.heap.bs,fun k c o h=>?_⟩,⟨?_,fun t x hx=>?_,hs.fr.GY⟩,hs.defers⟩,rfl,hlt,hat⟩
 .rcases blks k x hk with ⟨rfl,rfl⟩|⟨rfl,rfl⟩|⟨q1,q2,q3,q4,q5⟩
  .rcases hs.heap.blk _ _ hB with ⟨-,q⟩|⟨c,o,arr,ty,q1,q2,q3,q4,q5,q6,q7,q8⟩
   .cases q
   .refine .inr ⟨c,o,arr,ty,by rw [hlt _ hBn];exact q1,q2,q3,q4,by simpa using q5,fun i row hi=>?_,fun row hm x hx=>?_,fun i row j x hi hj=>?_⟩
    .cases i with
     |zero=>
      simp at hi;subst hi
      have:=q6 0 _ rfl
      simpa using this
     |succ i=>simp at hi
    .simp only [bZ] at hm;subst hm
     simp only [bZ] at hx;subst hx
     rfl
    .cases i with
     |succ i=>simp at hi
     |zero=>
      simp at hi;subst hi
      cases j with
      |succ j=>simp at hj
      |zero=>
       simp at hj;subst hj
       obtain ⟨v,hv,hrep⟩:=q8 0 _ 0 (.os b sz 0 len) rfl rfl
       exact ⟨v,hv,ahp hnx hrep⟩
  .exact (hs.heap.blk b _ hbb).ren rfl hnx hrr
  .exact (hs.heap.blk k x q4).env (fun _ _ h=>h) (fun _ _ _ _ h=>h) (hlt k q1) fun y hy=>hlt y (q5 y hy)
 .obtain ⟨y,z,a1,a2,a3⟩:=act k x h1
  obtain ⟨y',z',b1,b2,b3⟩:=act k' x' h2
  rw [a2] at h3
  rw [b2] at h4
  refine hs.heap.sep y y' z z' c o c' o' (fun e=>?_) a1 b1 h3 h4
  subst e
  rcases a3 with ⟨p1,p2⟩|⟨p1,p2,p3⟩
  .rcases b3 with ⟨r1,r2⟩|⟨r1,r2,r3⟩
   .exact hne' (by rw [p1,r1])
   .exact r3 (by rw [<- r2,p2])
  .rcases b3 with ⟨r1,r2⟩|⟨r1,r2,r3⟩
   .exact p3 (by rw [<- p2,r2])
   .exact hne' (by rw [<- p2,<- r2])
 .show (if k<nx then E.own k else if k=nx then E.own b else .free)=.free
  have hk:nx+1<=k:=h
  rw [if_neg (by omega),if_neg (by omega)]
 .obtain ⟨k',o',h'⟩:=hat k c o h
  exact hs.heap.lH k' c o' h'
 .have:=hs.fr.size;rw [hf'.len] at this;simpa [Gh] using this
 .rw [IG] at hx
  split at hx
  .obtain ⟨v,hv,hrep⟩:=hs.fr.get t x (hf'.get t x hx)
   exact ⟨v,hv,xg (E:=E) (E':=E') (fun _ _ h=>h) hrep fun y hy=>hlt y (NJ hr hx y hy)⟩
  .cases hx
def Vz (vs:MT)(B sz:Nat)(rows:List (List AV))(M1:MT)(bl:List (Nat×pI))(M':MT)(eX:AH):Prop:=ML M' vs/\Bh M' M1/\C9 bl eX/\∃b,eX B=some (.rows 1 [[.os b sz 0 rows.length]])/\eX b=some (.rows sz rows)/\jI rows=[]/\B≠b/\nV (fun k _=>k≠B/\k≠b) bl
theorem agm {vs M1 M':MT}{B b sz len:Nat}{rows:List (List AV)}{bl:List (Nat×pI)}{eX:AH}(h1:ML M' vs:=by repeat' first|exact trivial|refine ⟨rfl,?_⟩)(h2:Bh M' M1:=by repeat' first|exact aaD|refine acE ?_)(h3:C9 bl eX:=by repeat' first|exact trivial|refine ⟨rfl,?_⟩)(h4:eX B=some (.rows 1 [[.os b sz 0 len]]):=by exact rfl)(h5:eX b=some (.rows sz rows):=by first|exact rfl|(simp only [List.map_append];exact rfl))(h6:rows.length=len:=by first|exact rfl|(simp;done))(h7:jI rows=[]:=by exact Bj.h)(h8:Nat.beq B b=false:=by exact rfl)(h9:(bl.all fun x=>!(Nat.beq x.1 B)&&!(Nat.beq x.1 b))=true:=by exact rfl):Vz vs B sz rows M1 bl M' eX:=
 have ne:∀{a b:Nat},Nat.beq a b=false->a≠b:=fun h e=>by subst e;simp at h
 ⟨h1,h2,h3,b,by rw [h6];exact h4,h5,h7,ne h8,by
  clear h3
  induction bl with
  |nil=>trivial
  |cons x r ih=>
   simp only [List.all_cons,ay,Bool.not_eq_true'] at h9
   exact ⟨⟨ne h9.1.1,ne h9.1.2⟩,ih (by simpa using h9.2)⟩⟩
theorem klb {cc:Code}{β:Type}(I:Nat->β->Prop)(vars:β->MT)(B sz:Nat)(rows:β->List (List AV))(M1:MT)(bl:List (Nat×pI))(b0:β)(n0:Nat)(h0:I n0 b0)(hBn:B<nx)(he:Vz (vars b0) B sz (rows b0) M1 bl M ah)(hr:∀b,wS nx (vars b))(hr2:wS nx M1)(hb:Bg nx bl)
  (round:∀n b,I n b->mJ P cc N (vars b++M1) (II ((B,.rows 1 [[.os nx sz 0 (rows b).length]])::(nx,.rows sz (rows b))::bl)) (nx+1) (qp (fun M' eX _=>∃b' m,I m b'/\m<n/\Vz (vars b') B sz (rows b') M1 bl M' eX) Q)):mJ P (.loop cc) N M ah nx Q:=by
 intro fr hf base w E a Rz
 have hfree:∀b,E.own b≠.free->b<nx:=fun b h=>by
  rcases Nat.lt_or_ge b nx with hlt|hge
  .exact hlt
  .exact absurd (Rz.heap.fresh b hge) h
 refine wp_loop_ghost (fun n a' w'=>∃b E',I n b/\FA N (vars b++M1) (Gh N (vars b++M1))/\Lj base w' E' (Gh N (vars b++M1)) (II ((B,.rows 1 [[.os nx sz 0 (rows b).length]])::(nx,.rows sz (rows b))::bl)) (nx+1) a'/\Step base w E w' E') n0 ?_ ?_
 .obtain ⟨e1,e2,e3,b,e4,e5,e6,e7,e8⟩:=he
  obtain ⟨E',q1,q2,q3,q4,q5⟩:=Rz.acM (FA.app (hf.vs e1) (hf.sub e2)) e3 (EO (hr b0) hr2) hb e4 hBn e5 e6 e7 e8
  exact ⟨b0,E',h0,q1,q2,Ir (Step.refl _ _ _) q3 (fun b h=>q4 b (hfree b h)) q5⟩
 .intro n a' w' ⟨b,E',hI,hfa,hs',hst⟩
  refine wp_mono (round n b hI _ hfa base w' E' a' hs') fun e a2 w2 hp=>?_
  obtain ⟨E2,fr2,wL,rJ,⟨M2,Vt,hq⟩,hs2,hst2⟩:=hp
  cases e with
  |normal=>
   obtain ⟨b',m,hI',hm,e1,e2,e3,bb,e4,e5,e6,e7,e8⟩:=hq
   obtain ⟨E3,q1,q2,q3,q4,q5⟩:=hs2.acM (FA.app (Vt.vs e1) (Vt.sub e2)) e3 (EO (hr b') hr2) hb e4 hBn e5 e6 e7 e8
   have hall:=hst.trans hst2
   exact ⟨m,hm,b',E3,hI',q1,q2,Ir hall q3 (fun b h=>q4 b (hfree b h)) q5⟩
  |_=>exact ⟨E2,fr2,wL,rJ,⟨M2,Vt,hq⟩,hs2,hst.trans hst2⟩
structure KB2 {α β ρ:Type}(J:Nat->β->α->Prop)(F:Nat->β->α->ρ)(vars:β->MT)(B sz:Nat)(e:α->List (List AV))(ts:List Nat)(a0:α)(n0:Nat):Type
theorem Dp {cc:Code}{α β ρ:Type}{J:Nat->β->α->Prop}{F:Nat->β->α->ρ}{vars:β->MT}{B sz:Nat}{e:α->List (List AV)}{ts:List Nat}{a0:α}{n0:Nat}(kl:KB2 J F vars B sz e ts a0 n0){b0:β}{M1:MT}{bl:List (Nat×pI)}
  (round:∀R,F n0 b0 a0=R->(∀(n:Nat) b a,KIf R (F n b a))->∀(n:Nat) b a,J (n+1) b a->R=F (n+1) b a->mJ P cc N (vars b++M1) (II ((B,.rows 1 [[.os nx sz 0 (e a).length]])::(nx,.rows sz (e a))::bl)) (nx+1) (qp (fun M' eX _=>∃b' a',(J n b' a'/\R=F n b' a')/\Vz (vars b') B sz (e a') M1 bl M' eX) Q)) (h0:J n0 b0 a0)
  (h1:∀b a,J 0 b a->False:=by (intro _ _ h;(try dsimp only at h);first|omega|exact absurd h.1 Bool.false_ne_true|exact h)) (hM2:Zc ts M=some M1:=by exact rfl) (hbl:kbF ah (ae_ B (O7 M1))=some bl:=by exact rfl) (hBn:Nat.blt B nx=true:=by exact rfl) (he:Bh M M1->Vz (vars b0) B sz (e a0) M1 bl M ah:=by exact fun h=>agm (h2:=h))
  (hr:∀b,wS nx (vars b):=by intros;repeat' first|exact trivial|refine ⟨?_,?_⟩|exact Ed JA.h|exact Ea rfl) (hr2:wS nx M1:=by repeat' first|exact trivial|refine ⟨?_,?_⟩|exact Ed JA.h|exact Ea rfl) (hb:Bg nx bl:=by repeat' first|exact trivial|refine ⟨rfB rfl ?_,?_⟩|exact Sv NP.h):mJ P (.loop cc) N M ah nx Q:=
 klb (β:=α×β) (fun n x=>J n x.2 x.1/\F n0 b0 a0=F n x.2 x.1) (fun x=>vars x.2) B sz (fun x=>e x.1) M1 bl (a0,b0) n0 ⟨h0,rfl⟩ (by simpa using hBn) (he (IJ hM2)) (fun x=>hr x.2) hr2 hb fun n x hI=>by
  obtain ⟨a,b⟩:=x
  obtain ⟨i1,i3⟩:=hI
  dsimp only at i1 i3 ⊢
  cases n with
  |zero=>exact (h1 _ _ i1).elim
  |succ n=>
   refine (round _ rfl (fun _ _ _=>⟨⟩) n b a i1 i3).mono fun e M' eX nx' hq=>?_
   cases e with
   |normal=>
    obtain ⟨b',a',q1,q2⟩:=hq
    exact ⟨(a',b'),n,q1,Nat.lt_succ_self _,q2⟩
   |_=>exact hq
structure KNB {α:Type}(B n:Nat)(e:α->List AV):Prop
theorem Dq {α:Type}{e:α->List AV}{B n:Nat}{cc:Code}(kn:KNB B n e)(h:mJ P (.loop cc) N M (upd (upd ah nx (some (.rows n (List.map e [])))) B (some (.rows 1 [[.os nx n 0 (List.map e []).length]]))) (nx+1) Q)(hb:ah B=some (.rows 1 [[.sl [] true]]):=by exact rfl)(hB:Nat.blt B nx=true:=by exact rfl):mJ P (.loop cc) N M ah nx Q:=
 Y7 (l:=[]) (r:=[]) hb (by simpa using hB) h
theorem alz {res:List ResultVar}{r:AV}{α:Type}{e:α->List AV}{l:List α}{b sz len:Nat}(hr:AV.agg [.sl (List.map e l) false]=r)(hx:rsF T M ah res=some [.agg [.os b sz 0 len]]:=by exact rfl)(hb:ah b=some (.rows sz (List.map e l)):=by exact rfl)(hl:l.length=len:=by first|exact rfl|(simp;done))(hc:∀x,jZ (e x)=true:=by exact KR.h):KRQ T res r .ret M ah nx:=by
 refine ⟨.inr rfl,_,hx,?_⟩
 subst hr
 have hcl:iM (List.map e l)=true:=EP hc
 have h1:vP ah aoK b=some (.rows sz (List.map e l)):=by
  show vP ah (2+1) b=_
  unfold vP
  rw [hb];dsimp only;rw [hcl];rfl
 have h2:ny (vP ah aoK) (.os b sz 0 len)=some (.sl (List.map e l) false):=by
  simp only [ny,h1]
  rw [if_pos ⟨trivial,by simp [hl],hcl⟩,List.drop_zero,List.take_of_length_le (by simp [hl])]
 show (((ny (vP ah aoK) (.os b sz 0 len)).bind fun x=>(kN (vP ah aoK) []).map fun y=>x::y)).map AV.agg=_
 rw [h2];rfl
variable {ops : Array Oper} {rest:List Oper} {ty:TypeId} {pos:String} {lZ:Array Edge} {g:Option (Nat×Bool)}
theorem SQ {t sz:Nat}{f:FuncId}{args:Array Operand}{ts:Array TypeId}{az:List AV}{r:AV}{p:List Nat}{rows:List (List AV)}(hp:Y0 P f az r p sz)(h:WL P ops rest N ((t,EG p r (.os nx sz 0 rows.length))::M) (upd ah nx (some (.rows sz rows))) (nx+1) Q)(hx:qw M args.toList=some az:=by exact rfl)(hcell:aoN r p=.sl rows false:=by exact rfl)(hz:jZ az=true:=by exact BO.h)(hr:r.clean=true:=by exact oL BP.h)(hd:Nat.blt t N=true:=by exact rfl) :
  WL P ops (⟨some t,.call ⟨.value (.func f),args,ts⟩,ty,pos,lZ,none⟩::rest) N M ah nx Q:=fun i hi=>
 let ⟨h1,h2⟩:=aoG hi
 yh (d:=some t) h1 hd hx (aax (fun _ _ _ h=>h) (qY hz) hr hcell hp (h _ h2))
theorem xan {K:List Nat}{iG i tp:Nat}{V W:List Nat}{U:List qF}{op:Op}{v:AV}{wr:List (Nat×Option pI)}{rd:List Nat}(hA:Dc P N M ah (iG+i) op v wr rd)(h:WX P ops K iG (i+1) tp rest N (i::V) (i::W) (⟨i,rd,wr.map (·.1)⟩::U) M (lJ ah wr) Q)(hg:gK ops M g=some true:=by exact rfl)(hap:apB K i rd (wr.map (·.1)) U=true:=by kernel_rfl)(hb:(RV (iG+(i+1)) rd&&RV (iG+(i+1)) (wr.map (·.1)))=true:=by kernel_rfl):WX P ops K iG i tp (⟨none,op,ty,pos,lZ,g⟩::rest) N V W U M ah Q:=ahl (d:=none) hA hg rfl hap hb h
end
end Go.Fw
end
section
namespace Go.Fw
variable [iZ]
open Go.Lib
section
variable {P : Program}
theorem afc {f:FuncId}{az:List AV}{nX ah:AH}{n0 nx:Nat}{K0 K:CK}(h:CW P f az nX n0 K0)(hsub:∀b k,nX b=some k->ah b=some k)(hlt:∀b k,nX b=some k->b<n0)(hn:n0<=nx)(hrefs:∀b k,nX b=some k->∀x∈k.vW,(nX x).isSome=true)(hargs:∀a∈az,∀x∈a.refs,(nX x).isSome=true)
  (hK:∀r eX nx',K0 r eX nx'->r.refs=[]/\(∀b k,(nX b).isSome=true->eX b=some k->∀x∈k.vW,(nX x).isSome=true)/\K r (fun b=>if (nX b).isSome=true then eX b else ah b) nx):CW P f az ah nx K:=by
 intro base w E vs hh hG hrep o a he next Q hnext
 have Zg:∀b c o,(E.part nX).own b=.at c o->(nX b).isSome=true/\E.own b=.at c o:=fun b c o h=>by
  by_cases hb:(nX b).isSome=true
  .simp only [Env.part,hb,if_true] at h;exact ⟨hb,h⟩
  .simp [Env.part,hb] at h
 refine h base w (E.part nX) vs (aar hh hsub hlt hrefs) hG ⟨hrep.1,fun i a v h1 h2=>abP (hrep.2 i a v h1 h2) (hargs a (aK h1))⟩ o a he next Q fun v w' E1 r eX nx' hk hst hh1 hv=>?_
 obtain ⟨k1,k2,k3⟩:=hK r eX nx' hk
 let E2:Env:=⟨E1.fix,fun b=>if (nX b).isSome=true then E1.own b else E.own b⟩
 have in1:∀b,(nX b).isSome=true->E2.own b=E1.own b:=fun b hb=>if_pos hb
 have out1:∀b,¬(nX b).isSome=true->E2.own b=E.own b:=fun b hb=>if_neg hb
 have extra:∀b k c o,¬(nX b).isSome=true->ah b=some k->E.own b=.at c o->∀b' o',(E.part nX).own b'≠.at c o':=fun b k c o hb hk ho b' o' h=>by
  obtain ⟨h1,h2⟩:=Zg b' c o' h
  obtain ⟨k',hk'⟩:=Option.isSome_iff_exists.1 h1
  exact hh.sep b' b k' k c o' c o (fun e=>hb (e▸h1)) (hsub _ _ hk') hk h2 ho rfl
 have hx:Ext w E w' E2:=by
  refine ⟨hst.ext.fix,hst.ext.cell,fun b hb=>?_,hst.ext.arr⟩
  by_cases hin:(nX b).isSome=true
  .rw [in1 b hin]
   have e:(E.part nX).own b=E.own b:=by simp [Env.part,hin]
   rw [hst.ext.own b (by rw [e];exact hb),e]
  .exact out1 b hin
 refine hnext v w' E2 r (fun b=>if (nX b).isSome=true then eX b else ah b) nx k3 ⟨hx,hst.below,hst.Ei,fun c hc hno=>hst.keep c hc fun b o h=>hno b o (Zg b c o h).2,fun b c o h hc=>?_,fun c o h hc=>?_⟩ (eH.mk (fun b k hb=>?_) (fun b b' k1 k2 c o c' o' hne h1 h2 h3 h4=>?_) (fun b hb=>?_) hh1.jO hh1.bs (fun b c o h=>?_)) (xg (E:=E1) (E':=E2) (fun _ _ h=>h) hv fun b hb=>by rw [k1] at hb;cases hb)
 .by_cases hin:(nX b).isSome=true
  .rw [in1 b hin] at h
   obtain ⟨b',o',h'⟩:=hst.Ej b c o h hc
   exact ⟨b',o',(Zg b' c o' h').2⟩
  .rw [out1 b hin] at h;exact ⟨b,o,h⟩
 .exact (hst.GN c o h hc).imp id fun ⟨b',o',h'⟩=>⟨b',o',(Zg b' c o' h').2⟩
 .try dsimp only at hb
  by_cases hin:(nX b).isSome=true
  .rw [if_pos hin] at hb
   exact (hh1.blk b k hb).env (fun _ _ h=>h) (fun _ _ _ _ h=>h) (in1 b hin) fun x hx=>in1 x (k2 b k hin hb x hx)
  .rw [if_neg hin] at hb
   have hb0:=hh.blk b k hb
   refine hb0.keep hx (fun c o ho=>hst.keep c (hb0.lt ho).1 (extra b k c o hin hb ho)) (fun c o off ho h=>?_)
   rcases hst.GN c off h (hb0.lt ho).1 with h|⟨b',o',h⟩
   .exact h
   .exact absurd h (extra b k c o hin hb ho b' o')
 .try dsimp only at h1 h2
  have mix:∀b b' k c o c' o',¬(nX b).isSome=true->ah b=some k->E.own b=.at c o->E1.own b'=.at c' o'->c≠c':=by
   intro b b' k c o c' o' h1 h2 h3 h6 e
   subst e
   obtain ⟨x,y,hxy⟩:=hst.Ej b' c o' h6 ((hh.blk b k h2).lt h3).1
   exact extra b k c o h1 h2 h3 x y hxy
  by_cases i1:(nX b).isSome=true
  .rw [if_pos i1] at h1;rw [in1 b i1] at h3
   by_cases i2:(nX b').isSome=true
   .rw [if_pos i2] at h2;rw [in1 b' i2] at h4
    exact hh1.sep b b' k1 k2 c o c' o' hne h1 h2 h3 h4
   .rw [if_neg i2] at h2;rw [out1 b' i2] at h4
    exact Ne.symm (mix b' b k2 c' o' c o i2 h2 h4 h3)
  .rw [if_neg i1] at h1;rw [out1 b i1] at h3
   by_cases i2:(nX b').isSome=true
   .rw [if_pos i2] at h2;rw [in1 b' i2] at h4
    exact mix b b' k1 c o c' o' i1 h1 h3 h4
   .rw [if_neg i2] at h2;rw [out1 b' i2] at h4
    exact hh.sep b b' k1 k2 c o c' o' hne h1 h2 h3 h4
 .have hno:¬(nX b).isSome=true:=fun h=>by
   obtain ⟨k,hk⟩:=Option.isSome_iff_exists.1 h
   have:=hlt b k hk
   have:nx<=b:=hb
   omega
  rw [out1 b hno];exact hh.fresh b hb
 .by_cases hin:(nX b).isSome=true
  .rw [in1 b hin] at h;exact hh1.lH b c o h
  .rw [out1 b hin] at h
   exact ⟨(hh.lH b c o h).1,cZ (hh.lH b c o h).2 hst.below.size⟩
theorem ajn {c:JX}(hc:U6 P c){ah:AH}{nx:Nat}{K:CK}{t e b sz off n:Nat}(he:abZ P t=some e)(hK:K (.agg [.p (typeHandle P t),.op nx 1 0 0,.p (.int .u64 151)]) (upd ah nx (some (.rows 1 [[.os b sz off n]]))) (nx+1)):CW P c.vo [.wI t (.os b sz off n)] ah nx K:=by
 intro base w E vs hh hG hrep o a ho next Q hnext
 obtain ⟨i,hi,hd,-⟩:=RI he
 obtain ⟨v,rfl,hv⟩:=Nv hrep
 obtain ⟨u,rfl,hu⟩:=Y5 hv
 obtain ⟨p,cc,rfl⟩:=Nu hu
 obtain ⟨w',E',hw',q1,q2,q3⟩:=Ri hh (dH nx) t (cs:=[.os b sz off n]) (vs:=#[.slice p n cc]) ⟨rfl,fun i x y h1 h2=>by
  match i,h1,h2 with
  |0,h1,h2=>cases h1;cases h2;exact hu⟩ (by simp [AV.mP])
 refine vF hc.vo ho (run_valueOf_slice t e i hi hd p _ cc w) ?_
 rw [<- hw']
 refine hnext _ w' E' _ _ _ hK q1 (q2.weaken fun b hb=>⟨Nat.le_of_succ_le hb,Nat.ne_of_gt hb⟩) (.agg _ _ rfl (fun c hc=>by simp only [bH,List.not_mem_nil,or_false] at hc;rcases hc with rfl|rfl|rfl<;>rfl) fun i x y h1 h2=>?_)
 match i,h1,h2 with
 |0,h1,h2=>cases h1;cases h2;exact .p rfl
 |1,h1,h2=>cases h1;cases h2;exact q3
 |2,h1,h2=>cases h1;cases h2;exact .p rfl
theorem ajo {c:JX}(hc:U6 P c){ah:AH}{nx:Nat}{K:CK}{t e b1 b sz off n:Nat}(he:abZ P t=some e)(hb1:ah b1=some (.rows 1 [[.os b sz off n]]))(hK:K (.p (.int .i64 (n:Nat))) ah nx):CW P c.ln [.agg [.p (typeHandle P t),.op b1 1 0 0,.p (.int .u64 151)]] ah nx K:=by
 intro base w E vs hh hG hrep o a ho next Q hnext
 obtain ⟨i,hi,hd,hpk⟩:=RI he
 obtain ⟨v,rfl,hv⟩:=Nv hrep
 obtain ⟨vs,rfl,ha⟩:∃vs:Array Value,v=.agg vs/\iT w E [.p (typeHandle P t),.op b1 1 0 0,.p (.int .u64 151)] vs.toList:=by
  cases hv with|agg cs vs hl hs h=>exact ⟨vs,rfl,by simpa using hl,fun i x y h1 h2=>h i x y h1 (by simpa using h2)⟩
 obtain ⟨v0,v1,v2,hvs⟩:∃v0 v1 v2,vs.toList=[v0,v1,v2]:=by
  match hm:vs.toList,(show vs.toList.length=3 by rw [<- ha.1];rfl) with
  |[v0,v1,v2],_=>exact ⟨v0,v1,v2,rfl⟩
 obtain rfl:vs=#[v0,v1,v2]:=by apply Array.ext';simpa using hvs
 have r0:=(ha.2 0 _ v0 rfl rfl).gV
 have r2:=(ha.2 2 _ v2 rfl rfl).gV
 obtain ⟨cb,ob,r1,hown⟩:=(ha.2 1 _ v1 rfl rfl).MB
 subst r0;subst r1;subst r2
 rcases hh.blk b1 _ hb1 with ⟨_,h0⟩|⟨c',o',arr,tt,g1,g2,g3,g4,g5⟩
 .cases h0
 .rw [hown] at g1;cases g1
  obtain ⟨u,hu1,hu2⟩:=g5.2.2.2 0 _ 0 _ rfl rfl
  obtain ⟨p,cc,rfl⟩:=Nu hu2
  have hcell:w.cell? ⟨cb,ob+0*1+0,none⟩=some (.slice p n cc):=by
   simp only [World.cell?,g4]
   simp at hu1 ⊢
   exact hu1
  refine vF hc.ln ho (run_valueLen_slice t _ i hi hd hpk _ p _ cc w hcell) ?_
  exact hnext _ w E _ ah nx hK (Step.refl _ _ _) hh (.p rfl)
theorem ajp {c:JX}(hc:U6 P c){ah:AH}{nx:Nat}{K:CK}{t e b sz off n:Nat}(he:abZ P t=some e)(hb:ab2 P e=true)(hK:K (if n=0 then .fn (.func c.l1) [] [] else if n=1 then .fn (.func c.l2) [] [] else .fn (.func c.l9) [] [.os b sz off n,.p (typeHandle P e)]) ah nx):CW P c.sw [.wI t (.os b sz off n)] ah nx K:=by
 intro base w E vs hh hG hrep o a ho next Q hnext
 obtain ⟨i,hi,hd,-⟩:=RI he
 obtain ⟨ie,hie,hk,hsk⟩:=ab3 hb
 obtain ⟨v,rfl,hv⟩:=Nv hrep
 obtain ⟨u,rfl,hu⟩:=Y5 hv
 obtain ⟨p,cc,rfl⟩:=Nu hu
 by_cases e0:n=0
 .rw [if_pos e0] at hK
  refine vF hc.sw ho (run_swapper_slice t e i ie hi hd hie 25 hk p _ cc c.l1 (by rw [hsk,if_pos e0];exact hc.n1) w) ?_
  refine hnext _ w E _ ah nx hK (Step.refl _ _ _) hh ?_
  rw [hsk,if_pos e0,if_pos (by omega)]
  exact .fn _ _ _ _ _ rfl rfl (fun i c v h=>by simp at h) (fun i c v h=>by simp at h)
 .rw [if_neg e0] at hK
  by_cases e1:n=1
  .rw [if_pos e1] at hK
   refine vF hc.sw ho (run_swapper_slice t e i ie hi hd hie 25 hk p _ cc c.l2 (by rw [hsk,if_neg e0,if_pos e1];exact hc.n2) w) ?_
   refine hnext _ w E _ ah nx hK (Step.refl _ _ _) hh ?_
   rw [hsk,if_neg e0,if_pos e1]
   exact .fn _ _ _ _ _ rfl rfl (fun i c v h=>by simp at h) (fun i c v h=>by simp at h)
  .rw [if_neg e1] at hK
   refine vF hc.sw ho (run_swapper_slice t e i ie hi hd hie 25 hk p _ cc c.l9 (by rw [hsk,if_neg e0,if_neg e1];exact hc.n9) w) ?_
   refine hnext _ w E _ ah nx hK (Step.refl _ _ _) hh ?_
   rw [hsk,if_neg e0,if_neg e1,if_neg (by omega)]
   refine .fn _ _ _ _ _ rfl rfl (fun i c v h=>by simp at h) (fun i x y h1 h2=>?_)
   match i,h1,h2 with
   |0,h1,h2=>cases h1;cases h2;exact hu
   |1,h1,h2=>cases h1;cases h2;exact .p rfl
theorem ajq {c:JX}(hc:U6 P c){α:Type}[Inhabited α]{ev:α->List AV}{l:List α}{ah:AH}{nx:Nat}{K:CK}{e b sz n:Nat}{i j:Int}(hb:ah b=some (.rows sz (List.map ev l)))(hbn:b<nx)(hn:l.length=n)(hr:∀x,(ev x).length=sz)(ht:qI P e=some (true,sz))(hi:0<=i/\i<n)(hj:0<=j/\j<n)
  (hK:K (.p undef) (upd ah b (some (.rows sz (List.map ev ((l.set i.toNat (l.getD j.toNat default)).set j.toNat (l.getD i.toNat default)))))) nx):CW P c.l9 [.p (.int .i64 i),.p (.int .i64 j),.os b sz 0 n,.p (typeHandle P e)] ah nx K:=by
 intro base w E vs hh hG hrep o a ho next Q hnext
 obtain ⟨I,rfl⟩:∃I:Nat,i=I:=⟨i.toNat,by omega⟩
 obtain ⟨J,rfl⟩:∃J:Nat,j=J:=⟨j.toNat,by omega⟩
 simp only [aY] at hK
 have hI:I<l.length:=by omega
 have hJ:J<l.length:=by omega
 have gI:l.getD I default=l[I]:=by simp [aH,hI]
 have gJ:l.getD J default=l[J]:=by simp [aH,hJ]
 rw [gI,gJ] at hK
 have rx:(List.map ev l)[I]?=some (ev l[I]):=by simp [hI]
 have ry:(List.map ev l)[J]?=some (ev l[J]):=by simp [hJ]
 obtain ⟨v0,v1,v2,v3,rfl⟩:∃v0 v1 v2 v3,vs=[v0,v1,v2,v3]:=by
  match vs,hrep.1 with
  |[v0,v1,v2,v3],_=>exact ⟨v0,v1,v2,v3,rfl⟩
 have r0:=(hrep.2 0 _ v0 rfl rfl).gV
 have r1:=(hrep.2 1 _ v1 rfl rfl).gV
 have r3:=(hrep.2 3 _ v3 rfl rfl).gV
 have r2:=hrep.2 2 _ v2 rfl rfl
 subst r0;subst r1;subst r3
 obtain ⟨c0,o0,cap,hown,rfl⟩:∃c0 o0 cap,E.own b=.at c0 o0/\v2=.slice (some ⟨c0,o0+0*sz,none⟩) n cap:=by
  cases r2 with
  |lg=>omega
  |os _ _ _ _ c0 o0 cap hb=>exact ⟨c0,o0,cap,hb,rfl⟩
 have px:Rep w E (.op b sz I 0) (.pointer (some ⟨c0,o0+I*sz+0,none⟩)):=.op _ _ _ _ _ _ hown
 have py:Rep w E (.op b sz J 0) (.pointer (some ⟨c0,o0+J*sz+0,none⟩)):=.op _ _ _ _ _ _ hown
 obtain ⟨q1,vx,rfl,-,ex,hvx⟩:=En (K:=fun r=>r=⟨.agg (ev l[I]),[],[b]⟩) hh (t:=e) (a:=.op b sz I 0) (by
  unfold Ia
  rw [ht]
  dsimp only [gG]
  rw [hb]
  refine ⟨rfl,?_⟩
  rw [rx]
  refine ⟨by simp [hr],?_⟩
  simp [<- hr l[I]]) px
 obtain ⟨q2,vy,rfl,-,ey,hvy⟩:=En (K:=fun r=>r=⟨.agg (ev l[J]),[],[b]⟩) hh (t:=e) (a:=.op b sz J 0) (by
  unfold Ia
  rw [ht]
  dsimp only [gG]
  rw [hb]
  refine ⟨rfl,?_⟩
  rw [ry]
  refine ⟨by simp [hr],?_⟩
  simp [<- hr l[J]]) py
 obtain ⟨q3,w1,E1,rfl,s1,st1,hh1,-⟩:=JL (K:=fun r=>r=⟨.p undef,[(b,some (.rows sz (List.map ev (l.set I l[J]))))],[b]⟩) (id:=b) hh (t:=e) (a:=.op b sz I 0) (v:=.agg (ev l[J])) (by
  unfold Ad
  rw [ht]
  dsimp only [gG]
  rw [hb]
  refine ⟨rfl,rfl,hr _,?_⟩
  rw [rx]
  refine ⟨by simp [hr],?_⟩
  show _=_
  rw [show AV.cells (.agg (ev l[J]))=ev l[J] from rfl,apd (by rw [hr,hr]),<- List.map_set]) px hvy
 obtain ⟨z,rz⟩:∃z,(List.map ev (l.set I l[J]))[J]?=some (ev z):=⟨_,by rw [bV,bf (by simpa using hJ)];rfl⟩
 obtain ⟨q4,w2,E2,rfl,s2,st2,hh2,-⟩:=JL (K:=fun r=>r=⟨.p undef,[(b,some (.rows sz (List.map ev ((l.set I l[J]).set J l[I]))))],[b]⟩) (id:=b) hh1 (t:=e) (a:=.op b sz J 0) (v:=.agg (ev l[I])) (by
  unfold Ad
  rw [ht]
  dsimp only [gG]
  rw [show lJ ah [(b,some (.rows sz (List.map ev (l.set I l[J]))))] b=some (.rows sz (List.map ev (l.set I l[J]))) by simp [lJ,upd]]
  refine ⟨rfl,rfl,hr _,?_⟩
  rw [rz]
  refine ⟨by simp [hr],?_⟩
  show _=_
  rw [show AV.cells (.agg (ev l[I]))=ev l[I] from rfl,apd (by rw [hr,hr]),<- List.map_set]) (py.mono st1.ext) (hvx.mono st1.ext)
 have hrun:(Extern.ReflectliteSwapper.swap false #[.int .i64 (I:Nat),.int .i64 (J:Nat),.slice (some ⟨c0,o0+0*sz,none⟩) n cap,typeHandle P e]).run P w=.ok (.tuple #[]) w2:=by
  rw [ab4 I J _ _ _ _ (by omega) (by omega)]
  rw [Xr] at ex ey
  rw [U7] at s1 s2
  have ai:(⟨c0,o0,none⟩:Addr).add (I*sz)=⟨c0,o0+I*sz+0,none⟩:=by
   simp [Addr.add]
  have aj:(⟨c0,o0,none⟩:Addr).add (J*sz)=⟨c0,o0+J*sz+0,none⟩:=by
   simp [Addr.add]
  simp only [Nat.add_zero] at ai aj ex ey s1 s2
  simp [Extern.ReflectliteSwapper.exchange,Extern.Rtype.ofHandle,handleType,typeHandle,Result.andThen,Xt ht,ai,aj,ex,ey,s1,s2]
 refine vF hc.l9 ho hrun ?_
 have e2:lJ (lJ ah [(b,some (.rows sz (List.map ev (l.set I l[J]))))]) [(b,some (.rows sz (List.map ev ((l.set I l[J]).set J l[I]))))]=upd ah b (some (.rows sz (List.map ev ((l.set I l[J]).set J l[I])))):=by
  simp only [lJ]
  exact zK _ _ _ _
 rw [e2] at hh2
 exact hnext _ w2 E2 _ _ nx hK (st1.trans st2) (hh2.weaken fun b' hb'=>by
  have h1:nx<=b':=hb'
  exact ⟨⟨hb',by omega⟩,by omega⟩) (.p rfl)
end
end Go.Fw
end
section
namespace Go.Fw
variable [iZ]
section
variable {P : Program} {T:Gt} {ops:Array Oper} {rest:List Oper} {N nx:Nat} {M:MT} {G:GT} {ah:AH} {Q:MQ} {op:Op} {ty:TypeId} {pos:String} {lZ:Array Edge} {g:Option (Nat×Bool)}
theorem aaF {f:FuncId}{az as0:List AV}{r:AV}{K:CK}(hpc:PC P f az r)(hf:kN (vP ah aoK) as0=some az)(hr:r.flat=true)(hK:K r ah (nx+1)):CW P f as0 ah nx K:=fun base w E vs hh hG hrep o a he next Q hnext=>
 CJ (id:=nx) hh hG (fix:=fun c o=>c<w.heap.size) hh.jO (fun c o h=>h) (FI hh hh.jO (fun b c o h off=>(hh.lH b c o h).2) aoK hrep hf) hpc (.inl (.inl hr)) (he w) fun v w' E' hst hh' hv=>
  hnext v w' E' r ah (nx+1) hK hst (hh'.weaken fun b hb=>⟨by show nx<=b;have:nx+1<=b:=hb;omega,by have:nx+1<=b:=hb;omega⟩) hv
theorem VA {i:Nat}{d:Option Tmp}{f:FuncId}{x:Operand}{args:Array Operand}{ts:Array TypeId}{first captured az:List AV}(ho:ops[i]?=some ⟨d,.call ⟨.value x,args,ts⟩,ty,pos,lZ,g⟩)(hg:gB ops M g=true)(hd:mX N d=true)
  (hx:lI M x=some (.fn (.func f) first captured)) (hev:qw M args.toList=some az) (h:CW P f (first++az++captured) ah nx fun r eX nx'=>tJ P ops (i+1) N (iW M d r) eX nx' Q):tJ P ops i N M ah nx Q:=fun fr hf=>by
 intro base w E a hs QQ hQ
 have hlt:=(bI.1 ho).1
 rw [show ops.size-i=(ops.size-(i+1))+1 by omega,List.range'_succ,wpOps_cons]
 unfold wpOp
 rw [ho]
 dsimp only
 obtain ⟨wt,hk,hw⟩:=zQ hs.fr (acf (o:=⟨d,.call ⟨.value x,args,ts⟩,ty,pos,lZ,g⟩) hf hg (k:=fun wt=>wt=true) rfl)
 subst hk
 rw [if_pos hw]
 obtain ⟨vs,rl,hrun⟩:=Nq (P:=P) (o:=⟨d,.call ⟨.value x,args,ts⟩,ty,pos,lZ,g⟩) hs.fr rfl (eP hf hx) (mG hf hev)
 refine .inl (h base w E _ hs.heap hs.fr.GY rl _ a hrun _ _ fun v w' E' r eX nx' hK hst hh' hv=>?_)
 exact hK _ (hf.put hd) base w' E' (a.put d v) ⟨hh',(hs.fr.mono hst.ext).put d hv,by rw [aoF];exact hs.defers⟩ QQ fun a' w'' hp=>hQ a' w'' (hp.mono hst fun _ _ _ h=>h)
theorem kgz {t:Nat}{w b:Bool}{d:Option Tmp}{x:Tmp}{args:Array Operand}{ts:Array TypeId}(h1:b=true->WL P ops (⟨d,.call ⟨.value (.tmp x),args,ts⟩,ty,pos,lZ,g⟩::rest) N ((t,.p (.bool true))::yu M G [(t,true)]) ah nx Q)(h2:b=false->WL P ops (⟨d,.call ⟨.value (.tmp x),args,ts⟩,ty,pos,lZ,g⟩::rest) N ((t,.p (.bool false))::yu M G [(t,false)]) ah nx Q)
  (hs:gsl ops g=some (t,w):=by exact rfl) (hb:fD M t=some (.p (.bool b)):=by exact rfl):WG P ops (⟨d,.call ⟨.value (.tmp x),args,ts⟩,ty,pos,lZ,g⟩::rest) N M G ah nx Q:=fun i hi fr hf hg=>by
 have hv:=hf.get _ _ hb
 cases b with
 |true=>
  have hL:LOn fr [(t,true)]:=fun e he=>by simp only [bZ] at he;subst he;exact hv
  exact h1 rfl i hi fr ((uM hf hL hg).cons hv)
 |false=>
  have hL:LOn fr [(t,false)]:=fun e he=>by simp only [bZ] at he;subst he;exact hv
  exact h2 rfl i hi fr ((uM hf hL hg).cons hv)
theorem frB {α:Type}{e:α->List AV}{l:List α}{B b sz len:Nat}(hB:ah B=some (.rows 1 [[.os b sz 0 len]]))(hb:ah b=some (.rows sz (List.map e l)))(hl:l.length=len)(hc:∀x,jZ (e x)=true):ny (vP ah aoK) (.op B 1 0 0)=some (.vp [.sl (List.map e l) false] 0):=by
 have hcl:iM (List.map e l)=true:=EP hc
 have h1:∀n,vP ah (n+1) b=some (.rows sz (List.map e l)):=fun n=>by
  unfold vP
  rw [hb];dsimp only;rw [hcl];rfl
 have h2:∀n,ny (vP ah (n+1)) (.os b sz 0 len)=some (.sl (List.map e l) false):=fun n=>by
  simp only [ny,h1]
  rw [if_pos ⟨trivial,by simp [hl],hcl⟩,List.drop_zero,List.take_of_length_le (by simp [hl])]
 have h3:vP ah aoK B=some (.rows 1 [[.sl (List.map e l) false]]):=by
  show vP ah (2+1) B=_
  unfold vP
  rw [hB];dsimp only
  rw [show iM [[AV.os b sz 0 len]]=false from rfl]
  dsimp only [cond_false]
  show ((((ny (vP ah (1+1)) (.os b sz 0 len)).bind fun x=>(kN (vP ah 2) []).map fun y=>x::y).bind fun x=>(uX (vP ah 2) []).map fun y=>x::y)).map (pI.rows 1)=_
  rw [h2];rfl
 have hcc:iM [[AV.sl (List.map e l) false]]=true:=by simp [iM,jY,AV.clean,hcl]
 simp only [ny,h3]
 rw [if_pos ⟨trivial,hcc⟩];rfl
end
end Go.Fw
end
section
namespace Go.Fw
variable [iZ]
open Go.Lib
end Go.Fw
end
section
namespace Go.Fw
open Go.Proofs
set_option maxRecDepth 100000
theorem NR : Tryz.prog.follows .mixedOrders=true:=by kernel_rfl
theorem yG (x0:Nat):PC Tryz.prog 140 [.p (.float .f64 x0)] (.p (.int .u64 (sW x0))):=
 RH (fn:=Tryz.f140) (e:=Extern.MathFloatBits.float64bits) (by kernel_rfl) (by kernel_rfl) (by kernel_rfl) (by kernel_rfl) (by kernel_rfl) rfl rfl rfl rfl
theorem Bz (x0:Int):PC Tryz.prog 139 [.p (.int .u64 x0)] (.p (.float .f64 (xK x0))):=
 RH (fn:=Tryz.f139) (e:=Extern.MathFloatBits.float64frombits) (by kernel_rfl) (by kernel_rfl) (by kernel_rfl) (by kernel_rfl) (by kernel_rfl) rfl rfl rfl rfl
theorem IL (x0:Nat)(h:CQ x0):PC Tryz.prog 137 [.p (.float .f64 x0)] (.p (.float .f64 (kV x0))):=
 RH (fn:=Tryz.f137) (e:=Extern.MathFloor.toIntegral "math.archTrunc" .zero) (by kernel_rfl) (by kernel_rfl) (by kernel_rfl) (by kernel_rfl) (by kernel_rfl) rfl (aau h) rfl rfl
def NS : JX:=⟨130,133,131,141,142,149⟩
theorem Zh : U6 Tryz.prog NS where
 vo:=fun args w=>run_callFunc_extern Tryz.func130 (by kernel_rfl) (by kernel_rfl) (by kernel_rfl) (e:=fun args=>Extern.ReflectliteValue.unpack (args.getD 0 (.tuple #[]))) (by kernel_rfl) args w
 ln:=fun args w=>run_callFunc_extern Tryz.func133 (by kernel_rfl) (by kernel_rfl) (by kernel_rfl) (e:=Extern.ReflectliteValue.method (Extern.ReflectliteValue.valueError "reflectlite.Value.Len" 0) Extern.ReflectliteValue.len) (by kernel_rfl) args w
 sw:=fun args w=>run_callFunc_extern Tryz.func131 (by kernel_rfl) (by kernel_rfl) (by kernel_rfl) (e:=Extern.ReflectliteSwapper.swapper "internal/reflectlite" (Extern.ReflectliteValue.valueError "Swapper")) (by kernel_rfl) args w
 l9:=fun args w=>run_callFunc_extern Tryz.func149 (by kernel_rfl) (by kernel_rfl) (by kernel_rfl) (e:=Extern.ReflectliteSwapper.swap false) (by kernel_rfl) args w
 n1:=by kernel_rfl
 n2:=by kernel_rfl
 n9:=by kernel_rfl
end Go.Fw
end
section
namespace Go.Fw
def Dt (r:Bool×Int):AV:=.kS [(.p (.bool r.1)),(.p (.int .i64 r.2))]
def yM (r:Int×Bool):AV:=.kS [(.p (.int .i64 r.1)),(.p (.bool r.2))]
def lT (r:dM×Bool×Int):AV:=.kS [(dM.av r.1),(.p (.bool r.2.1)),(.p (.int .i64 r.2.2))]
def IQ (r:dM×Int):AV:=.kS [(dM.av r.1),(.p (.int .i64 r.2))]
def ET (x0:dP):Bool:=
 ((dV x0.Kind 7)||(dV x0.Kind 8))
def yN (x0:Nat):Bool:=
 let v1:Int:=sW x0
 (decide (((IntKind.wrap .i64 v1):Int)<0))
def IU (x0:Nat):Nat:=
 let v1:Int:=sW x0
 let v2:Nat:=xK (o_ .u64 v1 9223372036854775808)
 v2
def Du (x0:Nat):Nat:=
 let v1:Nat:=kV x0
 v1
def xu (x0:Nat):Bool:=
 let v1:Nat:=Du x0
 let v2:Nat:=IU x0
 let v3:Bool:=yN x0
 ((Ll x0 x0)||(((fEq v1 x0)&&(OT v2 4845873199050653695))&&((Ll x0 0)||(!v3))))
def jH (x0:dP):Bool:=
 let v1:Bool:=xu x0.Num
 let v2:Bool:=xu x0.Num
 let v3:Bool:=xu (bif (dV x0.Kind 2) then 0 else (bif (dV x0.Kind 3) then 0 else x0.Num))
 bif (((decide ((x0.Kind:Int) > 8))||(decide ((x0.Ref:Int)<0)))||(decide (((sLen x0.Str):Int) > 4096))) then false
 else bif ((dV x0.Kind 2)&&((Ll x0.Num 4607182418800017408)&&((Ll x0.Num 0)||(!v1)))) then false
 else bif ((!(dV x0.Kind 2))&&((dV x0.Kind 3)&&(!v2))) then false
 else (((dV x0.Kind x0.Kind)&&(((dV x0.Kind 2)||((dV x0.Kind 3)||(fEq x0.Num 0)))&&((bif (dV x0.Kind 2) then (wJ x0.Str []) else (bif (dV x0.Kind 3) then (wJ x0.Str []) else ((dV x0.Kind 4)||(wJ x0.Str []))))&&(bif (dV x0.Kind 2) then (dV x0.Ref 0) else (bif (dV x0.Kind 3) then (dV x0.Ref 0) else (bif (dV x0.Kind 4) then (dV x0.Ref 0) else (((dV x0.Kind 5)||((dV x0.Kind 6)||((dV x0.Kind 7)||(dV x0.Kind 8))))||(dV x0.Ref 0))))))))&&v3)
def ou (x0:dP):Bool:=
 let v1:Bool:=jH x0
 let v2:Bool:=ET x0
 (v1&&((dV x0.Kind 0)||v2))
def lK (x0:dM):Bool:=
 (iO (jS .u8 x0.Has 12) 0)
def mg (x0:dM):Bool:=
 (iO (jS .u8 x0.Has 3) 0)
def qL (x0:dM):Int:=
 let v1:Bool:=mg x0
 let v2:Bool:=lK x0
 let v3:Bool:=jH x0.Value
 let v4:Bool:=ou x0.Get
 let v5:Bool:=ou x0.Set
 bif (((((iO (o_ .u8 x0.Has 63) 0)||(v1&&v2))||(!v3))||(!v4))||(!v5)) then 90
 else bif ((((iO (jS .u8 (CP .u8 x0.Has) 1) 0)&&(!((dV x0.Value.Kind 0)&&((fEq x0.Value.Num 0)&&((wJ x0.Value.Str [])&&(dV x0.Value.Ref 0))))))||((iO (jS .u8 (CP .u8 x0.Has) 4) 0)&&(!((dV x0.Get.Kind 0)&&((fEq x0.Get.Num 0)&&((wJ x0.Get.Str [])&&(dV x0.Get.Ref 0)))))))||((iO (jS .u8 (CP .u8 x0.Has) 8) 0)&&(!((dV x0.Set.Kind 0)&&((fEq x0.Set.Num 0)&&((wJ x0.Set.Str [])&&(dV x0.Set.Ref 0))))))) then 90
 else bif ((((iO (jS .u8 (CP .u8 x0.Has) 2) 0)&&x0.iw)||((iO (jS .u8 (CP .u8 x0.Has) 16) 0)&&x0.fE))||((iO (jS .u8 (CP .u8 x0.Has) 32) 0)&&x0.Configurable)) then 90
 else 0
def mY (x0:dM):dM:=
 let v1:Bool:=lK x0
 (dM.mk (bif v1 then (U1 .u8 x0.Has 60) else (U1 .u8 x0.Has 51)) x0.Value x0.Get x0.Set x0.iw x0.fE x0.Configurable)
def zu (x0:dM)(x1:Bool)(x2:dM):Int:=
 let v3:Int:=qL x0
 let v4:Int:=qL x2
 let v5:dM:=mY x2
 bif (iO v3 0) then v3
 else bif (x1&&((iO v4 0)||(iO x2.Has v5.Has))) then 90
 else 0
def yO (x0:dM):Bool:=
 (dV (jS .u8 x0.Has 15) 0)
def dS (x0:dP):Bool:=
 ((decide ((x0.Kind:Int)>=6))&&(decide ((x0.Kind:Int)<=8)))
def yP (x0:dP)(x1:dP):Bool:=
 let v2:Bool:=dS x0
 let v3:Bool:=dS x1
 bif (v2&&v3) then (dV x0.Ref x1.Ref)
 else bif (iO x0.Kind x1.Kind) then false
 else bif ((dV x0.Kind 0)||(dV x0.Kind 1)) then true
 else bif ((dV x0.Kind 2)||(dV x0.Kind 3)) then (fEq x0.Num x1.Num)
 else bif (dV x0.Kind 4) then (wJ x0.Str x1.Str)
 else bif (dV x0.Kind 5) then (dV x0.Ref x1.Ref)
 else false
def jQ (x0:dP)(x1:dP):Bool:=
 let v2:Bool:=yP x0 x1
 bif (((dV x0.Kind 3)&&(dV x1.Kind 3))&&(Ll x0.Num x0.Num)) then (Ll x1.Num x1.Num)
 else v2
def EU (x0:dM)(x1:dM):Bool:=
 let v2:Bool:=yO x0
 let v3:Bool:=mg x0
 let v4:Bool:=mg x1
 let v5:Bool:=mg x0
 let v6:Bool:=jQ x0.Value x1.Value
 let v7:Bool:=jQ x0.Get x1.Get
 let v8:Bool:=jQ x0.Set x1.Set
 bif x1.Configurable then true
 else bif x0.Configurable then false
 else bif ((iO (jS .u8 x0.Has 16) 0)&&(!(Nh x0.fE x1.fE))) then false
 else bif v2 then true
 else bif (!(Nh v3 v4)) then false
 else bif v5 then (x1.iw||((!x0.iw)&&((dV (jS .u8 x0.Has 1) 0)||v6)))
 else (((dV (jS .u8 x0.Has 4) 0)||v7)&&((dV (jS .u8 x0.Has 8) 0)||v8))
def jy (x0:Bool)(x1:dM)(x2:Bool)(x3:dM):Bool×Int:=
 let v4:Int:=zu x1 x2 x3
 let v5:Bool:=EU x1 x3
 bif (iO v4 0) then (false,v4)
 else bif (!x2) then (x0,0)
 else (v5,0)
def ig (x0:dM)(x1:Int):Bool:=
 (dV (zi .u8 (CO .u8 x0.Has x1) 2) 1)
def jd (x0:dM):Bool:=
 let v1:Bool:=ig x0 4
 let v2:Bool:=ig x0 8
 (v1||v2)
def jV (x0:dM):Bool:=
 let v1:Bool:=ig x0 1
 let v2:Bool:=ig x0 2
 (v1||v2)
def zx (x0:Nat)(x1:Nat):Bool:=
 bif ((Ll x0 x0)||(Ll x1 x1)) then ((Ll x0 x0)&&(Ll x1 x1))
 else ((fEq x0 x1)&&((Ll x0 0)||(fEq ((FloatKind.f64.format.div 4607182418800017408 x0).getD 0) ((FloatKind.f64.format.div 4607182418800017408 x1).getD 0))))
def xM (x0:dP)(x1:dP):Bool:=
 let v2:Bool:=zx x0.Num x1.Num
 ((((dV x0.Kind x1.Kind)&&(wJ x0.Str x1.Str))&&(dV x0.Ref x1.Ref))&&v2)
def je (x0:dP):Bool:=
 let v1:Bool:=xM x0 (dP.mk 0 0 [] 0)
 v1
def jW (x0:Nat):Bool:=
 ((fEq x0 0)&&(fGt ((FloatKind.f64.format.div 4607182418800017408 x0).getD 0) 0))
def xO (x0:Nat):Int×Bool:=
 bif (!((Qq x0 14069245235905429503)&&(OT x0 4845873199050653695))) then (0,false)
 else bif ((Ll (FloatKind.f64.nearest (((FloatKind.f64.decode x0).toInt .zero).getD 0)) x0)||((fEq x0 0)&&(fLt ((FloatKind.f64.format.div 4607182418800017408 x0).getD 0) 0))) then (0,false)
 else ((((FloatKind.f64.decode x0).toInt .zero).getD 0),true)
def y7 (x0:Nat):Bool:=
 let v1:Int×Bool:=xO x0
 (v1.2||(Ll x0 x0))
def jr (x0:dP):Bool:=
 let v1:Bool:=jW x0.Num
 let v2:Bool:=y7 x0.Num
 bif (decide ((x0.Kind:Int) > 8)) then false
 else (((bif (dV x0.Kind 3) then v2 else (bif (dV x0.Kind 2) then (v1||(fEq x0.Num 4607182418800017408)) else v1))&&((wJ x0.Str [])||((dV x0.Kind 4)&&(decide (((sLen x0.Str):Int)<=4096)))))&&((dV x0.Ref 0)||((decide ((x0.Kind:Int)>=5))&&(decide ((x0.Ref:Int) > 0)))))
def EW (x0:dP):Bool:=
 ((dV x0.Kind 7)||(dV x0.Kind 8))
def jk (x0:dP):Bool:=
 let v1:Bool:=jr x0
 let v2:Bool:=EW x0
 (v1&&((dV x0.Kind 0)||v2))
def jl (x0:dM):Int:=
 let v1:Bool:=jV x0
 let v2:Bool:=jd x0
 let v3:Bool:=je x0.Value
 let v4:Bool:=ig x0 1
 let v5:Bool:=jr x0.Value
 let v6:Bool:=je x0.Get
 let v7:Bool:=ig x0 4
 let v8:Bool:=jk x0.Get
 let v9:Bool:=je x0.Set
 let v10:Bool:=ig x0 8
 let v11:Bool:=jk x0.Set
 let v12:Bool:=ig x0 2
 let v13:Bool:=ig x0 16
 let v14:Bool:=ig x0 32
 bif ((decide ((x0.Has:Int) > 63))||(v1&&v2)) then 90
 else bif ((((!(bif v4 then v5 else v3))||(!(bif v7 then v8 else v6)))||(!(bif v10 then v11 else v9)))||(!((((!x0.iw)||v12)&&((!x0.fE)||v13))&&((!x0.Configurable)||v14)))) then 90
 else 0
def fQ (x0:dM):Bool:=
 let v1:Int:=jl x0
 ((dV v1 0)&&((dV x0.Has 51)||(dV x0.Has 60)))
def fV (x0:dP):Bool:=
 (((dV x0.Kind 6)||(dV x0.Kind 7))||(dV x0.Kind 8))
def sD (x0:dP)(x1:dP):Bool:=
 let v2:Bool:=fV x0
 let v3:Bool:=fV x1
 bif (v2&&v3) then (dV x0.Ref x1.Ref)
 else bif (iO x0.Kind x1.Kind) then false
 else bif ((dV x0.Kind 0)||(dV x0.Kind 1)) then true
 else bif (dV x0.Kind 2) then (fEq x0.Num x1.Num)
 else bif (dV x0.Kind 3) then ((fEq x0.Num x1.Num)||((Ll x0.Num x0.Num)&&(Ll x1.Num x1.Num)))
 else bif (dV x0.Kind 4) then (wJ x0.Str x1.Str)
 else bif (dV x0.Kind 5) then (dV x0.Ref x1.Ref)
 else false
def jB (x0:Bool)(x1:dM)(x2:Bool)(x3:dM):Bool×Int:=
 let v4:Int:=jl x1
 let v5:Bool:=fQ x3
 let v6:Bool:=ig x1 32
 let v7:Bool:=ig x1 16
 let v8:Bool:=jV x1
 let v9:Bool:=jd x3
 let v10:Bool:=jd x1
 let v11:Bool:=jV x3
 let v12:Bool:=jV x3
 let v13:Bool:=jV x1
 let v14:Bool:=ig x1 1
 let v15:Bool:=sD x1.Value x3.Value
 let v16:Bool:=jd x3
 let v17:Bool:=jd x1
 let v18:Bool:=ig x1 4
 let v19:Bool:=sD x1.Get x3.Get
 let v20:Bool:=ig x1 8
 let v21:Bool:=sD x1.Set x3.Set
 bif ((iO v4 0)||(x2&&(!v5))) then (false,90)
 else bif (!x2) then (x0,0)
 else ((((((!(((!x3.Configurable)&&v6)&&x1.Configurable))&&(!(((!x3.Configurable)&&v7)&&(!(Nh x1.fE x3.fE)))))&&(!((!x3.Configurable)&&((v8&&v9)||(v10&&v11)))))&&(!(((((!x3.Configurable)&&v12)&&(!x3.iw))&&v13)&&(x1.iw||(v14&&(!v15))))))&&(!((((!x3.Configurable)&&v16)&&v17)&&((v18&&(!v19))||(v20&&(!v21)))))),0)
def fG (x0:Bool)(x1:dM)(x2:Bool)(x3:dM):dM×Bool×Int:=
 let v4:Bool×Int:=jy x0 x1 x2 x3
 let v5:dM:=mY x1
 let v6:Bool:=mg x1
 let v7:Bool:=lK x3
 let v8:Bool:=lK x1
 let v9:Bool:=mg x3
 let v10:dM:=mY (dM.mk (o_ .u8 x1.Has 48) (dP.mk 0 0 [] 0) (dP.mk 0 0 [] 0) (dP.mk 0 0 [] 0) false x3.fE x3.Configurable)
 bif ((iO v4.2 0)||(!v4.1)) then ((dM.mk 0 (dP.mk 0 0 [] 0) (dP.mk 0 0 [] 0) (dP.mk 0 0 [] 0) false false false),false,v4.2)
 else bif (!x2) then (v5,true,0)
 else ((dM.mk (bif ((v6&&v7)||(v8&&v9)) then v10.Has else x3.Has) (dP.mk (bif (iO (jS .u8 x1.Has 1) 0) then x1.Value.Kind else (bif ((v6&&v7)||(v8&&v9)) then v10.Value.Kind else x3.Value.Kind)) (bif (iO (jS .u8 x1.Has 1) 0) then x1.Value.Num else (bif ((v6&&v7)||(v8&&v9)) then v10.Value.Num else x3.Value.Num)) (bif (iO (jS .u8 x1.Has 1) 0) then x1.Value.Str else (bif ((v6&&v7)||(v8&&v9)) then v10.Value.Str else x3.Value.Str)) (bif (iO (jS .u8 x1.Has 1) 0) then x1.Value.Ref else (bif ((v6&&v7)||(v8&&v9)) then v10.Value.Ref else x3.Value.Ref))) (dP.mk (bif (iO (jS .u8 x1.Has 4) 0) then x1.Get.Kind else (bif ((v6&&v7)||(v8&&v9)) then v10.Get.Kind else x3.Get.Kind)) (bif (iO (jS .u8 x1.Has 4) 0) then x1.Get.Num else (bif ((v6&&v7)||(v8&&v9)) then v10.Get.Num else x3.Get.Num)) (bif (iO (jS .u8 x1.Has 4) 0) then x1.Get.Str else (bif ((v6&&v7)||(v8&&v9)) then v10.Get.Str else x3.Get.Str)) (bif (iO (jS .u8 x1.Has 4) 0) then x1.Get.Ref else (bif ((v6&&v7)||(v8&&v9)) then v10.Get.Ref else x3.Get.Ref))) (dP.mk (bif (iO (jS .u8 x1.Has 8) 0) then x1.Set.Kind else (bif ((v6&&v7)||(v8&&v9)) then v10.Set.Kind else x3.Set.Kind)) (bif (iO (jS .u8 x1.Has 8) 0) then x1.Set.Num else (bif ((v6&&v7)||(v8&&v9)) then v10.Set.Num else x3.Set.Num)) (bif (iO (jS .u8 x1.Has 8) 0) then x1.Set.Str else (bif ((v6&&v7)||(v8&&v9)) then v10.Set.Str else x3.Set.Str)) (bif (iO (jS .u8 x1.Has 8) 0) then x1.Set.Ref else (bif ((v6&&v7)||(v8&&v9)) then v10.Set.Ref else x3.Set.Ref))) (bif (iO (jS .u8 x1.Has 2) 0) then x1.iw else (bif ((v6&&v7)||(v8&&v9)) then v10.iw else x3.iw)) (bif (iO (jS .u8 x1.Has 16) 0) then x1.fE else (bif ((v6&&v7)||(v8&&v9)) then v10.fE else x3.fE)) (bif (iO (jS .u8 x1.Has 32) 0) then x1.Configurable else (bif ((v6&&v7)||(v8&&v9)) then v10.Configurable else x3.Configurable))),true,0)
def lu (x0:dM):dM:=
 let v1:Bool:=jd x0
 (dM.mk (bif v1 then 60 else 51) x0.Value x0.Get x0.Set x0.iw x0.fE x0.Configurable)
def vI (x0:Bool)(x1:dM)(x2:Bool)(x3:dM):dM×Bool×Int:=
 let v4:Bool×Int:=jB x0 x1 x2 x3
 let v5:dM:=lu x1
 let v6:Bool:=jV x1
 let v7:Bool:=jd x3
 let v8:Bool:=jd x1
 let v9:Bool:=jV x3
 let v10:dM:=lu x1
 let v11:Bool:=ig x1 16
 let v12:Bool:=ig x1 32
 let v13:Bool:=ig x1 1
 let v14:Bool:=ig x1 2
 let v15:Bool:=ig x1 4
 let v16:Bool:=ig x1 8
 let v17:Bool:=ig x1 16
 let v18:Bool:=ig x1 32
 bif ((iO v4.2 0)||(!v4.1)) then ((dM.mk 0 (dP.mk 0 0 [] 0) (dP.mk 0 0 [] 0) (dP.mk 0 0 [] 0) false false false),false,v4.2)
 else bif (!x2) then (v5,true,0)
 else bif ((v6&&v7)||(v8&&v9)) then ((dM.mk v10.Has v10.Value v10.Get v10.Set v10.iw (bif (!v11) then x3.fE else v10.fE) (bif (!v12) then x3.Configurable else v10.Configurable)),true,0)
 else ((dM.mk x3.Has (dP.mk (bif v13 then x1.Value.Kind else x3.Value.Kind) (bif v13 then x1.Value.Num else x3.Value.Num) (bif v13 then x1.Value.Str else x3.Value.Str) (bif v13 then x1.Value.Ref else x3.Value.Ref)) (dP.mk (bif v15 then x1.Get.Kind else x3.Get.Kind) (bif v15 then x1.Get.Num else x3.Get.Num) (bif v15 then x1.Get.Str else x3.Get.Str) (bif v15 then x1.Get.Ref else x3.Get.Ref)) (dP.mk (bif v16 then x1.Set.Kind else x3.Set.Kind) (bif v16 then x1.Set.Num else x3.Set.Num) (bif v16 then x1.Set.Str else x3.Set.Str) (bif v16 then x1.Set.Ref else x3.Set.Ref)) (bif v14 then x1.iw else x3.iw) (bif v17 then x1.fE else x3.fE) (bif v18 then x1.Configurable else x3.Configurable)),true,0)
def xw (x0:dM):dM×Int:=
 let v1:Int:=qL x0
 let v2:dM:=mY x0
 bif (iO v1 0) then ((dM.mk 0 (dP.mk 0 0 [] 0) (dP.mk 0 0 [] 0) (dP.mk 0 0 [] 0) false false false),v1)
 else (v2,0)
end Go.Fw
end
section
namespace Go.Fw
def Ak (r:List dJ×Int):AV:=.kS [(.sl (List.map dJ.enc r.1) false),(.p (.int .i64 r.2))]
def IV (r:Int×Int):AV:=.kS [(.p (.int .i64 r.1)),(.p (.int .i64 r.2))]
def IW (r:List dL×Int):AV:=.kS [(.sl (List.map dL.enc r.1) false),(.p (.int .i64 r.2))]
def qZ (x0:dL):Int:=
 bif (((decide ((x0.Sym:Int)<0))||(decide (((sLen x0.Str):Int) > 4096)))||((decide ((x0.Sym:Int) > 0))&&(YZ x0.Str []))) then 9
 else 0
def sF (x0:dM):Bool:=
 let v1:dM×Int:=xw x0
 ((dV v1.2 0)&&(dV v1.1.Has x0.Has))
def nK (x0:List dJ):Nat->Int->Int->(List (dL×Int))->(Bool×Int×List (dL×Int)×Int×List (dL×Int))
 |0,_,_,_=>default
 |n+1,u1,u2,u3=>
  let v4:dJ:=x0.getD (u2:Int).toNat default
  let v5:Int:=qZ v4.Key
  let v6:Bool:=sF v4.dY
  let v7:Bool×Int:=qh 0 v4.Key u3
  let v8:List (dL×Int):=qj v4.Key (eG .i64 u2 1) u3
  bif (!(decide ((u2:Int)<(jc dJ.enc x0)))) then (true,u1,u3,default,default)
  else bif (iO v5 0) then (false,default,default,v5,u3)
  else bif (!v6) then (false,default,default,90,u3)
  else bif (decide ((v7.2:Int) > 0)) then (false,default,default,100,u3)
  else nK x0 n u1 (eG .i64 u2 1) v8
def jm (x0:List dJ):Int:=
 let r1:Bool×Int×List (dL×Int)×Int×List (dL×Int):=nK x0 (x0.length+1) 0 0 []
 bif (decide (((jc dJ.enc x0):Int) > 1024)) then 4
 else bif (!(dV (kP r1.1) 0)) then r1.2.2.2.1
 else 0
def mD (x0:List dJ)(x1:dL):Int:=
 let v2:Int:=jm x0
 let v3:Int:=qZ x1
 bif (iO v2 0) then v2
 else v3
def kG (x0:List dJ)(x1:dL):Nat->Int->Int->(Bool×Int×Int)
 |0,_,_=>default
 |n+1,u2,u3=>
  let v4:dJ:=x0.getD (u3:Int).toNat default
  bif (!(decide ((u3:Int)<(jc dJ.enc x0)))) then (true,u2,default)
  else bif ((wJ v4.Key.Str x1.Str)&&(dV v4.Key.Sym x1.Sym)) then (false,default,u3)
  else kG x0 x1 n u2 (eG .i64 u3 1)
def lU (x0:List dJ)(x1:dL):Int:=
 let r2:Bool×Int×Int:=kG x0 x1 (x0.length+1) 0 0
 bif (!(dV (kP r2.1) 0)) then r2.2.2
 else (-1)
def fC (x0:List dJ)(x1:dL)(x2:dM):List dJ×Int:=
 let v3:Int:=mD x0 x1
 let v4:Int:=lU x0 x1
 let v5:Bool:=sF x2
 let v6:List dJ:=(x0.drop (0)).take (((jc dJ.enc x0):Int).toNat-0)
 let v7:List dJ:=v6++[(dJ.mk x1 x2)]
 let v8:List dJ:=x0.set (v4:Int).toNat (dJ.mk (x0.getD (v4:Int).toNat default).Key x2)
 let v9:List dJ:=(v8.drop (0)).take (((jc dJ.enc x0):Int).toNat-0)
 bif (iO v3 0) then ([],v3)
 else bif (!v5) then ([],90)
 else bif ((decide ((v4:Int)<0))&&(dV (jc dJ.enc x0) 1024)) then ([],100)
 else bif (decide ((v4:Int)<0)) then (v7,0)
 else (v9,0)
def iy (x0:dL):Int:=
 bif (((decide ((x0.Sym:Int)<0))||(decide (((sLen x0.Str):Int) > 4096)))||((decide ((x0.Sym:Int) > 0))&&(decide (((sLen x0.Str):Int) > 0)))) then 9
 else 0
def jK (x0:List dJ)(x1:dL):Nat->Int->Int->(Bool×Int×Int)
 |0,_,_=>default
 |n+1,u2,u3=>
  let v4:dJ:=x0.getD (u3:Int).toNat default
  bif (!(decide ((u3:Int)<(jc dJ.enc x0)))) then (true,u2,default)
  else bif ((wJ v4.Key.Str x1.Str)&&(dV v4.Key.Sym x1.Sym)) then (false,default,u3)
  else jK x0 x1 n u2 (eG .i64 u3 1)
def jE (x0:List dJ)(x1:dL):Int:=
 let r2:Bool×Int×Int:=jK x0 x1 (x0.length+1) 0 0
 bif (!(dV (kP r2.1) 0)) then r2.2.2
 else (-1)
def nM (x0:List dJ):Nat->Int->Int->(Bool×Int×Int)
 |0,_,_=>default
 |n+1,u1,u2=>
  let v3:dJ:=x0.getD (u2:Int).toNat default
  let v4:Int:=iy v3.Key
  let v5:dJ:=x0.getD (u2:Int).toNat default
  let v6:Bool:=fQ v5.dY
  let v7:List dJ:=(x0.drop ((0:Int).toNat)).take ((u2:Int).toNat-(0:Int).toNat)
  let v8:dJ:=x0.getD (u2:Int).toNat default
  let v9:Int:=jE v7 v8.Key
  bif (!(decide ((u2:Int)<(jc dJ.enc x0)))) then (true,u1,default)
  else bif (iO v4 0) then (false,default,9)
  else bif (!v6) then (false,default,90)
  else bif (decide ((v9:Int)>=0)) then (false,default,100)
  else nM x0 n u1 (eG .i64 u2 1)
def iY (x0:List dJ):Int:=
 let r1:Bool×Int×Int:=nM x0 (x0.length+1) 0 0
 bif (decide (((jc dJ.enc x0):Int) > 1024)) then 4
 else bif (!(dV (kP r1.1) 0)) then r1.2.2
 else 0
def kH (x0:List dJ)(x1:dL):Int:=
 let v2:Int:=iY x0
 let v3:Int:=iy x1
 bif (iO v2 0) then v2
 else v3
def BA (x0:List dJ)(x1:dL)(x2:dM):List dJ×Int:=
 let v3:Int:=kH x0 x1
 let v4:Bool:=fQ x2
 let v5:Int:=jE x0 x1
 let v6:List dJ:=x0++[(dJ.mk x1 x2)]
 let v7:List dJ:=x0.set (v5:Int).toNat (dJ.mk (x0.getD (v5:Int).toNat default).Key x2)
 let v8:List dJ:=(v7.drop (0)).take (((jc dJ.enc x0):Int).toNat-0)
 bif (iO v3 0) then ([],v3)
 else bif (!v4) then ([],90)
 else bif ((decide ((v5:Int)<0))&&(dV (jc dJ.enc x0) 1024)) then ([],100)
 else bif (decide ((v5:Int)<0)) then (v6,0)
 else (v8,0)
def fK (x0:List dJ)(x1:dL):List dJ×Int:=
 let v2:Int:=mD x0 x1
 let v3:Int:=lU x0 x1
 let v4:List dJ:=(x0.drop ((0:Int).toNat)).take ((v3:Int).toNat-(0:Int).toNat)
 let v5:List dJ:=(x0.drop (((eG .i64 v3 1):Int).toNat)).take (((jc dJ.enc x0):Int).toNat-((eG .i64 v3 1):Int).toNat)
 let v6:List dJ:=v4++v5
 bif (iO v2 0) then ([],v2)
 else bif (decide ((v3:Int)<0)) then (x0,0)
 else (v6,0)
def oz (x0:List dJ)(x1:dL):Nat->(List dJ)->Int->(List dJ)
 |0,_,_=>default
 |n+1,u3,u4=>
  let v5:dJ:=x0.getD (u4:Int).toNat default
  let v6:dJ:=x0.getD (u4:Int).toNat default
  let v7:List dJ:=u3++[v6]
  bif (!(decide ((u4:Int)<(jc dJ.enc x0)))) then u3
  else bif (!((wJ v5.Key.Str x1.Str)&&(dV v5.Key.Sym x1.Sym))) then oz x0 x1 n v7 (eG .i64 u4 1)
  else oz x0 x1 n u3 (eG .i64 u4 1)
def wV (x0:List dJ)(x1:dL):List dJ×Int:=
 let v2:Int:=kH x0 x1
 let r3:List dJ:=oz x0 x1 (x0.length+1) [] 0
 bif (iO v2 0) then ([],v2)
 else (r3,0)
def nC (x0:dL):Nat->Int->Bool->Int->Int->(Bool×Int×Bool×Int×Int×Bool)
 |0,_,_,_,_=>default
 |n+1,u1,u2,u3,u4=>
  bif (!(decide ((u4:Int)<(sLen x0.Str)))) then (true,u1,u2,u3,default,default)
  else bif ((decide (((((x0.Str.getD (u4:Int).toNat 0).toNat:Nat):Int):Int)<48))||(decide (((((x0.Str.getD (u4:Int).toNat 0).toNat:Nat):Int):Int) > 57))) then (false,default,default,default,0,false)
  else nC x0 n u1 u2 (eG .i64 (D9 .i64 u3 10) (IntKind.wrap .i64 (jg .u8 (((x0.Str.getD (u4:Int).toNat 0).toNat:Nat):Int) 48))) (eG .i64 u4 1)
def iE (x0:dL):Int×Bool:=
 let r1:Bool×Int×Bool×Int×Int×Bool:=nC x0 (((sLen x0.Str):Int).toNat+1) 0 false 0 0
 bif ((((decide ((x0.Sym:Int) > 0))||(wJ x0.Str []))||(decide (((sLen x0.Str):Int) > 4)))||((decide (((sLen x0.Str):Int) > 1))&&(dV (((x0.Str.getD (0:Int).toNat 0).toNat:Nat):Int) 48))) then (0,false)
 else bif (!(dV (kP r1.1) 0)) then (r1.2.2.2.2.1,r1.2.2.2.2.2)
 else bif (decide ((r1.2.2.2.1:Int)>=1024)) then (0,false)
 else (r1.2.2.2.1,true)
def dX (x0:dL):Int×Int:=
 let v1:Int×Bool:=iE x0
 bif v1.2 then (0,v1.1)
 else bif (decide ((x0.Sym:Int) > 0)) then (2,0)
 else (1,0)
def gy (x1:Int):Nat->Int->(List dL)->(Int×List dL)
 |0,u5,u6=>(u5,u6)
 |n+1,u5,u6=>
  let v7:dL:=u6.getD (u5:Int).toNat default
  let v8:Int×Int:=dX v7
  let v9:dL:=u6.getD ((jg .i64 u5 1):Int).toNat default
  let v10:Int×Int:=dX v9
  let v11:dL:=u6.getD (u5:Int).toNat default
  let v12:dL:=u6.getD ((jg .i64 u5 1):Int).toNat default
  let v13:List dL:=u6.set (u5:Int).toNat v12
  let v14:List dL:=v13.set ((jg .i64 u5 1):Int).toNat v11
  bif ((decide ((u5:Int) > x1))&&(!((decide ((v8.1:Int)<v10.1))||((dV v8.1 v10.1)&&(decide ((v8.2:Int)<v10.2)))))) then (u5,u6)
  else bif (!(decide ((u5:Int) > x1))) then (u5,u6)
  else gy x1 n (jg .i64 u5 1) v14
def fO (x1:Int)(x2:Int):Nat->Int->(List dL)->(List dL)
 |0,_,u4=>u4
 |n+1,u3,u4=>
  let r5:Int×List dL:=gy x1 ((u3-x1).toNat+1) u3 u4
  bif (!(decide ((u3:Int)<x2))) then u4
  else fO x1 x2 n (eG .i64 u3 1) r5.2
def iU (x0:List dL)(x1:Int)(x2:Int):List dL:=
 let r3:List dL:=fO x1 x2 ((x2:Int).toNat+1) (eG .i64 x1 1) x0
 r3
def iL (x1:Int)(x2:Int)(x3:Int):Nat->Int->(List dL)->(List dL)
 |0,_,u5=>u5
 |n+1,u4,u5=>
  let v6:dL:=u5.getD ((eG .i64 x1 u4):Int).toNat default
  let v7:dL:=u5.getD ((eG .i64 x2 u4):Int).toNat default
  let v8:List dL:=u5.set ((eG .i64 x1 u4):Int).toNat v7
  let v9:List dL:=v8.set ((eG .i64 x2 u4):Int).toNat v6
  bif (!(decide ((u4:Int)<x3))) then u5
  else iL x1 x2 x3 n (eG .i64 u4 1) v9
def gW (x0:List dL)(x1:Int)(x2:Int)(x3:Int):List dL:=
 let r4:List dL:=iL x1 x2 x3 ((x3:Int).toNat+1) 0 x0
 r4
def gX (x2:Int):Nat->Int->Int->(List dL)->(Int×List dL)
 |0,u4,_,u6=>(u4,u6)
 |n+1,u4,u5,u6=>
  let w7:List dL:=gW u6 (jg .i64 x2 u4) x2 u5
  let v7:List dL:=w7
  let w9:List dL:=gW u6 (jg .i64 x2 u4) (jg .i64 (eG .i64 x2 u5) u4) u4
  let v9:List dL:=w9
  bif (!(iO u4 u5)) then (u4,u6)
  else bif (decide ((u4:Int) > u5)) then gX x2 n (jg .i64 u4 u5) u5 v7
  else gX x2 n u4 (jg .i64 u5 u4) v9
def jf (x0:List dL)(x1:Int)(x2:Int)(x3:Int):List dL:=
 let r4:Int×List dL:=gX x2 ((x3-x1).toNat+1) (jg .i64 x2 x1) (jg .i64 x3 x2) x0
 let w6:List dL:=gW r4.2 (jg .i64 x2 r4.1) x2 r4.1
 let v6:List dL:=w6
 v6
def fP (x0:List dL)(x1:Int):Nat->Int->Int->Int
 |0,u4,_=>u4
 |n+1,u4,u5=>
  let v6:dL:=x0.getD ((IntKind.wrap .i64 (jA .u64 (IntKind.wrap .u64 (eG .i64 u4 u5)) 1)):Int).toNat default
  let v7:Int×Int:=dX v6
  let v8:dL:=x0.getD (x1:Int).toNat default
  let v9:Int×Int:=dX v8
  bif (!(decide ((u4:Int)<u5))) then u4
  else fP x0 x1 n (bif ((decide ((v7.1:Int)<v9.1))||((dV v7.1 v9.1)&&(decide ((v7.2:Int)<v9.2)))) then (eG .i64 (IntKind.wrap .i64 (jA .u64 (IntKind.wrap .u64 (eG .i64 u4 u5)) 1)) 1) else u4) (bif ((decide ((v7.1:Int)<v9.1))||((dV v7.1 v9.1)&&(decide ((v7.2:Int)<v9.2)))) then u5 else (IntKind.wrap .i64 (jA .u64 (IntKind.wrap .u64 (eG .i64 u4 u5)) 1)))
def gq (r4:Int):Nat->Int->(List dL)->(List dL)
 |0,_,u6=>u6
 |n+1,u5,u6=>
  let v7:dL:=u6.getD (u5:Int).toNat default
  let v8:dL:=u6.getD ((eG .i64 u5 1):Int).toNat default
  let v9:List dL:=u6.set (u5:Int).toNat v8
  let v10:List dL:=v9.set ((eG .i64 u5 1):Int).toNat v7
  bif (!(decide ((u5:Int)<(jg .i64 r4 1)))) then u6
  else gq r4 n (eG .i64 u5 1) v10
def g_ (x0:List dL)(x2:Int):Nat->Int->Int->Int
 |0,u6,_=>u6
 |n+1,u6,u7=>
  let v8:dL:=x0.getD (x2:Int).toNat default
  let v9:Int×Int:=dX v8
  let v10:dL:=x0.getD ((IntKind.wrap .i64 (jA .u64 (IntKind.wrap .u64 (eG .i64 u6 u7)) 1)):Int).toNat default
  let v11:Int×Int:=dX v10
  bif (!(decide ((u6:Int)<u7))) then u6
  else g_ x0 x2 n (bif ((decide ((v9.1:Int)<v11.1))||((dV v9.1 v11.1)&&(decide ((v9.2:Int)<v11.2)))) then u6 else (eG .i64 (IntKind.wrap .i64 (jA .u64 (IntKind.wrap .u64 (eG .i64 u6 u7)) 1)) 1)) (bif ((decide ((v9.1:Int)<v11.1))||((dV v9.1 v11.1)&&(decide ((v9.2:Int)<v11.2)))) then (IntKind.wrap .i64 (jA .u64 (IntKind.wrap .u64 (eG .i64 u6 u7)) 1)) else u7)
def gu (r6:Int):Nat->Int->(List dL)->(List dL)
 |0,_,u8=>u8
 |n+1,u7,u8=>
  let v9:dL:=u8.getD (u7:Int).toNat default
  let v10:dL:=u8.getD ((jg .i64 u7 1):Int).toNat default
  let v11:List dL:=u8.set (u7:Int).toNat v10
  let v12:List dL:=v11.set ((jg .i64 u7 1):Int).toNat v9
  bif (!(decide ((u7:Int) > r6))) then u8
  else gu r6 n (jg .i64 u7 1) v12
def h_ (x0:List dL)(x1:Int)(x2:Int)(x3:Int):Nat->Int->Int->Int
 |0,u8,_=>u8
 |n+1,u8,u9=>
  let v10:dL:=x0.getD ((jg .i64 (jg .i64 (eG .i64 (IntKind.wrap .i64 (jA .u64 (IntKind.wrap .u64 (eG .i64 x1 x3)) 1)) x2) 1) (IntKind.wrap .i64 (jA .u64 (IntKind.wrap .u64 (eG .i64 u8 u9)) 1))):Int).toNat default
  let v11:Int×Int:=dX v10
  let v12:dL:=x0.getD ((IntKind.wrap .i64 (jA .u64 (IntKind.wrap .u64 (eG .i64 u8 u9)) 1)):Int).toNat default
  let v13:Int×Int:=dX v12
  bif (!(decide ((u8:Int)<u9))) then u8
  else h_ x0 x1 x2 x3 n (bif ((decide ((v11.1:Int)<v13.1))||((dV v11.1 v13.1)&&(decide ((v11.2:Int)<v13.2)))) then u8 else (eG .i64 (IntKind.wrap .i64 (jA .u64 (IntKind.wrap .u64 (eG .i64 u8 u9)) 1)) 1)) (bif ((decide ((v11.1:Int)<v13.1))||((dV v11.1 v13.1)&&(decide ((v11.2:Int)<v13.2)))) then (IntKind.wrap .i64 (jA .u64 (IntKind.wrap .u64 (eG .i64 u8 u9)) 1)) else u9)
def eu : Nat->List dL->Int->Int->Int->List dL
 |0,x0,x1,x2,x3=>x0
 |n+1,x0,x1,x2,x3=>
 let r4:Int:=fP x0 x1 ((x3-x2).toNat+1) x2 x3
 let r5:List dL:=gq r4 (((jg .i64 r4 1):Int).toNat+1) x1 x0
 let r6:Int:=g_ x0 x2 ((x2-x1).toNat+1) x1 x2
 let r7:List dL:=gu r6 ((x2-x1).toNat+1) x2 x0
 let r8:Int:=h_ x0 x1 x2 x3 ((x3-x1).toNat+1) (bif (decide ((x2:Int) > (IntKind.wrap .i64 (jA .u64 (IntKind.wrap .u64 (eG .i64 x1 x3)) 1)))) then (jg .i64 (eG .i64 (IntKind.wrap .i64 (jA .u64 (IntKind.wrap .u64 (eG .i64 x1 x3)) 1)) x2) x3) else x1) (bif (decide ((x2:Int) > (IntKind.wrap .i64 (jA .u64 (IntKind.wrap .u64 (eG .i64 x1 x3)) 1)))) then (IntKind.wrap .i64 (jA .u64 (IntKind.wrap .u64 (eG .i64 x1 x3)) 1)) else x2)
 let w9:List dL:=jf x0 r8 x2 (jg .i64 (eG .i64 (IntKind.wrap .i64 (jA .u64 (IntKind.wrap .u64 (eG .i64 x1 x3)) 1)) x2) r8)
 let v9:List dL:=w9
 let w11:List dL:=eu n v9 x1 r8 (IntKind.wrap .i64 (jA .u64 (IntKind.wrap .u64 (eG .i64 x1 x3)) 1))
 let v11:List dL:=w11
 let w13:List dL:=eu n v11 (IntKind.wrap .i64 (jA .u64 (IntKind.wrap .u64 (eG .i64 x1 x3)) 1)) (jg .i64 (eG .i64 (IntKind.wrap .i64 (jA .u64 (IntKind.wrap .u64 (eG .i64 x1 x3)) 1)) x2) r8) x3
 let v13:List dL:=w13
 let w15:List dL:=eu n v9 (IntKind.wrap .i64 (jA .u64 (IntKind.wrap .u64 (eG .i64 x1 x3)) 1)) (jg .i64 (eG .i64 (IntKind.wrap .i64 (jA .u64 (IntKind.wrap .u64 (eG .i64 x1 x3)) 1)) x2) r8) x3
 let v15:List dL:=w15
 let w17:List dL:=eu n x0 x1 r8 (IntKind.wrap .i64 (jA .u64 (IntKind.wrap .u64 (eG .i64 x1 x3)) 1))
 let v17:List dL:=w17
 let w19:List dL:=eu n v17 (IntKind.wrap .i64 (jA .u64 (IntKind.wrap .u64 (eG .i64 x1 x3)) 1)) (jg .i64 (eG .i64 (IntKind.wrap .i64 (jA .u64 (IntKind.wrap .u64 (eG .i64 x1 x3)) 1)) x2) r8) x3
 let v19:List dL:=w19
 let w21:List dL:=eu n x0 (IntKind.wrap .i64 (jA .u64 (IntKind.wrap .u64 (eG .i64 x1 x3)) 1)) (jg .i64 (eG .i64 (IntKind.wrap .i64 (jA .u64 (IntKind.wrap .u64 (eG .i64 x1 x3)) 1)) x2) r8) x3
 let v21:List dL:=w21
 bif (dV (jg .i64 x2 x1) 1) then r5
 else bif (dV (jg .i64 x3 x2) 1) then r7
 else bif (((decide ((r8:Int)<x2))&&(decide ((x2:Int)<(jg .i64 (eG .i64 (IntKind.wrap .i64 (jA .u64 (IntKind.wrap .u64 (eG .i64 x1 x3)) 1)) x2) r8))))&&(((decide ((x1:Int)<r8))&&(decide ((r8:Int)<(IntKind.wrap .i64 (jA .u64 (IntKind.wrap .u64 (eG .i64 x1 x3)) 1)))))&&((decide (((IntKind.wrap .i64 (jA .u64 (IntKind.wrap .u64 (eG .i64 x1 x3)) 1)):Int)<(jg .i64 (eG .i64 (IntKind.wrap .i64 (jA .u64 (IntKind.wrap .u64 (eG .i64 x1 x3)) 1)) x2) r8)))&&(decide (((jg .i64 (eG .i64 (IntKind.wrap .i64 (jA .u64 (IntKind.wrap .u64 (eG .i64 x1 x3)) 1)) x2) r8):Int)<x3))))) then v13
 else bif (((decide ((r8:Int)<x2))&&(decide ((x2:Int)<(jg .i64 (eG .i64 (IntKind.wrap .i64 (jA .u64 (IntKind.wrap .u64 (eG .i64 x1 x3)) 1)) x2) r8))))&&((decide ((x1:Int)<r8))&&(decide ((r8:Int)<(IntKind.wrap .i64 (jA .u64 (IntKind.wrap .u64 (eG .i64 x1 x3)) 1)))))) then v11
 else bif (((decide ((r8:Int)<x2))&&(decide ((x2:Int)<(jg .i64 (eG .i64 (IntKind.wrap .i64 (jA .u64 (IntKind.wrap .u64 (eG .i64 x1 x3)) 1)) x2) r8))))&&((decide (((IntKind.wrap .i64 (jA .u64 (IntKind.wrap .u64 (eG .i64 x1 x3)) 1)):Int)<(jg .i64 (eG .i64 (IntKind.wrap .i64 (jA .u64 (IntKind.wrap .u64 (eG .i64 x1 x3)) 1)) x2) r8)))&&(decide (((jg .i64 (eG .i64 (IntKind.wrap .i64 (jA .u64 (IntKind.wrap .u64 (eG .i64 x1 x3)) 1)) x2) r8):Int)<x3)))) then v15
 else bif ((decide ((r8:Int)<x2))&&(decide ((x2:Int)<(jg .i64 (eG .i64 (IntKind.wrap .i64 (jA .u64 (IntKind.wrap .u64 (eG .i64 x1 x3)) 1)) x2) r8)))) then v9
 else bif (((decide ((x1:Int)<r8))&&(decide ((r8:Int)<(IntKind.wrap .i64 (jA .u64 (IntKind.wrap .u64 (eG .i64 x1 x3)) 1)))))&&((decide (((IntKind.wrap .i64 (jA .u64 (IntKind.wrap .u64 (eG .i64 x1 x3)) 1)):Int)<(jg .i64 (eG .i64 (IntKind.wrap .i64 (jA .u64 (IntKind.wrap .u64 (eG .i64 x1 x3)) 1)) x2) r8)))&&(decide (((jg .i64 (eG .i64 (IntKind.wrap .i64 (jA .u64 (IntKind.wrap .u64 (eG .i64 x1 x3)) 1)) x2) r8):Int)<x3)))) then v19
 else bif ((decide ((x1:Int)<r8))&&(decide ((r8:Int)<(IntKind.wrap .i64 (jA .u64 (IntKind.wrap .u64 (eG .i64 x1 x3)) 1))))) then v17
 else bif ((decide (((IntKind.wrap .i64 (jA .u64 (IntKind.wrap .u64 (eG .i64 x1 x3)) 1)):Int)<(jg .i64 (eG .i64 (IntKind.wrap .i64 (jA .u64 (IntKind.wrap .u64 (eG .i64 x1 x3)) 1)) x2) r8)))&&(decide (((jg .i64 (eG .i64 (IntKind.wrap .i64 (jA .u64 (IntKind.wrap .u64 (eG .i64 x1 x3)) 1)) x2) r8):Int)<x3))) then v21
 else x0
def gY (x1:Int):Nat->Int->Int->(List dL)->(Int×Int×List dL)
 |0,u2,u3,u4=>(u2,u3,u4)
 |n+1,u2,u3,u4=>
  let w5:List dL:=iU u4 u2 u3
  let v5:List dL:=w5
  bif (!(decide ((u3:Int)<=x1))) then (u2,u3,u4)
  else gY x1 n u3 (eG .i64 u3 20) v5
def fJ (x1:Int)(u7:Int):Nat->Int->Int->(List dL)->(Int×Int×List dL)
 |0,u11,u12,u13=>(u11,u12,u13)
 |n+1,u11,u12,u13=>
  let w14:List dL:=eu ((u12-u11).toNat+1) u13 u11 (eG .i64 u11 u7) u12
  let v14:List dL:=w14
  bif (!(decide ((u12:Int)<=x1))) then (u11,u12,u13)
  else fJ x1 u7 n u12 (eG .i64 u12 (D9 .i64 2 u7)) v14
def iP (x1:Int):Nat->Int->Int->Int->(List dL)->(List dL)
 |0,_,_,_,u10=>u10
 |n+1,u7,u8,u9,u10=>
  let r11:Int×Int×List dL:=fJ x1 u7 ((x1+2*u7).toNat+1) 0 (D9 .i64 2 u7) u10
  let w14:List dL:=eu ((x1-r11.1).toNat+1) r11.2.2 r11.1 (eG .i64 r11.1 u7) x1
  let v14:List dL:=w14
  bif (!(decide ((u7:Int)<x1))) then u10
  else bif (decide (((eG .i64 r11.1 u7):Int)<x1)) then iP x1 n (D9 .i64 u7 2) r11.1 r11.2.1 v14
  else iP x1 n (D9 .i64 u7 2) r11.1 r11.2.1 r11.2.2
def fU (x0:List dL)(x1:Int):List dL:=
 let r2:Int×Int×List dL:=gY x1 (x1.toNat+21) 0 20 x0
 let w5:List dL:=iU r2.2.2 r2.1 x1
 let v5:List dL:=w5
 let r7:List dL:=iP x1 (x1.toNat+1) 20 r2.1 r2.2.1 v5
 r7
def mZ (x0:List dL):List dL:=
 let w1:List dL:=fU x0 (jc dL.enc x0)
 let v1:List dL:=w1
 let v3:List dL:=(v1.drop (0)).take (((jc dL.enc x0):Int).toNat-0)
 bif ((dV (jc dL.enc x0) 0)||(dV (jc dL.enc x0) 1)) then x0
 else v3
def tY : Nat->Int->(List UInt8)->(Int×List UInt8)
 |0,_,_=>default
 |n+1,u2,u3=>
  bif (!(decide ((u2:Int)>=10))) then (u2,u3)
  else tY n (CO .i64 u2 10) ((O3 (IntKind.wrap .i32 (eG .i64 48 (zi .i64 u2 10))))++u3)
def Ht (x0:Int):List UInt8:=
 let v1:List UInt8:=default
 let r2:Int×List UInt8:=tY (x0.toNat+1) x0 []
 bif (decide ((x0:Int)<0)) then ([45]++v1)
 else ((O3 (IntKind.wrap .i32 (eG .i64 48 r2.1)))++r2.2)
def ql (x0:Int):List UInt8:=
 let v1:List UInt8:=default
 let v2:List UInt8:=default
 let v3:List UInt8:=Ht x0
 bif ((decide ((x0:Int)<0))&&(decide (((jg .i64 0 x0):Int)<0))) then (v1++v2)
 else v3
def oQ (x0:dL):Nat->Int->Bool->Int->(Bool×Int×Bool×Int×Bool)
 |0,_,_,_=>default
 |n+1,u1,u2,u3=>
  let v4:List UInt8:=ql u3
  bif (!(decide ((u3:Int)<1024))) then (true,u1,u2,default,default)
  else bif (wJ v4 x0.Str) then (false,default,default,u3,true)
  else oQ x0 n u1 u2 (eG .i64 u3 1)
def nN (x0:dL):Int×Bool:=
 let r1:Bool×Int×Bool×Int×Bool:=oQ x0 ((1024:Int).toNat+1) 0 false 0
 bif ((decide ((x0.Sym:Int) > 0))||(decide (((sLen x0.Str):Int) > 4))) then (0,false)
 else bif (!(dV (kP r1.1) 0)) then (r1.2.2.2.1,r1.2.2.2.2)
 else (0,false)
def qB (u2:List Int)(v5:Int×Bool):Nat->Int->Int
 |0,_=>default
 |n+1,u6=>
  let v7:Int:=u2.getD ((jg .i64 u6 1):Int).toNat default
  bif (!((decide ((u6:Int) > 0))&&(decide ((v7:Int) > v5.1)))) then u6
  else qB u2 v5 n (jg .i64 u6 1)
def oU (r6:Int):Nat->Int->(List dL)->(List Int)->(Int×List dL×List Int)
 |0,_,_,_=>default
 |n+1,u9,u10,u11=>
  let v12:dL:=u10.getD ((jg .i64 u9 1):Int).toNat default
  let v13:List dL:=u10.set (u9:Int).toNat v12
  let v14:Int:=u11.getD ((jg .i64 u9 1):Int).toNat default
  let v15:List Int:=u11.set (u9:Int).toNat v14
  bif (!(decide ((u9:Int) > r6))) then (u9,u10,u11)
  else oU r6 n (jg .i64 u9 1) v13 v15
def oV (x0:List dL):Nat->(List dL)->(List Int)->Int->(List dL)
 |0,_,_,_=>default
 |n+1,u1,u2,u3=>
  let v4:dL:=x0.getD (u3:Int).toNat default
  let v5:Int×Bool:=nN v4
  let r6:Int:=qB u2 v5 (u1.length+1) (jc dL.enc u1)
  let v7:List dL:=u1++[(dL.mk [] 0)]
  let v8:List Int:=u2++[0]
  let r9:Int×List dL×List Int:=oU r6 (u1.length+1) (jg .i64 (jc dL.enc v7) 1) v7 v8
  let v12:dL:=x0.getD (u3:Int).toNat default
  let v13:List dL:=r9.2.1.set (r6:Int).toNat v12
  let v14:List Int:=r9.2.2.set (r6:Int).toNat v5.1
  bif (!(decide ((u3:Int)<(jc dL.enc x0)))) then u1
  else bif (!v5.2) then oV x0 n u1 u2 (eG .i64 u3 1)
  else oV x0 n v13 v14 (eG .i64 u3 1)
def oW (x0:List dL):Nat->(List dL)->Int->(List dL)
 |0,_,_=>default
 |n+1,u2,u3=>
  let v4:dL:=x0.getD (u3:Int).toNat default
  let v5:Int×Bool:=nN v4
  let v6:dL:=x0.getD (u3:Int).toNat default
  let v7:dL:=x0.getD (u3:Int).toNat default
  let v8:List dL:=u2++[v7]
  bif (!(decide ((u3:Int)<(jc dL.enc x0)))) then u2
  else bif ((!v5.2)&&(decide ((v6.Sym:Int)<=0))) then oW x0 n v8 (eG .i64 u3 1)
  else oW x0 n u2 (eG .i64 u3 1)
def oZ (x0:List dL):Nat->(List dL)->Int->(List dL)
 |0,_,_=>default
 |n+1,u3,u4=>
  let v5:dL:=x0.getD (u4:Int).toNat default
  let v6:dL:=x0.getD (u4:Int).toNat default
  let v7:List dL:=u3++[v6]
  bif (!(decide ((u4:Int)<(jc dL.enc x0)))) then u3
  else bif (decide ((v5.Sym:Int) > 0)) then oZ x0 n v7 (eG .i64 u4 1)
  else oZ x0 n u3 (eG .i64 u4 1)
def qG (x0:List dL):List dL:=
 let r1:List dL:=oV x0 (x0.length+1) [] [] 0
 let r2:List dL:=oW x0 (x0.length+1) r1 0
 let r3:List dL:=oZ x0 (x0.length+1) r2 0
 r3
def dZ (x0:List dJ)(x1:dL):dM×Bool×Int:=
 let v2:Int:=mD x0 x1
 let v3:Int:=lU x0 x1
 let v4:dJ:=x0.getD (v3:Int).toNat default
 bif (iO v2 0) then ((dM.mk 0 (dP.mk 0 0 [] 0) (dP.mk 0 0 [] 0) (dP.mk 0 0 [] 0) false false false),false,v2)
 else bif (decide ((v3:Int)>=0)) then (v4.dY,true,0)
 else ((dM.mk 0 (dP.mk 0 0 [] 0) (dP.mk 0 0 [] 0) (dP.mk 0 0 [] 0) false false false),false,0)
def uP (x0:List dJ)(x1:dL):dM×Bool×Int:=
 let v2:Int:=kH x0 x1
 let v3:Int:=jE x0 x1
 let v4:dJ:=x0.getD (v3:Int).toNat default
 bif (iO v2 0) then ((dM.mk 0 (dP.mk 0 0 [] 0) (dP.mk 0 0 [] 0) (dP.mk 0 0 [] 0) false false false),false,v2)
 else bif (decide ((v3:Int)<0)) then ((dM.mk 0 (dP.mk 0 0 [] 0) (dP.mk 0 0 [] 0) (dP.mk 0 0 [] 0) false false false),false,0)
 else (v4.dY,true,0)
def ru (x0:List dJ):Nat->(List dL)->Int->(List dL)
 |0,_,_=>default
 |n+1,u2,u3=>
  let v4:dJ:=x0.getD (u3:Int).toNat default
  let v5:List dL:=u2++[v4.Key]
  bif (!(decide ((u3:Int)<(jc dJ.enc x0)))) then u2
  else ru x0 n v5 (eG .i64 u3 1)
def jC (x0:List dJ):List dL×Int:=
 let v1:Int:=jm x0
 let r2:List dL:=ru x0 (x0.length+1) [] 0
 let v3:List dL:=mZ r2
 bif (iO v1 0) then ([],v1)
 else (v3,0)
def oC (x0:List dJ):Nat->(List dL)->Int->(List dL)
 |0,_,_=>default
 |n+1,u2,u3=>
  let v4:dJ:=x0.getD (u3:Int).toNat default
  let v5:List dL:=u2++[v4.Key]
  bif (!(decide ((u3:Int)<(jc dJ.enc x0)))) then u2
  else oC x0 n v5 (eG .i64 u3 1)
def wW (x0:List dJ):List dL×Int:=
 let v1:Int:=iY x0
 let r2:List dL:=oC x0 (x0.length+1) [] 0
 let v3:List dL:=qG r2
 bif (iO v1 0) then ([],v1)
 else (v3,0)
end Go.Fw
end
section
namespace Go.Fw
end Go.Fw
end
section
namespace Go.Fw
variable [iZ]
end Go.Fw
end
section
namespace Go.Fw
variable [iZ]
abbrev eI (n:Int):AV:=.p (.int .i64 n)
abbrev eU (n:Int):AV:=.p (.int .u8 n)
abbrev eB (b:Bool):AV:=.p (.bool b)
abbrev eF (n:Nat):AV:=.p (.float .f64 n)
abbrev eS (s:List UInt8):AV:=.str s
abbrev eL {α:Type}(f:α->List AV)(l:List α):AV:=.sl (List.map f l) false
class Fz (a:AV):Prop where h:a.fz=true
class FzL (l:List AV):Prop where h:jZ l=true
class FzR {α:Type}(f:α->List AV):Prop where h:∀x,jZ (f x)=true
instance {v : Value}:Fz (.p v):=⟨rfl⟩
instance {s : List UInt8}:Fz (.str s):=⟨rfl⟩
instance {l : List AV} [h:FzL l]:Fz (.agg l):=⟨h.h⟩
instance {l : List AV} [h:FzL l]:Fz (.kS l):=⟨h.h⟩
instance {α : Type} {f:α->List AV} [h:FzR f] {l:List α}:Fz (.sl (List.map f l) false):=⟨WV h.h l⟩
instance : FzL []:=⟨rfl⟩
instance : Fz uJ:=⟨rfl⟩
instance {a : AV} {l:List AV} [h:Fz a] [k:FzL l]:FzL (a::l):=⟨fM h.h k.h⟩
theorem Zi : ∀{a b:List AV},jZ a=true->jZ b=true->jZ (a++b)=true
 |[],b,_,h=>h
 |x::r,b,h1,h2=>by
  simp only [jZ,ay,cu] at h1 ⊢
  exact ⟨h1.1,Zi h1.2 h2⟩
instance {a b:List AV} [h:FzL a] [k:FzL b]:FzL (a++b):=⟨Zi h.h k.h⟩
instance (priority :=low) {α:Type} {f:α->List AV} [h:FzR f] {x:α}:FzL (f x):=⟨h.h x⟩
instance {b : Bool} {x y:List AV} [h:FzL x] [k:FzL y]:FzL (bif b then x else y):=⟨fzb h.h k.h⟩
instance : FzR rowB:=⟨aeA⟩
instance : FzR abT:=⟨RG⟩
instance : FzR abU:=⟨abV⟩
instance : FzR agY:=⟨aeB⟩
instance {K V:Type} {f:K->List AV} {g:V->List AV} [h:FzR f] [k:FzR g]:FzR (aiK f g):=⟨aeJ h.h k.h⟩
class Rok {α:Type}(f:α->List AV)(n:outParam Nat):Prop where h:∀x,(f x).length=n
instance : Rok rowB 1:=⟨fun _=>rfl⟩
instance : Rok abT 1:=⟨fun _=>rfl⟩
instance : Rok abU 1:=⟨fun _=>rfl⟩
instance : Rok agY 1:=⟨fun _=>rfl⟩
end Go.Fw
end
section
namespace Go.Fw
def EX (x0:List UInt8):dL:=
 (dL.mk x0 0)
end Go.Fw
end
section
namespace Go.Fw
def wX (r:dK×gZ×Int):AV:=.kS [(dK.av r.1),(gZ.av r.2.1),(.p (.int .i64 r.2.2))]
def jh (x0:dK)(u4:List Bool):Nat->Bool->Int->(List (Int×Bool))->(Bool×Bool×Int×List (Int×Bool)×Bool×List (Int×Bool))
 |0,_,_,_=>default
 |n+1,u5,u6,u7=>
  let v8:Bool:=u4.getD (u6:Int).toNat default
  let v9:Bool×Bool:=qh false u6 u7
  let v10:List (Int×Bool):=qj u6 true u7
  let v11:dQ:=x0.Objects.getD (u6:Int).toNat default
  bif (!(!v8)) then (true,u5,u6,u7,default,default)
  else bif v9.2 then (false,default,default,default,true,u7)
  else bif (dV v11.fB.Kind 1) then (true,u5,u6,v10,default,default)
  else jh x0 u4 n u5 v11.fB.Ref v10
def kJ (x0:dK)(u4:List Bool):Nat->Bool->Int->(List (Int×Bool))->Bool
 |0,_,_,_=>false
 |n+1,u5,u6,u7=>
  let v8:Bool:=u4.getD (u6:Int).toNat default
  let v9:Bool×Bool:=qh false u6 u7
  let v10:List (Int×Bool):=qj u6 true u7
  let v11:dQ:=x0.Objects.getD (u6:Int).toNat default
  bif (!(!v8)) then true
  else bif v9.2 then true
  else bif (dV v11.fB.Kind 1) then true
  else kJ x0 u4 n u5 v11.fB.Ref v10
def lN (x0:dK):Nat->Bool->Int->(List Bool)->(Bool×Bool×List Bool×Bool×List Bool)
 |0,_,_,_=>default
 |n+1,u2,u3,u4=>
  let r5:Bool×Bool×Int×List (Int×Bool)×Bool×List (Int×Bool):=jh x0 u4 (x0.Objects.length+3) u2 u3 []
  let v11:List Bool:=EK r5.2.2.2.1 u4
  bif (!(decide ((u3:Int)<(jc dQ.enc x0.Objects)))) then (true,u2,u4,default,default)
  else bif (!(dV (kP r5.1) 0)) then (false,default,default,r5.2.2.2.2.1,u4)
  else lN x0 n r5.2.1 (eG .i64 u3 1) v11
def qm (x0:dK):Bool:=
 let v1:List Bool:=List.replicate ((jc dQ.enc x0.Objects):Int).toNat false
 let r2:Bool×Bool×List Bool×Bool×List Bool:=lN x0 (x0.Objects.length+1) false 0 v1
 bif (!(dV (kP r2.1) 0)) then r2.2.2.2.1
 else false
def qx (x0:dP)(x1:Int):Bool:=
 let v2:Bool:=jH x0
 ((dV x0.Kind x1)&&v2)
def wY (x0:dQ):Int:=
 bif x0.Makes then 8
 else bif x0.Calls then 7
 else 6
def fF (x0:dK)(x1:dP):Bool:=
 let v2:Bool:=jH x1
 let v3:Bool:=dS x1
 let v4:dQ:=x0.Objects.getD (x1.Ref:Int).toNat default
 let v5:Int:=wY v4
 bif (!v2) then false
 else ((!v3)||((decide ((x1.Ref:Int)<(jc dQ.enc x0.Objects)))&&(dV v5 x1.Kind)))
def lQ (x0:dK)(x2:Int):Nat->Bool->Int->(List dP)->(Bool×Bool×List dP×Bool×List dP)
 |0,_,_,_=>default
 |n+1,u6,u7,u8=>
  let v9:dP:=u8.getD (u7:Int).toNat default
  let v10:Bool:=dS v9
  let v11:Bool:=fF x0 v9
  bif (!(decide ((u7:Int)<2))) then (true,u6,u8,default,default)
  else bif (((!v10)||(!v11))||(decide ((v9.Ref:Int)>=x2))) then (false,default,default,false,u8)
  else lQ x0 x2 n u6 (eG .i64 u7 1) u8
def o7 (x0:dK)(x1:dQ)(x2:Int):Bool:=
 let v3:Bool:=qx x1.fB 1
 let v4:Bool:=qx x1.Target 1
 let v5:Bool:=qx x1.Handler 1
 let r6:Bool×Bool×List dP×Bool×List dP:=lQ x0 x2 ((2:Int).toNat+1) false 0 [x1.Target,x1.Handler]
 let v11:dQ:=x0.Objects.getD (x1.Target.Ref:Int).toNat default
 bif (((((decide (((jc dJ.enc x1.Props):Int) > 0))||x1.Ext)||(!v3))||(YZ x1.Text []))||(x1.Makes&&(!x1.Calls))) then false
 else bif (v4&&v5) then true
 else bif (!(dV (kP r6.1) 0)) then r6.2.2.2.1
 else ((Nh v11.Calls x1.Calls)&&(Nh v11.Makes x1.Makes))
def iC (x0:Nat)(x1:List dJ):Nat->Int->Int->(Bool×Int×Int)
 |0,_,_=>default
 |n+1,u2,u3=>
  let v4:dJ:=x1.getD (u3:Int).toNat default
  let v5:Int×Bool:=iE v4.Key
  bif (!(decide ((u3:Int)<(jc dJ.enc x1)))) then (true,u2,default)
  else bif (v5.2&&(decide ((v5.1:Int)>=(((FloatKind.f64.decode x0).toInt .zero).getD 0)))) then (false,default,u3)
  else iC x0 x1 n u2 (eG .i64 u3 1)
def mO (x0:Nat)(x1:List dJ):Int:=
 let r2:Bool×Int×Int:=iC x0 x1 (x1.length+1) 0 0
 bif (!(dV (kP r2.1) 0)) then r2.2.2
 else (-1)
def jL (x0:Nat)(x1:List dJ):Bool:=
 let w2:Int:=mO x0 x1
 let r2:Int:=w2
 (decide ((r2:Int)>=0))
def uQ (x0:List dJ):Bool:=
 let v1:dJ:=x0.getD (0:Int).toNat default
 let v2:dL:=EX [108,101,110,103,116,104]
 let v3:dJ:=x0.getD (0:Int).toNat default
 let v4:Bool:=mg v3.dY
 let w5:Bool:=jL v3.dY.Value.Num x0
 let r5:Bool:=w5
 bif ((dV (jc dJ.enc x0) 0)||(!((wJ v1.Key.Str v2.Str)&&(dV v1.Key.Sym v2.Sym)))) then false
 else bif (((((!v4)||v3.dY.fE)||v3.dY.Configurable)||(iO v3.dY.Value.Kind 3))||(!((Qq v3.dY.Value.Num 0)&&(OT v3.dY.Value.Num 4652218415073722368)))) then false
 else (!r5)
def iQ (x0:List dJ)(x1:List UInt8):Nat->Int->Int->(Bool×Int×Int)
 |0,_,_=>default
 |n+1,u2,u3=>
  let v4:dJ:=x0.getD (u3:Int).toNat default
  let v5:Int×Bool:=iE v4.Key
  let v6:dL:=EX [108,101,110,103,116,104]
  bif (!(decide ((u3:Int)<(jc dJ.enc x0)))) then (true,u2,default)
  else bif ((v5.2&&(decide ((v5.1:Int)<(sLen x1))))||((wJ v4.Key.Str v6.Str)&&(dV v4.Key.Sym v6.Sym))) then (false,default,u3)
  else iQ x0 x1 n u2 (eG .i64 u3 1)
def nR (x0:List dJ)(x1:List UInt8):Int:=
 let r2:Bool×Int×Int:=iQ x0 x1 (x0.length+1) 0 0
 bif (!(dV (kP r2.1) 0)) then r2.2.2
 else (-1)
def lV (x0:List dJ)(x1:List UInt8):Bool:=
 let w2:Int:=nR x0 x1
 let r2:Int:=w2
 (decide ((r2:Int)>=0))
def uS (x0:List dJ)(x1:List UInt8):Bool:=
 let w2:Bool:=lV x0 x1
 let r2:Bool:=w2
 ((decide (((sLen x1):Int)<=4096))&&(!r2))
def gU (x0:dK)(v2:dQ):Nat->Bool->Int->(Bool×Bool×Bool)
 |0,_,_=>default
 |n+1,u12,u13=>
  let v14:dJ:=v2.Props.getD (u13:Int).toNat default
  let v15:Bool:=fF x0 v14.dY.Value
  let v16:Bool:=fF x0 v14.dY.Get
  let v17:Bool:=fF x0 v14.dY.Set
  bif (!(decide ((u13:Int)<(jc dJ.enc v2.Props)))) then (true,u12,default)
  else bif (((!v15)||(!v16))||(!v17)) then (false,default,false)
  else gU x0 v2 n u12 (eG .i64 u13 1)
def jo (x0:dK)(x1:Int):Bool:=
 let v2:dQ:=x0.Objects.getD (x1:Int).toNat default
 let v3:Bool:=o7 x0 v2 x1
 let v4:Bool:=dS v2.Target
 let v5:Bool:=fF x0 v2.Target
 let v6:dQ:=x0.Objects.getD (v2.Target.Ref:Int).toNat default
 let v7:Bool:=qx v2.Target 0
 let v8:Bool:=qx v2.Handler 0
 let v9:Bool:=dS v2.fB
 let v10:Bool:=fF x0 v2.fB
 let v11:Int:=jm v2.Props
 let r12:Bool×Bool×Bool:=gU x0 v2 (v2.Props.length+1) false 0
 let v15:Bool:=uQ v2.Props
 let v16:Bool:=uS v2.Props v2.Text
 bif (dV v2.Kind 6) then v3
 else bif ((((!v7)&&(!(((((dV v2.Kind 5)&&v4)&&(decide ((v2.Target.Ref:Int)<x1)))&&v5)&&(dV v6.Kind 6))))||(!v8))||((YZ v2.Text [])&&(iO v2.Kind 3))) then false
 else bif ((((iO v2.fB.Kind 1)&&(!v9))||(!v10))||(iO v11 0)) then false
 else bif (!(dV (kP r12.1) 0)) then r12.2.2
 else bif (dV v2.Kind 1) then ((!v2.Calls)&&(!v2.Makes))
 else bif (dV v2.Kind 2) then (((!v2.Calls)&&(!v2.Makes))&&v15)
 else bif (dV v2.Kind 3) then (((!v2.Calls)&&(!v2.Makes))&&v16)
 else bif (dV v2.Kind 4) then (v2.Calls&&v2.Makes)
 else bif (dV v2.Kind 5) then v2.Calls
 else false
def oD (x0:dK):Nat->Int->Int->(Bool×Int×Int)
 |0,_,_=>default
 |n+1,u1,u2=>
  let v3:Bool:=jo x0 u2
  bif (!(decide ((u2:Int)<(jc dQ.enc x0.Objects)))) then (true,u1,default)
  else bif (!v3) then (false,default,9)
  else oD x0 n u1 (eG .i64 u2 1)
def iR (x0:dK):Int:=
 let r1:Bool×Int×Int:=oD x0 (x0.Objects.length+1) 0 0
 let v4:Bool:=qm x0
 bif (decide (((jc dQ.enc x0.Objects):Int) > 4096)) then 9
 else bif (!(dV (kP r1.1) 0)) then r1.2.2
 else bif v4 then 9
 else 0
def jF (x0:dK)(x1:dP):Bool:=
 let v2:Bool:=dS x1
 let v3:Bool:=jH x1
 let v4:Bool:=jH x1
 let v5:dQ:=x0.Objects.getD (x1.Ref:Int).toNat default
 bif (!v2) then v3
 else bif ((!v4)||(decide ((x1.Ref:Int)>=(jc dQ.enc x0.Objects)))) then false
 else ((((dV x1.Kind 8)&&v5.Makes)||(((dV x1.Kind 7)&&v5.Calls)&&(!v5.Makes)))||(((dV x1.Kind 6)&&(!v5.Calls))&&(!v5.Makes)))
def jD (x0:dK)(x1:dP):Bool:=
 let v2:Bool:=dS x1
 let v3:Bool:=jF x0 x1
 (((dV x1.Kind 1)||v2)&&v3)
def fZ (x0:dK)(x1:iK):Int:=
 let v2:dQ:=x0.Objects.getD (x1.Object:Int).toNat default
 let v3:Bool:=jD x0 x1.Value
 let v4:Int:=qZ x1.Key
 let v5:Int:=qZ x1.Key
 let v6:Int:=qL x1.dY
 let v7:Bool:=jF x0 x1.dY.Value
 let v8:Bool:=jF x0 x1.dY.Get
 let v9:Bool:=jF x0 x1.dY.Set
 bif ((decide ((x1.Object:Int)<0))||(decide ((x1.Object:Int)>=(jc dQ.enc x0.Objects)))) then 2
 else bif (!((dV v2.Kind 1)||((dV v2.Kind 4)||(dV v2.Kind 5)))) then 2
 else bif ((!((dV x1.Method 1)||((dV x1.Method 3)||((dV x1.Method 4)||(dV x1.Method 11)))))&&((dV x1.Method 2)&&(!v3))) then 9
 else bif ((!((dV x1.Method 1)||((dV x1.Method 3)||((dV x1.Method 4)||(dV x1.Method 11)))))&&((!(dV x1.Method 2))&&((dV x1.Method 5)||(dV x1.Method 10)))) then v4
 else bif ((!((dV x1.Method 1)||((dV x1.Method 3)||((dV x1.Method 4)||(dV x1.Method 11)))))&&((!(dV x1.Method 2))&&((dV x1.Method 6)&&(iO v5 0)))) then v5
 else bif ((!((dV x1.Method 1)||((dV x1.Method 3)||((dV x1.Method 4)||(dV x1.Method 11)))))&&((!(dV x1.Method 2))&&((dV x1.Method 6)&&(iO v6 0)))) then v6
 else bif ((!((dV x1.Method 1)||((dV x1.Method 3)||((dV x1.Method 4)||(dV x1.Method 11)))))&&((!(dV x1.Method 2))&&((dV x1.Method 6)&&(((!v7)||(!v8))||(!v9))))) then 9
 else bif ((!((dV x1.Method 1)||((dV x1.Method 3)||((dV x1.Method 4)||(dV x1.Method 11)))))&&((!(dV x1.Method 2))&&(!(dV x1.Method 6)))) then 2
 else 0
def VB (x0:dQ):dQ:=
 x0
def wz (x0:dK):Nat->Int->(List dQ)->(List dQ)
 |0,_,_=>default
 |n+1,u3,u4=>
  let v5:dQ:=u4.getD (u3:Int).toNat default
  let v6:dQ:=VB v5
  let v7:List dQ:=u4.set (u3:Int).toNat v6
  bif (!(decide ((u3:Int)<(jc dQ.enc x0.Objects)))) then u4
  else wz x0 n (eG .i64 u3 1) v7
def J6 (x0:dK):dK:=
 let v1:List dQ:=List.replicate ((jc dQ.enc x0.Objects):Int).toNat (dQ.mk 0 (dP.mk 0 0 [] 0) false [] (dP.mk 0 0 [] 0) (dP.mk 0 0 [] 0) [] false false)
 let v2:List dQ:=x0.Objects.take ((jc dQ.enc x0.Objects):Int).toNat++v1.drop (min x0.Objects.length ((jc dQ.enc x0.Objects):Int).toNat)
 let r3:List dQ:=wz x0 (x0.Objects.length+1) 0 v2
 let v4:List dQ:=(r3.drop (0)).take (((jc dQ.enc x0.Objects):Int).toNat-0)
 (dK.mk v4)
def dW (x0:Bool):gZ:=
 (gZ.mk 1 (dP.mk 0 0 [] 0) x0 false (dM.mk 0 (dP.mk 0 0 [] 0) (dP.mk 0 0 [] 0) (dP.mk 0 0 [] 0) false false false) [] 0 [])
def jq (x0:dK)(x1:Int):Nat->Bool->dP->(Bool×Bool×dP×Bool×dP)
 |0,_,_=>default
 |n+1,u3,u4=>
  let v5:Bool:=dS u4
  let v6:dQ:=x0.Objects.getD (u4.Ref:Int).toNat default
  bif (!v5) then (true,u3,u4,default,default)
  else bif (dV u4.Ref x1) then (false,default,default,true,u4)
  else bif (dV v6.Kind 6) then (false,default,default,false,u4)
  else jq x0 x1 n u3 v6.fB
def jP (x0:dK)(x1:Int):Nat->Bool->dP->Bool
 |0,_,_=>false
 |n+1,u3,u4=>
  let v5:Bool:=dS u4
  let v6:dQ:=x0.Objects.getD (u4.Ref:Int).toNat default
  bif (!v5) then true
  else bif (dV u4.Ref x1) then true
  else bif (dV v6.Kind 6) then true
  else jP x0 x1 n u3 v6.fB
def iD (x0:dK)(x1:Int)(x2:dP):Bool:=
 let r3:Bool×Bool×dP×Bool×dP:=jq x0 x1 (x0.Objects.length+1) false x2
 bif (dV (kP r3.1) 0) then false
 else r3.2.2.2.1
def vJ (x0:dK)(x1:iK):dK×gZ×Int:=
 let v2:Int:=iR x0
 let v3:Int:=fZ x0 x1
 let v4:dK:=J6 x0
 let v5:dQ:=v4.Objects.getD (x1.Object:Int).toNat default
 let v6:dQ:=v4.Objects.getD (x1.Object:Int).toNat default
 let v7:Bool:=jQ x1.Value v6.fB
 let v8:gZ:=dW true
 let v9:dQ:=v4.Objects.getD (x1.Object:Int).toNat default
 let v10:Bool:=iD x0 x1.Object x1.Value
 let v11:gZ:=dW false
 let v12:List dQ:=v4.Objects.set (x1.Object:Int).toNat (dQ.mk (v4.Objects.getD (x1.Object:Int).toNat default).Kind x1.Value (v4.Objects.getD (x1.Object:Int).toNat default).Ext (v4.Objects.getD (x1.Object:Int).toNat default).Props (v4.Objects.getD (x1.Object:Int).toNat default).Target (v4.Objects.getD (x1.Object:Int).toNat default).Handler (v4.Objects.getD (x1.Object:Int).toNat default).Text (v4.Objects.getD (x1.Object:Int).toNat default).Calls (v4.Objects.getD (x1.Object:Int).toNat default).Makes)
 let v13:gZ:=dW true
 let v14:dQ:=v4.Objects.getD (x1.Object:Int).toNat default
 let v15:gZ:=dW v14.Ext
 let v16:List dQ:=v4.Objects.set (x1.Object:Int).toNat (dQ.mk (v4.Objects.getD (x1.Object:Int).toNat default).Kind (v4.Objects.getD (x1.Object:Int).toNat default).fB false (v4.Objects.getD (x1.Object:Int).toNat default).Props (v4.Objects.getD (x1.Object:Int).toNat default).Target (v4.Objects.getD (x1.Object:Int).toNat default).Handler (v4.Objects.getD (x1.Object:Int).toNat default).Text (v4.Objects.getD (x1.Object:Int).toNat default).Calls (v4.Objects.getD (x1.Object:Int).toNat default).Makes)
 let v17:gZ:=dW true
 let v18:dQ:=v4.Objects.getD (x1.Object:Int).toNat default
 let v19:dM×Bool×Int:=dZ v18.Props x1.Key
 let v20:dQ:=v4.Objects.getD (x1.Object:Int).toNat default
 let v21:dM×Bool×Int:=dZ v20.Props x1.Key
 let v22:dQ:=v4.Objects.getD (x1.Object:Int).toNat default
 let v23:dM×Bool×Int:=fG v22.Ext x1.dY v21.2.1 v21.1
 let v24:gZ:=dW false
 let v25:dQ:=v4.Objects.getD (x1.Object:Int).toNat default
 let v26:List dJ×Int:=fC v25.Props x1.Key v23.1
 let v27:List dQ:=v4.Objects.set (x1.Object:Int).toNat (dQ.mk (v4.Objects.getD (x1.Object:Int).toNat default).Kind (v4.Objects.getD (x1.Object:Int).toNat default).fB (v4.Objects.getD (x1.Object:Int).toNat default).Ext v26.1 (v4.Objects.getD (x1.Object:Int).toNat default).Target (v4.Objects.getD (x1.Object:Int).toNat default).Handler (v4.Objects.getD (x1.Object:Int).toNat default).Text (v4.Objects.getD (x1.Object:Int).toNat default).Calls (v4.Objects.getD (x1.Object:Int).toNat default).Makes)
 let v28:gZ:=dW true
 let v29:dQ:=v4.Objects.getD (x1.Object:Int).toNat default
 let v30:dM×Bool×Int:=dZ v29.Props x1.Key
 let v31:gZ:=dW false
 let v32:dQ:=v4.Objects.getD (x1.Object:Int).toNat default
 let v33:List dJ×Int:=fK v32.Props x1.Key
 let v34:List dQ:=v4.Objects.set (x1.Object:Int).toNat (dQ.mk (v4.Objects.getD (x1.Object:Int).toNat default).Kind (v4.Objects.getD (x1.Object:Int).toNat default).fB (v4.Objects.getD (x1.Object:Int).toNat default).Ext v33.1 (v4.Objects.getD (x1.Object:Int).toNat default).Target (v4.Objects.getD (x1.Object:Int).toNat default).Handler (v4.Objects.getD (x1.Object:Int).toNat default).Text (v4.Objects.getD (x1.Object:Int).toNat default).Calls (v4.Objects.getD (x1.Object:Int).toNat default).Makes)
 let v35:gZ:=dW true
 let v36:dQ:=v4.Objects.getD (x1.Object:Int).toNat default
 let v37:List dL×Int:=jC v36.Props
 let v38:List dQ:=(v12.drop (0)).take (((jc dQ.enc v4.Objects):Int).toNat-0)
 let v39:List dQ:=(v16.drop (0)).take (((jc dQ.enc v4.Objects):Int).toNat-0)
 let v40:List dQ:=(v27.drop (0)).take (((jc dQ.enc v4.Objects):Int).toNat-0)
 let v41:List dQ:=(v34.drop (0)).take (((jc dQ.enc v4.Objects):Int).toNat-0)
 bif (iO v2 0) then ((dK.mk []),(gZ.mk 0 (dP.mk 0 0 [] 0) false false (dM.mk 0 (dP.mk 0 0 [] 0) (dP.mk 0 0 [] 0) (dP.mk 0 0 [] 0) false false false) [] 0 []),v2)
 else bif (iO v3 0) then ((dK.mk []),(gZ.mk 0 (dP.mk 0 0 [] 0) false false (dM.mk 0 (dP.mk 0 0 [] 0) (dP.mk 0 0 [] 0) (dP.mk 0 0 [] 0) false false false) [] 0 []),v3)
 else bif (dV x1.Method 1) then (v4,(gZ.mk 1 v5.fB false false (dM.mk 0 (dP.mk 0 0 [] 0) (dP.mk 0 0 [] 0) (dP.mk 0 0 [] 0) false false false) [] 0 []),0)
 else bif ((dV x1.Method 2)&&v7) then (v4,v8,0)
 else bif ((dV x1.Method 2)&&((!v9.Ext)||v10)) then (v4,v11,0)
 else bif (dV x1.Method 2) then ((dK.mk v38),v13,0)
 else bif (dV x1.Method 3) then (v4,v15,0)
 else bif (dV x1.Method 4) then ((dK.mk v39),v17,0)
 else bif (dV x1.Method 5) then (v4,(gZ.mk 1 (dP.mk 0 0 [] 0) false v19.2.1 v19.1 [] 0 []),0)
 else bif ((dV x1.Method 6)&&(!v23.2.1)) then (v4,v24,0)
 else bif ((dV x1.Method 6)&&(iO v26.2 0)) then (v4,(gZ.mk 3 (dP.mk 0 0 [] 0) false false (dM.mk 0 (dP.mk 0 0 [] 0) (dP.mk 0 0 [] 0) (dP.mk 0 0 [] 0) false false false) [] 2 [116,111,111,32,109,97,110,121]),0)
 else bif (dV x1.Method 6) then ((dK.mk v40),v28,0)
 else bif ((dV x1.Method 10)&&(v30.2.1&&(!v30.1.Configurable))) then (v4,v31,0)
 else bif (dV x1.Method 10) then ((dK.mk v41),v35,0)
 else (v4,(gZ.mk 1 (dP.mk 0 0 [] 0) false false (dM.mk 0 (dP.mk 0 0 [] 0) (dP.mk 0 0 [] 0) (dP.mk 0 0 [] 0) false false false) v37.1 0 []),0)
def sG (x0:dK):Nat->Bool->Int->(Bool×Bool×Bool)
 |0,_,_=>default
 |n+1,u1,u2=>
  let v3:dQ:=x0.Objects.getD (u2:Int).toNat default
  let v4:dQ:=x0.Objects.getD (u2:Int).toNat default
  let v5:dQ:=x0.Objects.getD (u2:Int).toNat default
  bif (!(decide ((u2:Int)<(jc dQ.enc x0.Objects)))) then (true,u1,default)
  else bif (((decide (((jc dJ.enc v3.Props):Int) > 100))&&(decide (((jc dJ.enc v4.Props):Int)<1020)))||(decide (((jc dJ.enc v5.Props):Int) > 1100))) then (false,default,true)
  else sG x0 n u1 (eG .i64 u2 1)
def EY (x0:dK):Bool:=
 let r1:Bool×Bool×Bool:=sG x0 (x0.Objects.length+1) false 0
 bif (((decide (((jc dQ.enc x0.Objects):Int) > 60))&&(decide (((jc dQ.enc x0.Objects):Int)<=4096)))||(decide (((jc dQ.enc x0.Objects):Int) > 5000))) then true
 else bif (!(dV (kP r1.1) 0)) then r1.2.2
 else false
end Go.Fw
end
section
namespace Go.Fw
structure Zj where
 v:List Int
 deriving DecidableEq,Inhabited
def Zj.enc (v:Zj):List AV:=[.sl (List.map abT v.v) false]
def Zj.av (v:Zj):AV:=.agg v.enc
theorem Zj.jZ (v:Zj):Go.Fw.jZ v.enc=true:=fM (WV RG _) (Xq)
theorem Zj.fz (v:Zj):v.av.fz=true:=Zj.jZ v
end Go.Fw
end
section
namespace Go.Fw
end Go.Fw
end
