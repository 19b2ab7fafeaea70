
import Derived.Test.YtlnenmklgkgaeaaFwH
import Derived.Test.YtlnenmklgkgaeaaRows
import Derived.Test.YtlnenmklgkgaeaaFwF
set_option linter.unusedVariables false
set_option linter.unusedSimpArgs false
set_option linter.unusedSectionVars false
set_option linter.unnecessarySimpa false
section
namespace Go.Fw
open Go.Proofs
set_option maxRecDepth 100000
def arz (h:dH)(i:Int):Int:=bif jk (lY h) 0 then lY h else bif (decide (i<0)||decide (i>=(h.Objects.length:Int))) then 2 else 0
def aCP (h:dH)(i:Int)(kP:AH)(nx0:Nat):CK:=fun r ah nx=>nx0<=nx/\(∀j,j<nx0->ah j=kP j)/\((arz h i≠0/\r=.gW [.agg alH,eI (arz h i)])\/
 (arz h i=0/\∃id,r=.gW [.agg (Qu (h.Objects.getD i.toNat default) id),eI 0]/\ah id=some (.rows 18 ((h.Objects.getD i.toNat default).Props.map dI.enc))/\nx0<=id/\id<nx))
def aBb (h:dH)(i:Int)(kP:AH)(nx0:Nat):MQ:=fun e M ah nx=>(e=.normal\/e=.ret)/\∃b4 v c,JB M 4=some (.op b4 18 0 0)/\ah b4=some (.rows 18 [v])/\v.length=18/\JB M 5=some (eI c)/\nx0<=nx/\(∀j,j<nx0->ah j=kP j)/\
 ((arz h i≠0/\v=alH/\c=arz h i)\/(arz h i=0/\∃id,v=Qu (h.Objects.getD i.toNat default) id/\c=0/\ah id=some (.rows 18 ((h.Objects.getD i.toNat default).Props.map dI.enc))/\nx0<=id/\id<nx))
theorem awj (h:dH)(i:Int)(hb:Fe [AV.sl (h.Objects.map dJ.enc) false])(ah:AH)(nx:Nat):CW Try.prog 29 [h.av,eI i] ah nx (aCP h i ah nx):=by
 obtain ⟨b44,ab2,atd⟩:=apc;obtain ⟨hob,hlb⟩:=ab1 hb;obtain ⟨ax9,atg,ath⟩:=axW;refine aef (M:=[(0,h.av),(1,eI i)]) (Q:=aBb h i ah nx) Try.func29 rfl (by decide) (Nat.le_of_ble_eq_true rfl) ⟨rfl,rfl,trivial⟩ ?_ ?_
 .refine iV (fH ?_);refine QX rfl rfl rfl rfl rfl ?_;refine QY rfl rfl rfl alJ atb ?_;refine Dj rfl rfl rfl rfl (iW rfl ?_);have h2:∀{k:Option qO},upd (upd ah nx (some (qO.rows 1 [h.enc]))) (nx+1) k nx=some (qO.rows 1 [h.enc]):=by intro k;rw [ayp (by omega)];exact gX rfl
  refine iV (iV (fH ?_));refine pG rfl rfl rfl rfl Es h2 rfl (v:=h.av) ⟨Nat.le_refl 1,rfl⟩ ?_;refine aee rfl rfl rfl rfl (ab4 h) (fun _ _ _ h=>h) (VK h) (.inr rfl) ?_;refine Dj rfl rfl rfl rfl (iW rfl ?_);refine iV (fH ?_);refine nJ rfl rfl rfl rfl (FP rfl rfl rfl rfl rfl (fun K h=>⟨rfl,h⟩) (iW rfl ?_));refine Ep rfl (fun hc=>?_) fun hc=>IJ ?_
  .refine iV (fH ?_);refine Y9 rfl rfl rfl rfl alJ atg ath (nJ rfl rfl rfl rfl ?_);refine IK rfl rfl rfl rfl rfl XF (gX rfl) rfl rfl rfl (Nat.le_refl 18) ?_;refine Dj rfl rfl rfl rfl (iW rfl ?_);have hC:arz h i=lY h:=(by unfold arz;rw [show jk (lY h) 0=true from hc];rfl);refine NC ⟨.inr rfl,nx+1,alH,lY h,rfl,gX rfl,rfl,rfl,by omega,fun j hj=>?_,.inl ⟨?_,rfl,hC.symm⟩⟩
   .rw [ayp (by omega),ayp (by omega),ayp (by omega)]
   .rw [hC];exact aa2.1 hc
  have hC0:lY h=0:=by simpa using hc
  clear hc;refine Pm [(1,eI i),(2,.op nx 1 0 0),(4,.op (nx+1) 18 0 0)] ⟨rfl,rfl,rfl,trivial⟩ ?_;have hout:∀{M:MT} {n:Nat},(decide (i<0)||decide (i>=(h.Objects.length:Int)))=true->ML M [(4,.op (nx+1) 18 0 0)]->nx<=n->JB M 5=some (eI 2)->
    aBb h i ah nx .ret M (upd (upd (upd ah nx (some (qO.rows 1 [h.enc]))) (nx+1) (some (qO.rows 18 [alH]))) (nx+1) (some (qO.rows 18 [alH]))) n:=by
   intro M n hc hM hn h5;have hC:arz h i=2:=(by unfold arz;rw [hC0,hc];rfl);refine ⟨.inr rfl,nx+1,alH,2,hM.1,gX rfl,rfl,h5,hn,fun j hj=>?_,.inl ⟨by rw [hC];decide,rfl,hC.symm⟩⟩;rw [ayp (by omega),ayp (by omega),ayp (by omega)]
  refine iV (iV (fH ?_));refine nJ rfl rfl rfl rfl (FP rfl rfl rfl rfl rfl (fun K h=>⟨rfl,h⟩) (nJ rfl rfl rfl rfl ?_));cases hlt:decide (i<0) with
  |true=>
   refine aec rfl rfl rfl (aec rfl rfl rfl (aec rfl rfl rfl (aec rfl rfl rfl (aec rfl rfl rfl ?_))));refine abU rfl rfl rfl rfl rfl (iW rfl ?_);refine Ep rfl (fun _=>?_) fun h=>by cases h
   refine iV (fH ?_);refine Y9 rfl rfl rfl rfl alJ atg ath ?_;refine IK rfl rfl rfl rfl rfl XF (gX rfl) rfl rfl rfl (Nat.le_refl 18) ?_;refine Dj rfl rfl rfl rfl (iW rfl ?_);exact NC (hout (by rw [hlt];rfl) ⟨rfl,trivial⟩ (by omega) rfl)
  |false=>
  refine nJ rfl rfl rfl rfl ?_;refine yI rfl rfl rfl rfl FQ rfl ?_;refine pG rfl rfl rfl rfl Vl h2 rfl (v:=.sl (h.Objects.map dJ.enc) false) rfl ?_;refine QW rfl rfl rfl rfl rfl (alC abX) (FP rfl rfl rfl rfl rfl (fun K h=>⟨rfl,h⟩) ?_);refine abU rfl rfl rfl rfl rfl (iW rfl ?_);refine Ep rfl (fun hc=>?_) fun hc=>IJ ?_
  .refine iV (fH ?_);refine Y9 rfl rfl rfl rfl alJ atg ath ?_;refine IK rfl rfl rfl rfl rfl XF (gX rfl) rfl rfl rfl (Nat.le_refl 18) ?_;refine Dj rfl rfl rfl rfl (iW rfl ?_);rw [List.length_map] at hc;exact NC (hout (by rw [hlt];exact hc) ⟨rfl,trivial⟩ (by omega) rfl)
  rw [List.length_map] at hc;have h0:0<=i:=by simpa using hlt
  have h1:i<(h.Objects.length:Int):=by
   have:=of_decide_eq_false hc;omega
  have hC:arz h i=0:=by unfold arz;rw [hC0,hlt,show decide (i>=(h.Objects.length:Int))=false from hc];rfl
  refine Pm [(1,eI i),(2,.op nx 1 0 0),(4,.op (nx+1) 18 0 0)] ⟨rfl,rfl,rfl,trivial⟩ ?_;have hlt':i.toNat<h.Objects.length:=by omega
  have hg:h.Objects[i.toNat]?=some (h.Objects.getD i.toNat default):=by rw [List.getD_eq_getElem?_getD,List.getElem?_eq_getElem hlt'];rfl
  have hmem:h.Objects.getD i.toNat default∈h.Objects:=List.mem_of_getElem? hg;obtain ⟨o,hoe⟩:∃o,h.Objects.getD i.toNat default=o:=⟨_,rfl⟩;rw [hoe] at hg hmem;refine iV (fH ?_);refine yI rfl rfl rfl rfl FQ rfl ?_;refine pG rfl rfl rfl rfl Vl h2 rfl (v:=.sl (h.Objects.map dJ.enc) false) rfl ?_;refine nJ rfl rfl rfl rfl ?_;refine axT rfl rfl rfl rfl rfl ab2 h0 (row:=o.enc) (by simp [hg]) rfl ?_;refine axS rfl rfl rfl rfl XF (v:=o.av) ⟨Nat.le_refl 18,rfl⟩ ?_;refine Vk rfl rfl rfl ((azn o (hob o hmem) _ _).mono fun r Vm n1 hr=>?_);obtain ⟨id,rfl,q1,q2,q3,q4⟩:=hr;have e4:Vm (nx+1)=some (.rows 18 [alH]):=by rw [q4 _ (by omega)];exact gX rfl
  refine IK rfl rfl rfl rfl rfl XF e4 rfl rfl rfl (Nat.le_refl 18) ?_;refine Dj rfl rfl rfl rfl (iW rfl ?_);refine NC ⟨.inr rfl,nx+1,Qu o id,0,rfl,gX rfl,by simp [Qu,dJ.enc],rfl,by omega,fun j hj=>?_,.inr ⟨hC,id,?_,rfl,?_,by omega,by omega⟩⟩
  .rw [ayp (by omega),q4 _ (by omega),ayp (by omega),ayp (by omega)]
  .rw [hoe]
  .rw [hoe,ayp (by omega)];exact q3
 .intro e M fr dV nx' hf hq;obtain ⟨he,b4,v,c,h4,hb4,hv,h5,hnx,hlo,hq⟩:=hq;refine ⟨he,dG.2 ⟨_,hf.get _ _ h4,dG.2 ⟨_,XF,?_⟩⟩⟩;dsimp only;rw [hb4];refine ⟨rfl,dG.2 ⟨_,rfl,?_⟩⟩;refine ⟨by simp [hv],?_⟩;have ev:((v.drop 0).take 18)=v:=by rw [List.drop_zero,List.take_of_length_le (by omega)]
  refine dG.2 ⟨_,hf.get _ _ h5,hnx,hlo,?_⟩;rw [ev];rcases hq with ⟨q1,rfl,rfl⟩|⟨q1,id,rfl,rfl,q2⟩
  .exact .inl ⟨q1,rfl⟩
  .exact .inr ⟨q1,id,rfl,q2⟩
theorem JC.swap {F:List (dJ×Nat)}{b n0 nx nx' k:Nat}{ah dV:AH}{o:dJ}{id:Nat}(h:JC F [] b ah n0 nx)(hk:k<F.length)(hn:nx<=nx')(hb:dV b=some (.rows 18 ((F.map wS).set k (Qu o id))))(ha:∀e∈F,dV e.2=ah e.2)
  (hi:dV id=some (.rows 18 (o.Props.map dI.enc))) (h1:nx<=id) (h2:id<nx'):JC (F.set k (o,id)) [] b dV n0 nx':=by
 have hlo:=h.lo;have hhi:=h.hi;refine ⟨?_,h.lo,by omega,fun e he=>?_,?_⟩
 .rw [hb];have:(F.set k (o,id)).map wS=(F.map wS).set k (Qu o id):=by rw [List.map_set];rfl
  rw [this];simp
 .rcases List.mem_or_eq_of_mem_set he with he|rfl
  .have:=h.blk e he;exact ⟨by rw [ha e he];exact this.1,this.2.1,by omega,this.2.2.2⟩
  .exact ⟨hi,by show n0<=id;omega,h2,by show id≠b;omega⟩
 .have hlt:∀a∈F.map (·.2),a<nx:=fun a ha=>by
   obtain ⟨e,he,rfl⟩:=List.mem_map.1 ha;exact (h.blk e he).2.2.1
  rw [List.map_set];have e1:F.map (·.2)=(F.map (·.2)).take k++(F.map (·.2)).drop k:=(List.take_append_drop k _).symm;have hkl:k<(F.map (·.2)).length:=by simpa using hk
  have hnd:=h.nd;revert hnd hlt hkl;generalize F.map (·.2)=l;intro hlt hkl hnd;rw [List.set_eq_take_append_cons_drop,if_pos hkl];have e2:l=l.take k++l[k]::l.drop (k+1):=by rw [<- List.drop_eq_getElem_cons hkl,List.take_append_drop]
  rw [e2] at hnd;rw [List.nodup_append] at hnd ⊢;obtain ⟨n1,n2,n3⟩:=hnd;obtain ⟨n4,n5⟩:=List.nodup_cons.1 n2;refine ⟨n1,List.nodup_cons.2 ⟨fun hm=>?_,n5⟩,fun a ha b hb=>?_⟩
  .have:=hlt _ (List.mem_of_mem_drop hm);simp at this;omega
  .rcases List.mem_cons.1 hb with rfl|hb
   .have:=hlt _ (List.mem_of_mem_take ha);simp;omega
   .exact n3 a ha b (List.mem_cons_of_mem _ hb)
def atZ (h:dH)(i:Int)(o:dJ):Int:=bif jk (arz h i) 0 then arz h i else lY ⟨h.Objects.set i.toNat o⟩
def aCQ (h:dH)(i:Int)(o:dJ)(kP:AH)(nx0:Nat):CK:=fun r ah nx=>nx0<=nx/\(∀j,j<nx0->ah j=kP j)/\((atZ h i o≠0/\r=.gW [.agg [.sl [] true],eI (atZ h i o)])\/
 (atZ h i o=0/\∃F b,r=.gW [.agg [.os b 18 0 F.length],eI 0]/\JC F [] b ah nx0 nx/\F.map (·.1)=h.Objects.set i.toNat o))
def aCR (h:dH)(i:Int)(o:dJ)(kP:AH)(nx0:Nat):MQ:=fun e M ah nx=>(e=.normal\/e=.ret)/\∃b6 v c,JB M 6=some (.op b6 1 0 0)/\ah b6=some (.rows 1 [[v]])/\JB M 7=some (eI c)/\nx0<=nx/\(∀j,j<nx0->ah j=kP j)/\
 ((atZ h i o≠0/\v=.sl [] true/\c=atZ h i o)\/(atZ h i o=0/\∃F b,v=.os b 18 0 F.length/\c=0/\JC F [] b ah nx0 nx/\F.map (·.1)=h.Objects.set i.toNat o))
def ptT (o:dJ)(F:List (dJ×Nat))(k b nx0:Nat)(kP:AH)(L4 L6:Bool)(M:MT)(ah:AH)(nx:Nat):Prop:=
 (L4=false/\L6=false/\∀j,j<nx0->ah j=kP j)\/
 (L4=true/\L6=false/\(∀j,j<nx0->ah j=kP j)/\∃id,JB M 28=some (.agg (Qu o id))/\ah id=some (.rows 18 (o.Props.map dI.enc))/\nx0<=id/\id<nx)\/
 (L4=true/\L6=true/\(∀j,j<nx0->j≠b->ah j=kP j)/\∃id,ah b=some (.rows 18 ((F.map wS).set k (Qu o id)))/\ah id=some (.rows 18 (o.Props.map dI.enc))/\nx0<=id/\id<nx)
theorem ptT.keep {o:dJ}{F:List (dJ×Nat)}{k b nx0:Nat}{kP:AH}{L4 L6:Bool}{M M':MT}{ah:AH}{nx nx':Nat}(h:ptT o F k b nx0 kP L4 L6 M ah nx)(h28:JB M' 28=JB M 28)(hn:nx<=nx'):ptT o F k b nx0 kP L4 L6 M' ah nx':=by
 unfold ptT at h ⊢;rw [h28];rcases h with h|⟨a,b,c,id,d,e,f,g⟩|⟨a,b,c,id,d,e,f,g⟩
 .exact .inl h
 .exact .inr (.inl ⟨a,b,c,id,d,e,f,by omega⟩)
 .exact .inr (.inr ⟨a,b,c,id,d,e,f,by omega⟩)
def ptS (o:dJ)(F:List (dJ×Nat))(k b b10 nx0:Nat)(M0:MT)(kP:AH):(Nat->Bool)->MT->AH->Nat->Prop:=fun L M ah nx=>
 ML M M0/\(L 0=true->JB M 24=some (.op b10 1 0 0))/\(L 1=true->JB M 25=some (.os b 18 0 F.length))/\(L 2=true->JB M 26=some (eI k))/\(L 3=true->JB M 27=some o.av)/\(L 5=true->JB M 29=some (.op b 18 k 0))/\nx0<=nx/\
 ptT o F k b nx0 kP (L 4) (L 6) M ah nx
def ptM (i:Int)(b5 b6 b10:Nat):MT:=[(1,eI i),(5,.op b5 18 0 0),(6,.op b6 1 0 0),(10,.op b10 1 0 0)]
theorem aFY (h:dH)(i:Int)(o:dJ)(hb:Fe [AV.sl (h.Objects.map dJ.enc) false])(ho':o.Props.length<=4294967296)(ah:AH)(nx:Nat):CW Try.prog 31 [h.av,eI i,o.av] ah nx (aCQ h i o ah nx):=by
 obtain ⟨b44,ab2,atd⟩:=apc;obtain ⟨hob,hlb⟩:=ab1 hb;obtain ⟨ax7,ate,atf⟩:=awh;refine aef (M:=[(0,h.av),(1,eI i),(2,o.av)]) (Q:=aCR h i o ah nx) Try.func31 rfl (by decide) (Nat.le_of_ble_eq_true rfl) ⟨rfl,rfl,rfl,trivial⟩ ?_ ?_
 .refine iV (fH ?_);refine QX rfl rfl rfl rfl rfl (QX rfl rfl rfl rfl rfl ?_);refine QY rfl rfl rfl afT alK ?_;refine Dj rfl rfl rfl rfl (iW rfl ?_);have h3:∀{k1 k2:Option qO},upd (upd (upd ah nx (some (qO.rows 1 [h.enc]))) (nx+1) k1) (nx+1+1) k2 nx=some (qO.rows 1 [h.enc]):=by intro k1 k2;rw [ayp (by omega),ayp (by omega)];exact gX rfl
  have h5:∀{k:Option qO},upd (upd (upd ah nx (some (qO.rows 1 [h.enc]))) (nx+1) (some (qO.rows 18 [o.enc]))) (nx+1+1) k (nx+1)=some (qO.rows 18 [o.enc]):=by intro k;rw [ayp (by omega)];exact gX rfl
  have h6:upd (upd (upd ah nx (some (qO.rows 1 [h.enc]))) (nx+1) (some (qO.rows 18 [o.enc]))) (nx+1+1) (some (qO.rows 1 [[.sl [] true]])) (nx+1+1)=some (qO.rows 1 [[.sl [] true]]):=gX rfl;have hlo0:∀{k1 k2 k3:Option qO} {j:Nat},j<nx->upd (upd (upd ah nx k1) (nx+1) k2) (nx+1+1) k3 j=ah j:=by intro k1 k2 k3 j hj;rw [ayp (by omega),ayp (by omega),ayp (by omega)]
  refine iV (Nz (fun M dV nx'=>∃c,ML M [(1,eI i),(3,.op nx 1 0 0),(5,.op (nx+1) 18 0 0),(6,.op (nx+1+1) 1 0 0),(9,eI c)]/\c=arz h i/\nx+3<=nx'/\∀j,j<nx+3->dV j=upd (upd (upd ah nx (some (qO.rows 1 [h.enc]))) (nx+1) (some (qO.rows 18 [o.enc]))) (nx+1+1) (some (qO.rows 1 [[.sl [] true]])) j) (fH ?_) fun M Vm n1 hK=>?_)
  .refine pG rfl rfl rfl rfl Es h3 rfl (v:=h.av) ⟨Nat.le_refl 1,rfl⟩ ?_;refine nJ rfl rfl rfl rfl ?_;refine Vk rfl rfl rfl ((awj h i hb _ _).mono fun r Vm n1 hr=>?_);obtain ⟨q1,q2,hr⟩:=hr;obtain ⟨v,c,rfl,hv,rfl⟩:∃v c,r=.gW [.agg v,eI c]/\v.length=18/\c=arz h i:=by
    rcases hr with ⟨-,rfl⟩|⟨e,id,rfl,-⟩
    .exact ⟨_,_,rfl,rfl,rfl⟩
    .exact ⟨_,_,rfl,by simp [Qu,dJ.enc],e.symm⟩
   refine nJ rfl rfl rfl rfl (aib rfl rfl rfl rfl rfl (aib rfl rfl rfl rfl rfl ?_));refine QY rfl rfl rfl alJ atb ?_;refine IK rfl rfl rfl rfl rfl XF (gX rfl) rfl hv rfl (Nat.le_refl 18) (Dj rfl rfl rfl rfl (iW rfl ?_));refine ⟨_,⟨rfl,rfl,rfl,rfl,rfl,trivial⟩,rfl,by omega,fun j hj=>?_⟩;rw [ayp (by omega),ayp (by omega)];exact q2 j (by omega)
  obtain ⟨c,hM,hc,hn1,hlo⟩:=hK;refine Pm _ hM ?_;clear hM;have h3:Vm nx=some (qO.rows 1 [h.enc]):=(hlo _ (by omega)).trans h3;have h5:Vm (nx+1)=some (qO.rows 18 [o.enc]):=(hlo _ (by omega)).trans h5;have h6:Vm (nx+1+1)=some (qO.rows 1 [[.sl [] true]]):=(hlo _ (by omega)).trans h6;have hlo1:∀j,j<nx->Vm j=ah j:=fun j hj=>(hlo j (by omega)).trans (hlo0 hj);clear hlo hlo0;refine iV (fH ?_);refine nJ rfl rfl rfl rfl (FP rfl rfl rfl rfl rfl (fun K h=>⟨rfl,h⟩) (iW rfl ?_));refine Ep rfl (fun hcc=>?_) fun hcc=>IJ ?_
  .refine iV (fH ?_);refine Y9 rfl rfl rfl rfl afT ate atf (nJ rfl rfl rfl rfl ?_);refine IK rfl rfl rfl rfl rfl Es h6 rfl rfl rfl (Nat.le_refl 1) ?_;refine Dj rfl rfl rfl rfl (iW rfl ?_);have hC:atZ h i o=c:=(by unfold atZ;rw [<- hc,show jk c 0=true from hcc];rfl);refine NC ⟨.inr rfl,nx+1+1,.sl [] true,c,rfl,gX rfl,rfl,by omega,fun j hj=>?_,.inl ⟨?_,rfl,hC.symm⟩⟩
   .rw [ayp (by omega)];exact hlo1 j hj
   .rw [hC];exact aa2.1 hcc
  have hc0:c=0:=by simpa using hcc
  have hof:arz h i=0:=hc.symm.trans hc0;clear hcc;have hC0:lY h=0/\0<=i/\i<(h.Objects.length:Int):=by
   unfold arz at hof;cases e1:jk (lY h) 0 with
   |true=>rw [e1] at hof;exact absurd hof (aa2.1 e1)|false=>
    rw [e1] at hof;simp only [cond_false] at hof;cases e2:(decide (i<0)||decide (i>=(h.Objects.length:Int))) with
    |true=>rw [e2] at hof;cases hof
    |false=>
     rw [Bool.or_eq_false_iff] at e2;have a1:=of_decide_eq_false e2.1;have a2:=of_decide_eq_false e2.2;exact ⟨Ii.1 e1,by omega,by omega⟩
  obtain ⟨hC0,hi0,hi1⟩:=hC0;have hC:atZ h i o=lY ⟨h.Objects.set i.toNat o⟩:=by unfold atZ;rw [hof];rfl
  obtain ⟨k,rfl⟩:∃k:Nat,i=k:=⟨i.toNat,by omega⟩;rw [Int.toNat_natCast] at hC;refine Nz (fun M dV nx'=>∃b10 F b,ML M (ptM k (nx+1) (nx+1+1) b10)/\(∀j,j<nx+3->dV j=Vm j)/\JC F [] b dV (nx+3) b10/\F.map (·.1)=h.Objects/\dV b10=some (.rows 1 [[.os b 18 0 F.length]])/\b10<nx') (fH ?_) fun M dV nx' hK=>?_
  .refine pG rfl rfl rfl rfl Es h3 rfl (v:=h.av) ⟨Nat.le_refl 1,rfl⟩ ?_;refine Vk rfl rfl rfl ((XG h hb _ _).mono fun r Vm n1 hr=>?_);obtain ⟨F,b,rfl,hF,hFe,hold⟩:=hr;have g1:=hF.lo;have g2:=hF.hi;refine QY rfl rfl rfl afT alK ?_;refine IK rfl rfl rfl rfl rfl Es (gX rfl) rfl rfl rfl (Nat.le_refl 1) (iW rfl ?_);have hF':JC F [] b Vm (nx+3) n1:=⟨hF.out,by omega,hF.hi,fun e he=>⟨(hF.blk e he).1,by have:=(hF.blk e he).2.1;omega,(hF.blk e he).2.2⟩,hF.nd⟩;refine ⟨n1,F,b,⟨rfl,rfl,rfl,rfl,trivial⟩,fun j hj=>?_,hF'.frame (Nat.le_refl _) fun j _ hj=>?_,hFe,gX rfl,by omega⟩
   .rw [ayp (by omega),ayp (by omega)];exact hold j (by omega)
   .rw [ayp (by omega),ayp (by omega)]
  obtain ⟨b10,F,b,hM,hlo,hF,hFe,h10,aBd⟩:=hK;refine Pm _ hM ?_;clear hM;have g1:=hF.lo;have g2:=hF.hi;have hFl:F.length=h.Objects.length:=by rw [<- hFe,List.length_map]
  have hkF:k<F.length:=by omega
  have h5':dV (nx+1)=some (qO.rows 18 [o.enc]):=(hlo _ (by omega)).trans h5;refine Nz (fun M ah2 nx2=>∃F2,ML M (ptM k (nx+1) (nx+1+1) b10)/\(∀j,j<nx+3->ah2 j=dV j)/\JC F2 [] b ah2 (nx+3) nx2/\F2.map (·.1)=h.Objects.set k o/\ah2 b10=some (.rows 1 [[.os b 18 0 F2.length]])/\b10<nx2)
   (awg oJ rfl (by kernel_rfl) (ptS o F k b b10 nx' (ptM k (nx+1) (nx+1+1) b10) dV) ⟨⟨rfl,rfl,rfl,rfl,trivial⟩,(fun h=>by cases h),(fun h=>by cases h),(fun h=>by cases h),(fun h=>by cases h),(fun h=>by cases h),Nat.le_refl _,.inl ⟨rfl,rfl,fun _ _=>rfl⟩⟩ (fun L M ah2 nx2 j op hS hj ho hd=>?_) (fun L M ah2 nx2 hS hall=>?_)) fun M ah2 nx2 hK=>?_
  .obtain ⟨hM,s0,s1,s2,s3,s5,hn2,hT⟩:=hS;have hlow:∀j,j<nx'->j≠b->ah2 j=dV j:=by
    intro j hj hjb;rcases hT with ⟨-,-,h⟩|⟨-,-,h,-⟩|⟨-,-,h,-⟩
    .exact h j hj
    .exact h j hj
    .exact h j hj hjb
   match j,ho,hd,hj with
   |0,ho,hd,hj=>
    obtain rfl:=Option.some.inj ho;refine yI rfl rfl rfl hM.2.2.2.1 FQ rfl (iW rfl ⟨rfl,hM,fun _=>rfl,fun hl=>s1 (by simpa using hl),fun hl=>s2 (by simpa using hl),fun hl=>s3 (by simpa using hl),fun hl=>s5 (by simpa using hl),by omega,?_⟩);have:=hT.keep (M':=uQ M (some 24) (.op b10 1 0 0)) (nx':=nx2+1) rfl (by omega);simpa using this
   |1,ho,hd,hj=>
    obtain rfl:=Option.some.inj ho;refine pG rfl rfl rfl (s0 (hd _ (.head _) rfl)) Vl ((hlow _ aBd (by omega)).trans h10) rfl (v:=.os b 18 0 F.length) rfl (iW rfl ⟨rfl,hM,fun hl=>s0 (by simpa using hl),fun _=>rfl,fun hl=>s2 (by simpa using hl),fun hl=>s3 (by simpa using hl),fun hl=>s5 (by simpa using hl),by omega,?_⟩);have:=hT.keep (M':=uQ M (some 25) (.os b 18 0 F.length)) (nx':=nx2+1) rfl (by omega);simpa using this
   |2,ho,hd,hj=>
    obtain rfl:=Option.some.inj ho;refine nJ rfl rfl rfl hM.1 (iW rfl ⟨rfl,hM,fun hl=>s0 (by simpa using hl),fun hl=>s1 (by simpa using hl),fun _=>rfl,fun hl=>s3 (by simpa using hl),fun hl=>s5 (by simpa using hl),by omega,?_⟩);have:=hT.keep (M':=uQ M (some 26) (eI k)) (nx':=nx2+1) rfl (by omega);simpa using this
   |3,ho,hd,hj=>
    obtain rfl:=Option.some.inj ho;refine pG rfl rfl rfl hM.2.1 XF ((hlow _ (by omega) (by omega)).trans h5') rfl (v:=o.av) ⟨Nat.le_refl 18,rfl⟩ (iW rfl ⟨rfl,hM,fun hl=>s0 (by simpa using hl),fun hl=>s1 (by simpa using hl),fun hl=>s2 (by simpa using hl),fun _=>rfl,fun hl=>s5 (by simpa using hl),by omega,?_⟩);have:=hT.keep (M':=uQ M (some 27) o.av) (nx':=nx2+1) rfl (by omega);simpa using this
   |4,ho,hd,hj=>
    obtain rfl:=Option.some.inj ho;refine Vk rfl rfl (azM (s3 (hd _ (.head _) rfl))) ((azn o ho' ah2 nx2).mono fun r ah3 n3 hr=>?_);obtain ⟨id,rfl,q1,q2,q3,q4⟩:=hr;refine iW rfl ⟨rfl,hM,fun hl=>s0 (by simpa using hl),fun hl=>s1 (by simpa using hl),fun hl=>s2 (by simpa using hl),fun hl=>s3 (by simpa using hl),fun hl=>s5 (by simpa using hl),by omega,?_⟩;rcases hT with ⟨a4,a6,hT⟩|⟨a4,-⟩|⟨a4,-⟩
    .have:ptT o F k b nx' dV true (L 6) (uQ M (some 28) (.agg (Qu o id))) ah3 n3:=.inr (.inl ⟨rfl,a6,fun j hj=>(q4 j (by omega)).trans (hT j hj),id,rfl,q3,by omega,q2⟩);simpa using this
    all_goals (rw [a4] at hj;cases hj)
   |5,ho,hd,hj=>
    obtain rfl:=Option.some.inj ho;refine Js rfl rfl rfl (s1 (hd _ (.head _) rfl)) (s2 (hd _ (.tail _ (.head _)) rfl)) ab2 (by omega) (by omega) rfl (iW rfl ⟨rfl,hM,fun hl=>s0 (by simpa using hl),fun hl=>s1 (by simpa using hl),fun hl=>s2 (by simpa using hl),fun hl=>s3 (by simpa using hl),fun _=>?_,by omega,?_⟩)
    .show some (AV.op b 18 (0+(k:Int).toNat) 0)=_;simp
    have:=hT.keep (M':=uQ M (some 29) (.op b 18 (0+(k:Int).toNat) 0)) (nx':=nx2+1) rfl (by omega);simpa using this
   |6,ho,hd,hj=>
    obtain rfl:=Option.some.inj ho;have l5:=hd _ (.head _) rfl;have l4:=hd _ (.tail _ (.head _)) rfl;rcases hT with ⟨a4,-⟩|⟨a4,a6,hT,id,q1,q2,q3,q4⟩|⟨-,a6,-⟩
    .rw [a4] at l4;cases l4
    .have eb:ah2 b=some (.rows 18 (F.map wS)):=(by rw [hT b (by omega)];simpa using hF.out);obtain ⟨e,he⟩:∃e,F[k]?=some e:=⟨F[k],by simp [hkF]⟩;have hrow:(F.map wS)[k]?=some (wS e):=(by simp [he]);refine IK rfl rfl rfl (s5 l5) q1 XF eb rfl rfl hrow (Nat.le_refl 18) (iW rfl ⟨rfl,hM,fun hl=>s0 (by simpa using hl),fun hl=>s1 (by simpa using hl),fun hl=>s2 (by simpa using hl),fun hl=>s3 (by simpa using hl),fun hl=>s5 (by simpa using hl),by omega,?_⟩);have:ptT o F k b nx' dV (L 4) true M (upd ah2 b (some (.rows 18 ((F.map wS).set k (Qu o id))))) (nx2+1):=
      .inr (.inr ⟨a4,rfl,fun j hj hjb=>by rw [ayp hjb];exact hT j hj,id,gX rfl,by rw [ayp (by omega)];exact q2,q3,by omega⟩)
     have t2:ptT o F k b nx' dV (L 4||4 == 6) (L 6||6 == 6) M (upd ah2 b (some (.rows 18 ((F.map wS).set k (Qu o id))))) (nx2+1):=(by simpa using this);exact t2
    .rw [a6] at hj;cases hj
   |n+7,ho,hd,hj=>cases ho
  .obtain ⟨hM,-,-,-,-,-,hn2,hT⟩:=hS;rcases hT with ⟨-,a6,-⟩|⟨-,a6,-⟩|⟨-,-,hT,id,q1,q2,q3,q4⟩
   .have:=hall 6 (by decide);rw [a6] at this;cases this
   .have:=hall 6 (by decide);rw [a6] at this;cases this
   .have hb':=hF.blk;refine ⟨F.set k (o,id),hM,fun j hj=>hT j (by omega) (by omega),hF.swap hkF (by omega) q1 (fun e he=>hT _ (by have:=(hb' e he).2.2.1;omega) (hb' e he).2.2.2) q2 (by omega) q4,by rw [List.map_set,hFe],?_,by omega⟩;rw [hT b10 (by omega) (by omega),List.length_set];exact h10
  .obtain ⟨F2,hM,hlo2,hF2,aqX,h10,aBd⟩:=hK;refine Pm _ hM ?_;clear hM;have h6:ah2 (nx+1+1)=some (.rows 1 [[.sl [] true]]):=(by rw [hlo2 _ (by omega),hlo _ (by omega)];exact h6);have axm:∀j,j<nx->ah2 j=ah j:=fun j hj=>by rw [hlo2 _ (by omega),hlo _ (by omega)];exact hlo1 j hj
   refine iV (iV (fH ?_));refine pG rfl rfl rfl rfl Es h10 rfl (v:=.agg [.os b 18 0 F2.length]) ⟨Nat.le_refl 1,rfl⟩ ?_;have hfz:=alO hF2;rw [aqX] at hfz;refine aee rfl rfl rfl rfl (avI hfz) (fun _ _ _ h=>h) (VK ⟨h.Objects.set k o⟩) (.inr rfl) ?_;refine Dj rfl rfl rfl rfl (iW rfl ?_);refine iV (fH ?_);refine nJ rfl rfl rfl rfl (FP rfl rfl rfl rfl rfl (fun K h=>⟨rfl,h⟩) (iW rfl ?_));refine Ep rfl (fun hc=>?_) fun hc=>IJ ?_
   .refine iV (fH ?_);refine Y9 rfl rfl rfl rfl afT ate atf (nJ rfl rfl rfl rfl ?_);refine IK rfl rfl rfl rfl rfl Es h6 rfl rfl rfl (Nat.le_refl 1) ?_;refine Dj rfl rfl rfl rfl (iW rfl ?_);refine NC ⟨.inr rfl,nx+1+1,.sl [] true,lY ⟨h.Objects.set k o⟩,rfl,gX rfl,rfl,by omega,fun j hj=>?_,.inl ⟨?_,rfl,hC.symm⟩⟩
    .rw [ayp (by omega)];exact axm j hj
    .rw [hC];exact aa2.1 hc
   .have hC1:lY ⟨h.Objects.set k o⟩=0:=(by simpa using hc);refine iV (fH ?_);refine pG rfl rfl rfl rfl Es h10 rfl (v:=.agg [.os b 18 0 F2.length]) ⟨Nat.le_refl 1,rfl⟩ ?_;refine IK rfl rfl rfl rfl rfl Es h6 rfl rfl rfl (Nat.le_refl 1) ?_;refine Dj rfl rfl rfl rfl (iW rfl ?_);have hF3:∀n,nx2<=n->JC F2 [] b (upd ah2 (nx+1+1) (some (.rows 1 [[.os b 18 0 F2.length]]))) nx n:=by
     intro n hn;have hg3:=hF2.lo;have hk:=hF2.frame (nx':=n) hn (dV:=upd ah2 (nx+1+1) (some (.rows 1 [[.os b 18 0 F2.length]]))) fun j hj _=>ayp (by omega);exact ⟨hk.out,by omega,hk.hi,fun e he=>⟨(hk.blk e he).1,by have:=(hk.blk e he).2.1;omega,(hk.blk e he).2.2⟩,hk.nd⟩
    refine NC ⟨.inr rfl,nx+1+1,.os b 18 0 F2.length,0,rfl,gX rfl,rfl,by omega,fun j hj=>?_,.inr ⟨hC.trans hC1,F2,b,rfl,rfl,?_,aqX⟩⟩
    .rw [ayp (by omega)];exact axm j hj
    .exact hF3 _ (by omega)
 .intro e M fr dV nx' hf hq;obtain ⟨he,b6,v,c,h6,hb6,h7,hnx,hlo,hq⟩:=hq;refine ⟨he,dG.2 ⟨_,hf.get _ _ h6,dG.2 ⟨_,Es,?_⟩⟩⟩;dsimp only;rw [hb6];refine ⟨rfl,dG.2 ⟨_,rfl,Nat.le_refl 1,?_⟩⟩;refine dG.2 ⟨_,hf.get _ _ h7,hnx,hlo,?_⟩;rcases hq with ⟨q1,rfl,rfl⟩|⟨q1,F,b,rfl,rfl,q2,q3⟩
  .exact .inl ⟨q1,rfl⟩
  .exact .inr ⟨q1,F,b,rfl,q2,q3⟩
end Go.Fw
end
section
namespace Go.Fw
theorem amw {h:dH}:lY h≠0->lY h=9:=by
 unfold lY;dsimp only;cases hl:decide (((jT dJ.enc h.Objects):Int) > 4096) with
 |true=>exact fun _=>rfl
 |false=>
  have e:=U2 (x0:=h) (abG hl) (h.Objects.length+1) 0 0 (Nat.zero_le _) (by omega);have e0:((0:Nat):Int)=0:=rfl;rw [e0] at e;rw [e];simp only [cond_false];split
  .have e2:(!dU (mg true) 0)=false:=rfl;simp only [e2,cond_false];cases qy h with
   |true=>exact fun _=>rfl
   |false=>exact fun h=>absurd rfl h
  .have e2:(!dU (mg false) 0)=true:=rfl;simp only [e2,cond_true]
   intros;trivial
theorem aoR (v:dL):aek v v=true:=by
 unfold aek;rw [rQ.2 rfl,rQ.2 rfl,MV];have:Dw v.Str v.Str=true:=by unfold Dw;simp
 rw [this];cases fEq v.Num v.Num<;>rfl
theorem at1 (d:dN):al6 d d=true:=by
 unfold al6;dsimp only;rw [aoR,aoR,aoR,rQ.2 rfl];have:∀b:Bool,Qy b b=true:=fun b=>by cases b<;>rfl
 rw [this,this,this];rfl
end Go.Fw
end
section
namespace Go.Fw
def OWg (o:dJ):Prop:=(∀p∈o.Props,p.dQ.ok)/\o.fA.ok/\o.Target.ok/\o.Handler.ok/\o.Props.length<=4294967296
theorem atr {h:dH}:HWg h↔∀o∈h.Objects,OWg o:=
 ⟨fun w o ho=>⟨w.wf.ps o ho,w.wf.pr o ho,(w.tg o ho).1,(w.tg o ho).2,w.pl o ho⟩,fun w=>⟨⟨fun o ho=>(w o ho).1,fun o ho=>(w o ho).2.1⟩,fun o ho=>⟨(w o ho).2.2.1,(w o ho).2.2.2.1⟩,fun o ho=>(w o ho).2.2.2.2⟩⟩
theorem owg {o:dJ}(w:o.wf):OWg o:=⟨fun p hp=>dok (w.Props.2 p hp).dQ,vok w.fA,vok w.Target,vok w.Handler,Nat.le_trans w.Props.1 (by decide)⟩
theorem awo {x0:dH}(hl:x0.Objects.length<=4294967296):∀(n j:Nat) (u:dH),j<=x0.Objects.length->x0.Objects.length-j<n->u.Objects=x0.Objects.take j->aia x0 n j u=x0
 |0,_,_,_,h,_=>by omega
 |n+1,j,u,hj,hn,hu=>by
  simp only [aia,jF];by_cases hlt:j<x0.Objects.length
  .have e1:(!decide ((j:Int)<(x0.Objects.length:Int)))=false:=(by rw [decide_eq_true (by omega)];rfl);rw [e1];simp only [cond_false];rw [G_ (by omega) (by omega)];have e3:((j:Int)+1)=((j+1:Nat):Int):=(by omega);rw [e3];refine awo hl n (j+1) _ (by omega) (by omega) ?_;show u.Objects++[adp (x0.Objects.getD (j:Int).toNat default)]=_;rw [hu,Int.toNat_natCast,List.take_add_one,List.getD_eq_getElem?_getD,List.getElem?_eq_getElem hlt];rfl
  .have e1:(!decide ((j:Int)<(x0.Objects.length:Int)))=true:=(by rw [decide_eq_false (by omega)];rfl);rw [e1];simp only [cond_true];rw [List.take_of_length_le (by omega)] at hu;obtain ⟨l⟩:=x0;obtain ⟨m⟩:=u;exact congrArg dH.mk hu
theorem at6 {h:dH}(hl:h.Objects.length<=4294967296):al7 h=h:=awo hl (h.Objects.length+1) 0 ⟨[]⟩ (Nat.zero_le _) (by omega) rfl
theorem awC {h:dH}(w:HWg h):aq4 h=lY h:=by
 unfold aq4;dsimp only;rw [ar_ w];by_cases hC:lY h=0
 .rw [hC];rfl
 .rw [amw hC];rfl
def asc (h:dH)(i:Int):Int:=bif jk (lY h) 0 then lY h else bif (decide (i<0)||decide (i>=(h.Objects.length:Int))) then 2 else 0
def avJ (h:dH)(o:dJ):Int:=bif jk (lY h) 0 then lY h else bif dU h.Objects.length 4096 then 4 else lY ⟨h.Objects++[o]⟩
def asC (h:dH)(i:Int)(o:dJ):Int:=bif jk (asc h i) 0 then asc h i else lY ⟨h.Objects.set i.toNat o⟩
def zG : dJ:=dJ.mk 0 (dL.mk 0 0 [] 0) false [] (dL.mk 0 0 [] 0) (dL.mk 0 0 [] 0) [] false false
theorem az2 {h:dH}{i:Int}(w:HWg h):ar6 h i=if asc h i=0 then (h.Objects.getD i.toNat default,0) else (zG,asc h i):=by
 unfold ar6 asc adp;dsimp only;rw [ar_ w,jF];by_cases hC:lY h=0
 .rw [hC];cases (decide (i<0)||decide (i>=(h.Objects.length:Int)))<;>rfl
 .rw [amw hC];rfl
theorem axX {h:dH}{o:dJ}(w:HWg h)(wo:OWg o)(hl:h.Objects.length<=4294967296):aq0 h o=if avJ h o=0 then (dH.mk (h.Objects++[o]),(h.Objects.length:Int),0) else (dH.mk [],0,avJ h o):=by
 have w2:HWg ⟨h.Objects++[o]⟩:=atr.2 fun x hx=>by
  rcases List.mem_append.1 hx with hx|hx
  .exact atr.1 w x hx
  .rw [List.mem_singleton.1 hx];exact wo
 unfold aq0 avJ;dsimp only;rw [at6 hl,ar_ w];show (bif !dU (lY h) 0 then (dH.mk [],(0:Int),(9:Int)) else bif decide (jT dJ.enc h.Objects>=4096) then (dH.mk [],(0:Int),(4:Int)) else bif !aeH (dH.mk (h.Objects++[o])) then (dH.mk [],(0:Int),(9:Int)) else (dH.mk (h.Objects++[o]),jT dJ.enc h.Objects,(0:Int)))=if (bif jk (lY h) 0 then lY h else bif dU h.Objects.length 4096 then 4 else lY (dH.mk (h.Objects++[o])))=0 then _ else _
 rw [ar_ w2,jF];by_cases hC:lY h=0
 .rw [hC];have h4:=(O9.1 hC).len;by_cases h5:h.Objects.length=4096
  .rw [h5];rfl
  .rw [decide_eq_false (show ¬((h.Objects.length:Int)>=4096) by omega),Cj.2 (show ((h.Objects.length:Nat):Int)≠4096 by omega)];by_cases hC2:lY ⟨h.Objects++[o]⟩=0
   .rw [hC2];rfl
   .rw [amw hC2];rfl
 .rw [amw hC];rfl
theorem axY {h:dH}{i:Int}{o:dJ}(w:HWg h)(wo:OWg o)(hl:h.Objects.length<=4294967296):aq1 h i o=if asC h i o=0 then (dH.mk (h.Objects.set i.toNat o),0) else (dH.mk [],asC h i o):=by
 have w2:HWg ⟨h.Objects.set i.toNat o⟩:=atr.2 fun x hx=>by
  rcases List.mem_or_eq_of_mem_set hx with hx|rfl
  .exact atr.1 w x hx
  .exact wo
 unfold aq1 asC asc;dsimp only;rw [at6 hl,ar_ w];have e:((h.Objects.set i.toNat (adp o)).drop 0).take ((jT dJ.enc h.Objects).toNat-0)=h.Objects.set i.toNat o:=by
  rw [jF,List.drop_zero,List.take_of_length_le (by simp)];rfl
 rw [e,ar_ w2,jF];by_cases hC:lY h=0
 .rw [hC];cases (decide (i<0)||decide (i>=(h.Objects.length:Int))) with
  |true=>rfl|false=>
   by_cases hC2:lY ⟨h.Objects.set i.toNat o⟩=0
   .rw [hC2];rfl
   .rw [amw hC2];rfl
 .rw [amw hC];rfl
theorem axn {o:dJ}(hl:o.Props.length<=4294967296):∀(n j:Nat) {u:Bool},j<=o.Props.length->o.Props.length-j<n->(afB o o n u j).1=true
 |0,j,_,_,h=>by omega
 |n+1,j,u,hj,hn=>by
  simp only [afB,jF];by_cases hlt:j<o.Props.length
  .have e1:(!decide ((j:Int)<(o.Props.length:Int)))=false:=(by rw [decide_eq_true (by omega)];rfl);rw [e1,at1];have s:∀k:dP,(!((Dw k.Str k.Str)&&(dU k.Sym k.Sym)))=false:=fun k=>by rw [rQ.2 rfl];unfold Dw;simp
   rw [s];simp only [cond_false,Bool.not_true,Bool.or_false];rw [G_ (by omega) (by omega)];have e3:((j:Int)+1)=((j+1:Nat):Int):=(by omega);rw [e3];exact axn hl n (j+1) (by omega) (by omega)
  .have e1:(!decide ((j:Int)<(o.Props.length:Int)))=true:=(by rw [decide_eq_false (by omega)];rfl);rw [e1];rfl
theorem at7 {o:dJ}(hl:o.Props.length<=4294967296):agv o o=true:=by
 unfold agv;dsimp only;have h:=axn hl (o.Props.length+1) 0 (u:=false) (Nat.zero_le _) (by omega);have e0:((0:Nat):Int)=0:=rfl;rw [e0] at h;have b:∀b:Bool,Qy b b=true:=fun b=>by cases b<;>rfl
 have t:sNe o.Text o.Text=false:=by unfold sNe;simp
 rw [h,aoR,aoR,aoR,b,b,b,t,Ii.2 rfl,Ii.2 rfl];rfl
theorem avL {x:dH}(hl:x.Objects.length<=4294967296)(hp:∀o∈x.Objects,o.Props.length<=4294967296):∀(n j:Nat) {u:Bool},j<=x.Objects.length->x.Objects.length-j<n->(alW x x n u j).1=true
 |0,j,_,_,h=>by omega
 |n+1,j,u,hj,hn=>by
  simp only [alW,jF];by_cases hlt:j<x.Objects.length
  .have e1:(!decide ((j:Int)<(x.Objects.length:Int)))=false:=(by rw [decide_eq_true (by omega)];rfl);have hm:x.Objects.getD (j:Int).toNat default∈x.Objects:=(by rw [Int.toNat_natCast,List.getD_eq_getElem?_getD,List.getElem?_eq_getElem hlt];exact List.getElem_mem hlt);rw [e1,at7 (hp _ hm)];simp only [cond_false,Bool.not_true];rw [G_ (by omega) (by omega)];have e3:((j:Int)+1)=((j+1:Nat):Int):=(by omega);rw [e3];exact avL hl hp n (j+1) (by omega) (by omega)
  .have e1:(!decide ((j:Int)<(x.Objects.length:Int)))=true:=(by rw [decide_eq_false (by omega)];rfl);rw [e1];rfl
theorem ash {x:dH}(hl:x.Objects.length<=4294967296)(hp:∀o∈x.Objects,o.Props.length<=4294967296):arn x x=true:=by
 unfold arn;dsimp only;have h:=avL hl hp (x.Objects.length+1) 0 (u:=false) (Nat.zero_le _) (by omega);have e0:((0:Nat):Int)=0:=rfl;rw [e0] at h;rw [h,Ii.2 rfl];rfl
end Go.Fw
end
section
namespace Go.Fw
open Go.Proofs
set_option maxRecDepth 100000
theorem avr {P:Program}{x y:Code}{N:Nat}{M:MT}{ah:AH}{nx:Nat}{Q:MQ}[iT](K K':MT->AH->Nat->Prop)(hk:∀M ah nx,K M ah nx->(∀M ah nx,K' M ah nx->Qg P y N M ah nx Q)->Qg P y N M ah nx Q)
 (h:Qg P x N M ah nx (alB K Q)) (h':∀M ah nx,K' M ah nx->Qg P y N M ah nx Q):Qg P (.seq x y) N M ah nx Q:=Nz K h fun M ah nx hK=>hk M ah nx hK h'
structure Cst (h:dH)(x:dJ)(b7 b8:Nat)(ah:AH)(n:Nat):Prop where
 a0:ah 0=some (.rows 1 [h.enc])
 a1:ah 1=some (.rows 18 [x.enc])
 a7:ah b7=some (.rows 1 [h.enc])
 a8:ah b8=some (.rows 18 [x.enc])
 l1:1<n
 l7:b7<n
 l8:b8<n
theorem Cst.frame {h:dH}{x:dJ}{b7 b8 n:Nat}{ah dV:AH}(c:Cst h x b7 b8 ah n)(ha:∀j,j<n->dV j=ah j):Cst h x b7 b8 dV n:=
 ⟨by rw [ha 0 (by have:=c.l1;omega)];exact c.a0,by rw [ha 1 c.l1];exact c.a1,by rw [ha _ c.l7];exact c.a7,by rw [ha _ c.l8];exact c.a8,c.l1,c.l7,c.l8⟩
structure avM (F:List (dJ×Nat))(b bb:Nat)(ah:AH)(n0 n1:Nat):Prop where
 fam:JC F [] b ah n0 n1
 box:ah bb=some (.rows 1 [[.os b 18 0 F.length]])
 lo:n0<=bb
 hi:bb<n1
 ne:bb≠b
 ni:∀e∈F,bb≠e.2
theorem avM.frame {F:List (dJ×Nat)}{b bb n0 n1:Nat}{ah dV:AH}(c:avM F b bb ah n0 n1)(ha:∀j,n0<=j->j<n1->dV j=ah j):avM F b bb dV n0 n1:=
 ⟨c.fam.frame (Nat.le_refl _) ha,by rw [ha _ c.lo c.hi];exact c.box,c.lo,c.hi,c.ne,c.ni⟩
theorem avM.jE {F:List (dJ×Nat)}{b bb n0 n1:Nat}{ah:AH}(c:avM F b bb ah n0 n1){N:List dJ}(hN:F.map (·.1)=N):Go.Fw.jE (nR ah ayw) (.os b 18 0 F.length)=some (.sl (N.map dJ.enc) false):=by
 have:=alO c.fam;rw [hN] at this;exact this
structure asD (o:dJ)(id bb:Nat)(ah:AH)(n0 n1:Nat):Prop where
 box:ah bb=some (.rows 18 [Qu o id])
 blk:ah id=some (.rows 18 (o.Props.map dI.enc))
 lo:n0<=bb
 hi:bb<n1
 li:n0<=id
 hii:id<n1
 ne:bb≠id
theorem asD.frame {o:dJ}{id bb n0 n1:Nat}{ah dV:AH}(c:asD o id bb ah n0 n1)(ha:∀j,n0<=j->j<n1->dV j=ah j):asD o id bb dV n0 n1:=
 ⟨by rw [ha _ c.lo c.hi];exact c.box,by rw [ha _ c.li c.hii];exact c.blk,c.lo,c.hi,c.li,c.hii,c.ne⟩
theorem asD.jE {o:dJ}{id bb n0 n1:Nat}{ah:AH}(c:asD o id bb ah n0 n1):Go.Fw.jE (nR ah ayw) (.agg (Qu o id))=some o.av:=by
 have hpc:fJ (o.Props.map dI.enc)=true:=gQ (Ui dI.fU);have h1:=IW c.blk hpc ayw;have h2:Go.Fw.jE (nR ah ayw) (.os id 18 0 (o.Props.map dI.enc).length)=some (.sl (o.Props.map dI.enc) false):=by simp [Go.Fw.jE,h1,hpc,List.take_of_length_le]
 show (lI _ (Qu o id)).map AV.agg=_;rw [alN h2];rfl
theorem asa {ah:AH}(o:dJ):jE ah o.av=some o.av:=acO (dJ.fz o)
theorem axo {ah:AH}{a x b y:AV}(h:jE ah a=some x)(h2:jE ah b=some y):lI ah [a,b]=some [x,y]:=by simp only [lI,h,h2,Option.bind_some,Option.map_some]
theorem aCT {ah:AH}{a x b y c z:AV}(h:jE ah a=some x)(h2:jE ah b=some y)(h3:jE ah c=some z):lI ah [a,b,c]=some [x,y,z]:=by simp only [lI,h,h2,h3,Option.bind_some,Option.map_some]
theorem arD (h:dH):h.av.clean=true:=aac (dH.fz h)
theorem asB (o:dJ):o.av.clean=true:=aac (dJ.fz o)
theorem aua {t:TypeId}{c:Bool}{k:IntKind}(a:Int):∀K:AV->Prop,K (.p (.bool false))->Gf Try.prog .neq t c (.p (.int k a)) (.p (.int k a)) K:=fun K h=>⟨rfl,by simpa using h⟩
theorem aBf {h:dH}{o:dJ}(q:avJ h o=0):lY ⟨h.Objects++[o]⟩=0:=by
 unfold avJ at q;cases e1:jk (lY h) 0 with
 |true=>rw [e1] at q;exact absurd q (aa2.1 e1)|false=>
  rw [e1] at q;cases e2:dU (h.Objects.length:Int) 4096 with
  |true=>rw [e2] at q;cases q
  |false=>rw [e2] at q;exact q
theorem az3 {h:dH}{i:Int}{o:dJ}(q:asC h i o=0):lY ⟨h.Objects.set i.toNat o⟩=0:=by
 unfold asC at q;cases e1:jk (asc h i) 0 with
 |true=>rw [e1] at q;exact absurd q (aa2.1 e1)|false=>rw [e1] at q;exact q
def cM (n:Int)(b7 b8:Nat):MT:=[(2,eI n),(3,.op 0 1 0 0),(4,.op 1 18 0 0),(7,.op b7 1 0 0),(8,.op b8 18 0 0)]
theorem avu (h:dH)(x:dJ)(n:Int)(w:HWg h)(wx:OWg x)(hb:Fe [AV.sl (h.Objects.map dJ.enc) false]):∃c,Try.f7.body=some c/\Qg Try.prog c 143 [(0,h.av),(1,x.av),(2,eI n)] (fun _=>none) 0 (fun e M ah nx=>(e=.normal\/e=.ret)/\JB M 6=some (.p (.bool true))):=by
 refine ⟨_,rfl,?_⟩;obtain ⟨hob,hlb⟩:=ab1 hb;obtain ⟨b52,aqT,atc⟩:=apd;obtain ⟨ax_,ati⟩:=aqR;have hxp:x.Props.length<=4294967296:=wx.2.2.2.2;refine iV (fH ?_);refine QX rfl rfl rfl rfl rfl (QX rfl rfl rfl rfl rfl ?_);refine Dj rfl rfl rfl rfl (iW rfl ?_);have h0:upd (upd (fun _=>none) 0 (some (qO.rows 1 [h.enc]))) 1 (some (qO.rows 18 [x.enc])) 0=some (qO.rows 1 [h.enc]):=by rw [ayp (by decide)];exact gX rfl
 have h1:upd (upd (fun _=>none) 0 (some (qO.rows 1 [h.enc]))) 1 (some (qO.rows 18 [x.enc])) 1=some (qO.rows 18 [x.enc]):=gX rfl;refine iV (iV (fH ?_));refine pG rfl rfl rfl rfl Es h0 rfl (v:=h.av) ⟨Nat.le_refl 1,rfl⟩ ?_;refine aee rfl rfl rfl rfl (ab4 h) (fun _ _ _ h=>h) (Vg h) (.inr rfl) ?_;refine nJ rfl rfl rfl rfl ?_;cases IE h with
 |true=>
  refine aec rfl rfl rfl (aec rfl rfl rfl (aec rfl rfl rfl (aec rfl rfl rfl ?_)));refine abU rfl rfl rfl rfl rfl (iW rfl ?_);refine Ep rfl (fun _=>?_) fun h=>by cases h
  refine iV (fH ?_);exact Dj rfl rfl rfl rfl (iW rfl (NC ⟨.inr rfl,rfl⟩))
 |false=>
 refine yI rfl rfl rfl rfl QZ rfl ?_;refine pG rfl rfl rfl rfl afS h1 rfl (v:=.sl (x.Props.map dI.enc) false) rfl ?_;refine QW rfl rfl rfl rfl rfl (alC apb) (FP rfl rfl rfl rfl rfl (fun K h=>⟨rfl,h⟩) ?_);refine abU rfl rfl rfl rfl rfl (iW rfl ?_);refine Ep rfl (fun _=>?_) fun _=>IJ ?_
 .refine iV (fH ?_);exact Dj rfl rfl rfl rfl (iW rfl (NC ⟨.inr rfl,rfl⟩))
 refine Pm [(2,eI n),(3,.op 0 1 0 0),(4,.op 1 18 0 0)] ⟨rfl,rfl,rfl,trivial⟩ ?_;refine Nz (fun M ah nx=>∃b7,ML M [(2,eI n),(3,.op 0 1 0 0),(4,.op 1 18 0 0),(7,.op b7 1 0 0)]/\ah 0=some (.rows 1 [h.enc])/\ah 1=some (.rows 18 [x.enc])/\ah b7=some (.rows 1 [h.enc])/\1<b7/\b7<nx) (fH ?_) fun M ah nx hK=>?_
 .refine pG rfl rfl rfl rfl Es h0 rfl (v:=h.av) ⟨Nat.le_refl 1,rfl⟩ ?_;have hp:=auh h;rw [at6 hlb] at hp;refine aee rfl rfl rfl rfl (ab4 h) (fun _ _ _ h=>h) hp (.inl (by simp only [iO,arD];rfl)) ?_;refine QY rfl rfl rfl afT alK ?_;refine IK rfl rfl rfl rfl rfl Es (gX rfl) rfl rfl rfl (Nat.le_refl 1) (iW rfl ?_);refine ⟨_,⟨rfl,rfl,rfl,rfl,trivial⟩,?_,?_,gX rfl,by omega,by omega⟩
  .rw [ayp (by omega),ayp (by omega)];exact h0
  .rw [ayp (by omega),ayp (by omega)];exact h1
 obtain ⟨b7,hM,h0,h1,h7,hb1,hb7⟩:=hK;refine Pm _ hM ?_;clear hM;refine Nz (fun M ah nx=>∃b8,ML M (cM n b7 b8)/\Cst h x b7 b8 ah nx) (fH ?_) fun M ah n0 hK=>?_
 .refine pG rfl rfl rfl rfl XF h1 rfl (v:=x.av) ⟨Nat.le_refl 18,rfl⟩ ?_;refine aee rfl rfl rfl rfl (P9:=[x.av]) (by simp only [lI,asa,Option.bind_some,Option.map_some]) (fun _ _ _ h=>h) (asE x) (.inl (by simp only [iO,asB];rfl)) ?_;refine QY rfl rfl rfl alJ atb ?_;refine IK rfl rfl rfl rfl rfl XF (gX rfl) rfl rfl rfl (Nat.le_refl 18) (iW rfl ?_);refine ⟨_,⟨rfl,rfl,rfl,rfl,rfl,trivial⟩,?_,?_,?_,gX rfl,by omega,by omega,by omega⟩
  .rw [ayp (by omega),ayp (by omega)];exact h0
  .rw [ayp (by omega),ayp (by omega)];exact h1
  .rw [ayp (by omega),ayp (by omega)];exact h7
 obtain ⟨b8,hM,hC⟩:=hK;refine Pm _ hM ?_;clear hM;have l1:=hC.l1;have l7:=hC.l7;have l8:=hC.l8
 
 have hN:=axX (o:=x) w wx hlb;obtain ⟨N,na,nc,hNe⟩:∃N na nc,aq0 h x=(dH.mk N,na,nc):=⟨(aq0 h x).1.Objects,_,_,rfl⟩;have hNb:N.length<=4294967296/\∀o∈N,o.Props.length<=4294967296:=by
  rw [hN] at hNe;by_cases q:avJ h x=0
  .rw [if_pos q] at hNe;simp only [aJ,dH.mk.injEq] at hNe;obtain ⟨rfl,-,-⟩:=hNe;have k:=O9.1 (aBf q);exact ⟨bW k.len (by decide),fun o ho=>bW (k.props o ho) (by decide)⟩
  .rw [if_neg q] at hNe;simp only [aJ,dH.mk.injEq] at hNe;obtain ⟨rfl,-,-⟩:=hNe;exact ⟨by simp,fun o ho=>by cases ho⟩
 refine avr (fun M dV nx=>∃b9 v,ML M ((11,eI nc)::(10,eI na)::(9,.op b9 1 0 0)::cM n b7 b8)/\(∀j,j<n0->dV j=ah j)/\dV b9=some (.rows 1 [[v]])/\n0<=b9/\b9<nx/\((v=.sl [] true/\N=[])\/(∃F b,v=.os b 18 0 F.length/\JC F [] b dV n0 b9/\F.map (·.1)=N)))
  (fun M dV nx=>∃b9 F b,ML M ((11,eI nc)::(10,eI na)::(9,.op b9 1 0 0)::cM n b7 b8)/\(∀j,j<n0->dV j=ah j)/\avM F b b9 dV n0 nx/\F.map (·.1)=N) (fun M dV nx hK hk=>?_) (fH ?_) fun M Vm n1 hK=>?_
 .obtain ⟨b9,v,hM,ho,h9,g1,g2,hv⟩:=hK;rcases hv with ⟨rfl,rfl⟩|⟨F,b,rfl,hF,hFe⟩
  .refine au_ (l:=[]) (r:=[]) (n:=18) h9 g2 (hk _ _ _ ⟨b9,[],nx,hM,fun j hj=>?_,⟨⟨?_,by omega,by omega,(fun e he=>by cases he),List.nodup_nil⟩,gX rfl,g1,by omega,by omega,(fun e he=>by cases he)⟩,rfl⟩)
   .rw [ayp (by omega),ayp (by omega)];exact ho j hj
   .rw [ayp (by omega)];exact gX rfl
  .have g3:=hF.hi;exact hk _ _ _ ⟨b9,F,b,hM,ho,⟨hF.frame (by omega) fun _ _ _=>rfl,h9,g1,g2,by omega,fun e he=>by have:=(hF.blk e he).2.2.1;omega⟩,hFe⟩
 .refine pG rfl rfl rfl rfl Es hC.a7 rfl (v:=h.av) ⟨dD 1,rfl⟩ ?_;refine pG rfl rfl rfl rfl XF hC.a8 rfl (v:=x.av) ⟨dD 18,rfl⟩ ?_;refine Vk rfl rfl rfl ((axl h x hb hxp _ _).mono fun r Vm n1 hr=>?_);obtain ⟨q1,q2,hr⟩:=hr;obtain ⟨v,rfl,hv⟩:∃v,r=.gW [.agg [v],eI na,eI nc]/\((v=.sl [] true/\N=[])\/(∃F b,v=.os b 18 0 F.length/\JC F [] b Vm (n0+1+1) n1/\F.map (·.1)=N)):=by
   rw [hN] at hNe;rcases hr with ⟨q,rfl⟩|⟨q,F,b,rfl,q3,q4⟩
   .rw [if_neg (show ¬avJ h x=0 from q)] at hNe;simp only [aJ,dH.mk.injEq] at hNe;obtain ⟨rfl,rfl,e⟩:=hNe;rw [show nwC h x=nc from e];exact ⟨_,rfl,.inl ⟨rfl,rfl⟩⟩
   .rw [if_pos (show avJ h x=0 from q)] at hNe;simp only [aJ,dH.mk.injEq] at hNe;obtain ⟨rfl,rfl,rfl⟩:=hNe;exact ⟨_,rfl,.inr ⟨F,b,rfl,q3,q4⟩⟩
  refine nJ rfl rfl rfl rfl (aib rfl rfl rfl rfl rfl (aib rfl rfl rfl rfl rfl (aib rfl rfl rfl rfl rfl ?_)));refine QY rfl rfl rfl afT alK ?_;refine IK rfl rfl rfl rfl rfl Es (gX rfl) rfl rfl rfl (dD 1) (Dj rfl rfl rfl rfl (Dj rfl rfl rfl rfl (iW rfl ?_)));refine ⟨_,v,⟨rfl,rfl,rfl,rfl,rfl,rfl,rfl,rfl,trivial⟩,fun j hj=>?_,gX rfl,by omega,by omega,?_⟩
  .rw [ayp (by omega),ayp (by omega)];exact q2 j (by omega)
  .rcases hv with hv|⟨F,b,e,hF,hFe⟩
   .exact .inl hv
   .have hk:=hF.frame (nx':=n1+1+1+1+1) (by omega) (dV:=upd (upd Vm (n1+1+1+1+1) (some (qO.rows [AV.sl [] true].length [[AV.sl [] true]]))) (n1+1+1+1+1) (some (qO.rows 1 [[v]]))) fun j _ hj=>by rw [ayp (by omega),ayp (by omega)]
    exact .inr ⟨F,b,e,⟨hk.out,by have:=hk.lo;omega,hk.hi,fun e he=>⟨(hk.blk e he).1,by have:=(hk.blk e he).2.1;omega,(hk.blk e he).2.2⟩,hk.nd⟩,hFe⟩
 obtain ⟨b9,F,b,hM,ho,hF,hFe⟩:=hK;refine Pm _ hM ?_;clear hM;have hC:=hC.frame ho;clear ho;have hp:=au4 h x;rw [hNe] at hp;refine Nz (fun M dV nx=>∃b12,ML M ((14,eI nc)::(13,eI na)::(12,.op b12 1 0 0)::(11,eI nc)::(10,eI na)::(9,.op b9 1 0 0)::cM n b7 b8)/\(∀j,j<n1->dV j=Vm j)/\dV b12=some (.rows 1 [[.sl (N.map dJ.enc) false]])/\n1<=b12/\b12<nx) (fH ?_) fun M ah2 n2 hK=>?_
 .refine pG rfl rfl rfl rfl Es hC.a0 rfl (v:=h.av) ⟨dD 1,rfl⟩ ?_;refine pG rfl rfl rfl rfl XF hC.a1 rfl (v:=x.av) ⟨dD 18,rfl⟩ ?_;refine aee rfl rfl rfl rfl (axo (apg h) (asa x)) (fun _ _ _ h=>h) hp (.inl (by simp only [iO,arD,asB];rfl)) ?_;refine nJ rfl rfl rfl rfl (aib rfl rfl rfl rfl rfl (aib rfl rfl rfl rfl rfl (aib rfl rfl rfl rfl rfl ?_)));refine QY rfl rfl rfl afT alK ?_;refine IK rfl rfl rfl rfl rfl Es (gX rfl) rfl rfl rfl (dD 1) (Dj rfl rfl rfl rfl (Dj rfl rfl rfl rfl (iW rfl ?_)));refine ⟨_,⟨rfl,rfl,rfl,rfl,rfl,rfl,rfl,rfl,rfl,rfl,rfl,trivial⟩,fun j hj=>?_,gX rfl,by omega,by omega⟩;rw [ayp (by omega),ayp (by omega)]
 clear hp;obtain ⟨b12,hM,ho,h12,l12,m12⟩:=hK;refine Pm _ hM ?_;clear hM;have n01:n0<=n1:=by have:=hF.lo;have:=hF.hi;omega
 have hC:=hC.frame (dV:=ah2) fun j hj=>ho j (by omega);have hF:=hF.frame (dV:=ah2) fun j _ hj=>ho j hj;clear ho
 
 have hO:=az2 (i:=n) w;obtain ⟨o,oc,hOe⟩:∃o oc,ar6 h n=(o,oc):=⟨_,_,rfl⟩;have hop:o.Props.length<=4294967296:=by
  rw [hO] at hOe;by_cases q:asc h n=0
  .rw [if_pos q] at hOe;simp only [aJ] at hOe;obtain ⟨rfl,-⟩:=hOe;by_cases hl:n.toNat<h.Objects.length
   .rw [aB,aW hl];exact hob _ (List.getElem_mem hl)
   .rw [aB,bK (by omega)];exact dB _
  .rw [if_neg q] at hOe;simp only [aJ] at hOe;obtain ⟨rfl,-⟩:=hOe;exact dB _
 refine avr (fun M dV nx=>∃b15 row,ML M ((16,eI oc)::(15,.op b15 18 0 0)::(14,eI nc)::(13,eI na)::(12,.op b12 1 0 0)::(11,eI nc)::(10,eI na)::(9,.op b9 1 0 0)::cM n b7 b8)/\(∀j,j<n2->dV j=ah2 j)/\dV b15=some (.rows 18 [row])/\n2<=b15/\b15<nx/\((row=alH/\o=zG)\/(∃id,row=Qu o id/\dV id=some (.rows 18 (o.Props.map dI.enc))/\n2<=id/\id<b15)))
  (fun M dV nx=>∃b15 id,ML M ((16,eI oc)::(15,.op b15 18 0 0)::(14,eI nc)::(13,eI na)::(12,.op b12 1 0 0)::(11,eI nc)::(10,eI na)::(9,.op b9 1 0 0)::cM n b7 b8)/\(∀j,j<n2->dV j=ah2 j)/\asD o id b15 dV n2 nx) (fun M dV nx hK hk=>?_) (fH ?_) fun M ah3 n3 hK=>?_
 .obtain ⟨b15,row,hM,ho,h15,g1,g2,hv⟩:=hK;rcases hv with ⟨rfl,rfl⟩|⟨id,rfl,hi,g3,g4⟩
  .refine au_ (l:=alH.take 6) (r:=alH.drop 7) (n:=18) h15 g2 (hk _ _ _ ⟨b15,nx,hM,fun j hj=>?_,gX rfl,?_,g1,by omega,by omega,by omega,by omega⟩)
   .rw [ayp (by omega),ayp (by omega)];exact ho j hj
   .rw [ayp (by omega)];exact gX rfl
  .exact hk _ _ _ ⟨b15,id,hM,ho,h15,hi,g1,g2,g3,by omega,by omega⟩
 .refine pG rfl rfl rfl rfl Es hC.a7 rfl (v:=h.av) ⟨dD 1,rfl⟩ ?_;refine nJ rfl rfl rfl rfl ?_;refine Vk rfl rfl rfl ((awj h n hb _ _).mono fun r ah3 n3 hr=>?_);obtain ⟨q1,q2,hr⟩:=hr;obtain ⟨row,rfl,hrl,hv⟩:∃row,r=.gW [.agg row,eI oc]/\row.length=18/\((row=alH/\o=zG)\/(∃id,row=Qu o id/\ah3 id=some (.rows 18 (o.Props.map dI.enc))/\n2+1+1<=id/\id<n3)):=by
   rw [hO] at hOe;rcases hr with ⟨q,rfl⟩|⟨q,id,rfl,q3,q4,q5⟩
   .rw [if_neg (show ¬asc h n=0 from q)] at hOe;simp only [aJ] at hOe;obtain ⟨rfl,e⟩:=hOe;rw [show arz h n=oc from e];exact ⟨_,rfl,rfl,.inl ⟨rfl,rfl⟩⟩
   .rw [if_pos (show asc h n=0 from q)] at hOe;simp only [aJ] at hOe;obtain ⟨rfl,rfl⟩:=hOe;exact ⟨_,rfl,by simp [Qu,dJ.enc],.inr ⟨id,rfl,q3,q4,q5⟩⟩
  refine nJ rfl rfl rfl rfl (aib rfl rfl rfl rfl rfl (aib rfl rfl rfl rfl rfl ?_));refine QY rfl rfl rfl alJ atb ?_;refine IK rfl rfl rfl rfl rfl XF (gX rfl) rfl hrl rfl (dD 18) (Dj rfl rfl rfl rfl (iW rfl ?_));have aCU:lay alH 0 (AV.agg row).cells=row:=by
   show (alH.take 0++row)++alH.drop (0+row.length)=row;rw [List.take_zero,List.nil_append,Nat.zero_add,hrl,List.drop_eq_nil_of_le (dD 18),cu]
  refine ⟨_,row,⟨rfl,rfl,rfl,rfl,rfl,rfl,rfl,rfl,rfl,rfl,rfl,rfl,rfl,trivial⟩,fun j hj=>?_,?_,by omega,by omega,?_⟩
  .rw [ayp (by omega),ayp (by omega)];exact q2 j (by omega)
  .rw [gX rfl];show some (qO.rows 18 [lay alH 0 (AV.agg row).cells])=_;rw [aCU]
  .rcases hv with hv|⟨id,e,hi,g3,g4⟩
   .exact .inl hv
   .exact .inr ⟨id,e,by rw [ayp (by omega),ayp (by omega)];exact hi,by omega,by omega⟩
 obtain ⟨b15,id,hM,ho,arl⟩:=hK;refine Pm _ hM ?_;clear hM;have n23:n2<=n3:=by have:=arl.lo;have:=arl.hi;omega
 have n12:n1<=n2:=by omega
 have hC:=hC.frame (dV:=ah3) fun j hj=>ho j (by omega);have hF:=hF.frame (dV:=ah3) fun j _ hj=>ho j (by omega);have h12:=(ho b12 (by omega)).trans h12;clear ho;have hp:=avD h n;rw [hOe] at hp;refine Nz (fun M dV nx=>∃b17,ML M ((18,eI oc)::(17,.op b17 18 0 0)::(16,eI oc)::(15,.op b15 18 0 0)::(14,eI nc)::(13,eI na)::(12,.op b12 1 0 0)::(11,eI nc)::(10,eI na)::(9,.op b9 1 0 0)::cM n b7 b8)/\(∀j,j<n3->dV j=ah3 j)/\dV b17=some (.rows 18 [o.enc])/\n3<=b17/\b17<nx) (fH ?_) fun M ah4 n4 hK=>?_
 .refine pG rfl rfl rfl rfl Es hC.a0 rfl (v:=h.av) ⟨dD 1,rfl⟩ ?_;refine nJ rfl rfl rfl rfl ?_;refine aee rfl rfl rfl rfl (axo (apg h) rfl) (fun _ _ _ h=>h) hp (.inl (by simp only [iO,arD];rfl)) ?_;refine nJ rfl rfl rfl rfl (aib rfl rfl rfl rfl rfl (aib rfl rfl rfl rfl rfl ?_));refine QY rfl rfl rfl alJ atb ?_;refine IK rfl rfl rfl rfl rfl XF (gX rfl) rfl rfl rfl (dD 18) (Dj rfl rfl rfl rfl (iW rfl ?_));refine ⟨_,⟨rfl,rfl,rfl,rfl,rfl,rfl,rfl,rfl,rfl,rfl,rfl,rfl,rfl,rfl,rfl,trivial⟩,fun j hj=>?_,gX rfl,by omega,by omega⟩;rw [ayp (by omega),ayp (by omega)]
 clear hp;obtain ⟨b17,hM,ho,h17,l17,m17⟩:=hK;refine Pm _ hM ?_;clear hM;have hC:=hC.frame (dV:=ah4) fun j hj=>ho j (by omega);have hF:=hF.frame (dV:=ah4) fun j _ hj=>ho j (by omega);have h12:=(ho b12 (by omega)).trans h12;have arl:=arl.frame (dV:=ah4) fun j _ hj=>ho j hj;clear ho
 
 have hP:=axY (i:=n) (o:=x) w wx hlb;obtain ⟨N',pc,hPe⟩:∃N' pc,aq1 h n x=(dH.mk N',pc):=⟨(aq1 h n x).1.Objects,_,rfl⟩;have axZ:N'.length<=4294967296/\∀o∈N',o.Props.length<=4294967296:=by
  rw [hP] at hPe;by_cases q:asC h n x=0
  .rw [if_pos q] at hPe;simp only [aJ,dH.mk.injEq] at hPe;obtain ⟨rfl,-⟩:=hPe;have k:=O9.1 (az3 q);exact ⟨bW k.len (by decide),fun o ho=>bW (k.props o ho) (by decide)⟩
  .rw [if_neg q] at hPe;simp only [aJ,dH.mk.injEq] at hPe;obtain ⟨rfl,-⟩:=hPe;exact ⟨by simp,fun o ho=>by cases ho⟩
 refine avr (fun M dV nx=>∃b19 v,ML M ((20,eI pc)::(19,.op b19 1 0 0)::(18,eI oc)::(17,.op b17 18 0 0)::(16,eI oc)::(15,.op b15 18 0 0)::(14,eI nc)::(13,eI na)::(12,.op b12 1 0 0)::(11,eI nc)::(10,eI na)::(9,.op b9 1 0 0)::cM n b7 b8)/\(∀j,j<n4->dV j=ah4 j)/\dV b19=some (.rows 1 [[v]])/\n4<=b19/\b19<nx/\((v=.sl [] true/\N'=[])\/(∃F b,v=.os b 18 0 F.length/\JC F [] b dV n4 b19/\F.map (·.1)=N')))
  (fun M dV nx=>∃b19 F b,ML M ((20,eI pc)::(19,.op b19 1 0 0)::(18,eI oc)::(17,.op b17 18 0 0)::(16,eI oc)::(15,.op b15 18 0 0)::(14,eI nc)::(13,eI na)::(12,.op b12 1 0 0)::(11,eI nc)::(10,eI na)::(9,.op b9 1 0 0)::cM n b7 b8)/\(∀j,j<n4->dV j=ah4 j)/\avM F b b19 dV n4 nx/\F.map (·.1)=N') (fun M dV nx hK hk=>?_) (fH ?_) fun M ah5 n5 hK=>?_
 .obtain ⟨b19,v,hM,ho,h9,g1,g2,hv⟩:=hK;rcases hv with ⟨rfl,rfl⟩|⟨F,b,rfl,hF,hFe⟩
  .refine au_ (l:=[]) (r:=[]) (n:=18) h9 g2 (hk _ _ _ ⟨b19,[],nx,hM,fun j hj=>?_,⟨⟨?_,by omega,by omega,(fun e he=>by cases he),List.nodup_nil⟩,gX rfl,g1,by omega,by omega,(fun e he=>by cases he)⟩,rfl⟩)
   .rw [ayp (by omega),ayp (by omega)];exact ho j hj
   .rw [ayp (by omega)];exact gX rfl
  .have g3:=hF.hi;exact hk _ _ _ ⟨b19,F,b,hM,ho,⟨hF.frame (by omega) fun _ _ _=>rfl,h9,g1,g2,by omega,fun e he=>by have:=(hF.blk e he).2.2.1;omega⟩,hFe⟩
 .refine pG rfl rfl rfl rfl Es hC.a7 rfl (v:=h.av) ⟨dD 1,rfl⟩ ?_;refine nJ rfl rfl rfl rfl ?_;refine pG rfl rfl rfl rfl XF hC.a8 rfl (v:=x.av) ⟨dD 18,rfl⟩ ?_;refine Vk rfl rfl rfl ((aFY h n x hb hxp _ _).mono fun r Vm n1 hr=>?_);obtain ⟨q1,q2,hr⟩:=hr;obtain ⟨v,rfl,hv⟩:∃v,r=.gW [.agg [v],eI pc]/\((v=.sl [] true/\N'=[])\/(∃F b,v=.os b 18 0 F.length/\JC F [] b Vm (n4+1+1+1) n1/\F.map (·.1)=N')):=by
   rw [hP] at hPe;rcases hr with ⟨q,rfl⟩|⟨q,F,b,rfl,q3,q4⟩
   .rw [if_neg (show ¬asC h n x=0 from q)] at hPe;simp only [aJ,dH.mk.injEq] at hPe;obtain ⟨rfl,e⟩:=hPe;rw [show atZ h n x=pc from e];exact ⟨_,rfl,.inl ⟨rfl,rfl⟩⟩
   .rw [if_pos (show asC h n x=0 from q)] at hPe;simp only [aJ,dH.mk.injEq] at hPe;obtain ⟨rfl,rfl⟩:=hPe;exact ⟨_,rfl,.inr ⟨F,b,rfl,q3,q4⟩⟩
  refine nJ rfl rfl rfl rfl (aib rfl rfl rfl rfl rfl (aib rfl rfl rfl rfl rfl ?_));refine QY rfl rfl rfl afT alK ?_;refine IK rfl rfl rfl rfl rfl Es (gX rfl) rfl rfl rfl (dD 1) (Dj rfl rfl rfl rfl (iW rfl ?_));refine ⟨_,v,⟨rfl,rfl,rfl,rfl,rfl,rfl,rfl,rfl,rfl,rfl,rfl,rfl,rfl,rfl,rfl,rfl,rfl,trivial⟩,fun j hj=>?_,gX rfl,by omega,by omega,?_⟩
  .rw [ayp (by omega),ayp (by omega)];exact q2 j (by omega)
  .rcases hv with hv|⟨F,b,e,hF,hFe⟩
   .exact .inl hv
   .have hk:=hF.frame (nx':=n1+1+1+1) (by omega) (dV:=upd (upd Vm (n1+1+1+1) (some (qO.rows [AV.sl [] true].length [[AV.sl [] true]]))) (n1+1+1+1) (some (qO.rows 1 [[v]]))) fun j _ hj=>by rw [ayp (by omega),ayp (by omega)]
    exact .inr ⟨F,b,e,⟨hk.out,by have:=hk.lo;omega,hk.hi,fun e he=>⟨(hk.blk e he).1,by have:=(hk.blk e he).2.1;omega,(hk.blk e he).2.2⟩,hk.nd⟩,hFe⟩
 obtain ⟨b19,F',b',hM,ho,hF',az4⟩:=hK;refine Pm _ hM ?_;clear hM;have n45:n4<=n5:=by have:=hF'.lo;have:=hF'.hi;omega
 have hC:=hC.frame (dV:=ah5) fun j hj=>ho j (by omega);have hF:=hF.frame (dV:=ah5) fun j _ hj=>ho j (by omega);have h12:=(ho b12 (by omega)).trans h12;have arl:=arl.frame (dV:=ah5) fun j _ hj=>ho j (by omega);have h17:=(ho b17 (by omega)).trans h17;clear ho;have hp:=au9 h n x;rw [hPe] at hp;refine Nz (fun M dV nx=>∃b21,ML M ((22,eI pc)::(21,.op b21 1 0 0)::(20,eI pc)::(19,.op b19 1 0 0)::(18,eI oc)::(17,.op b17 18 0 0)::(16,eI oc)::(15,.op b15 18 0 0)::(14,eI nc)::(13,eI na)::(12,.op b12 1 0 0)::(11,eI nc)::(10,eI na)::(9,.op b9 1 0 0)::cM n b7 b8)/\(∀j,j<n5->dV j=ah5 j)/\dV b21=some (.rows 1 [[.sl (N'.map dJ.enc) false]])/\n5<=b21/\b21<nx) (fH ?_) fun M ah6 n6 hK=>?_
 .refine pG rfl rfl rfl rfl Es hC.a0 rfl (v:=h.av) ⟨dD 1,rfl⟩ ?_;refine nJ rfl rfl rfl rfl ?_;refine pG rfl rfl rfl rfl XF hC.a1 rfl (v:=x.av) ⟨dD 18,rfl⟩ ?_;refine aee rfl rfl rfl rfl (aCT (apg h) rfl (asa x)) (fun _ _ _ h=>h) hp (.inl (by simp only [iO,arD,asB];rfl)) ?_;refine nJ rfl rfl rfl rfl (aib rfl rfl rfl rfl rfl (aib rfl rfl rfl rfl rfl ?_));refine QY rfl rfl rfl afT alK ?_;refine IK rfl rfl rfl rfl rfl Es (gX rfl) rfl rfl rfl (dD 1) (Dj rfl rfl rfl rfl (iW rfl ?_));refine ⟨_,⟨rfl,rfl,rfl,rfl,rfl,rfl,rfl,rfl,rfl,rfl,rfl,rfl,rfl,rfl,rfl,rfl,rfl,rfl,rfl,trivial⟩,fun j hj=>?_,gX rfl,by omega,by omega⟩;rw [ayp (by omega),ayp (by omega)]
 clear hp;obtain ⟨b21,hM,ho,h21,l21,m21⟩:=hK;refine Pm _ hM ?_;clear hM;have hC:=hC.frame (dV:=ah6) fun j hj=>ho j (by omega);have hF:=hF.frame (dV:=ah6) fun j _ hj=>ho j (by omega);have h12:=(ho b12 (by omega)).trans h12;have arl:=arl.frame (dV:=ah6) fun j _ hj=>ho j (by omega);have h17:=(ho b17 (by omega)).trans h17;have hF':=hF'.frame (dV:=ah6) fun j _ hj=>ho j (by omega);clear ho
 
 have hp1:=atY h;rw [awC w] at hp1;have hp2:=arb ⟨N⟩ ⟨N⟩;rw [ash hNb.1 hNb.2] at hp2;have hp3:=aqY o o;rw [at7 hop] at hp3;have hp4:=arb ⟨N'⟩ ⟨N'⟩;rw [ash axZ.1 axZ.2] at hp4;refine iV (iV (alD oJ _ rfl (by kernel_rfl) (by kernel_rfl) ?_));refine ND rfl rfl rfl rfl Es hC.a7 rfl (v:=h.av) ⟨dD 1,rfl⟩ ?_;refine alF rfl rfl rfl rfl (ab4 h) (fun _ _ _ h=>h) (VK h) (.inr rfl) ?_;refine ND rfl rfl rfl rfl Es hC.a0 rfl (v:=h.av) ⟨dD 1,rfl⟩ ?_;refine alF rfl rfl rfl rfl (ab4 h) (fun _ _ _ h=>h) hp1 (.inr rfl) ?_;refine afR rfl rfl rfl rfl rfl (aua _) (aeg rfl rfl rfl rfl ?_);refine aeg rfl rfl rfl rfl (aeg rfl rfl rfl rfl (afR rfl rfl rfl rfl rfl (aua _) (abW rfl rfl rfl rfl rfl (aeg rfl rfl rfl rfl ?_))));refine aeg rfl rfl rfl rfl (aeg rfl rfl rfl rfl (afR rfl rfl rfl rfl rfl (aua _) (abW rfl rfl rfl rfl rfl (aeg rfl rfl rfl rfl ?_))));refine ND rfl rfl rfl rfl Es hF.box rfl (v:=.agg [.os b 18 0 F.length]) ⟨dD 1,rfl⟩ ?_
 refine ND rfl rfl rfl rfl Es h12 rfl (v:=dH.av ⟨N⟩) ⟨dD 1,rfl⟩ ?_;refine alF rfl rfl rfl rfl (ab5 (hF.jE hFe) (apg ⟨N⟩)) (fun _ _ _ h=>h) hp2 (.inr rfl) ?_;refine avS rfl rfl rfl rfl (fun K h=>h) (abW rfl rfl rfl rfl rfl (aeg rfl rfl rfl rfl ?_));refine aeg rfl rfl rfl rfl (aeg rfl rfl rfl rfl (afR rfl rfl rfl rfl rfl (aua _) (abW rfl rfl rfl rfl rfl (aeg rfl rfl rfl rfl ?_))));refine ND rfl rfl rfl rfl XF arl.box rfl (v:=.agg (Qu o id)) ⟨dD 18,rfl⟩ ?_;refine ND rfl rfl rfl rfl XF h17 rfl (v:=o.av) ⟨dD 18,rfl⟩ ?_;refine alF rfl rfl rfl rfl (axo arl.jE (asa o)) (fun _ _ _ h=>h) hp3 (.inr rfl) ?_;refine avS rfl rfl rfl rfl (fun K h=>h) (abW rfl rfl rfl rfl rfl (aeg rfl rfl rfl rfl ?_));refine aeg rfl rfl rfl rfl (aeg rfl rfl rfl rfl (afR rfl rfl rfl rfl rfl (aua _) (abW rfl rfl rfl rfl rfl (aeg rfl rfl rfl rfl ?_))));refine ND rfl rfl rfl rfl Es hF'.box rfl (v:=.agg [.os b' 18 0 F'.length]) ⟨dD 1,rfl⟩ ?_
 refine ND rfl rfl rfl rfl Es h21 rfl (v:=dH.av ⟨N'⟩) ⟨dD 1,rfl⟩ ?_;refine alF rfl rfl rfl rfl (ab5 (hF'.jE az4) (apg ⟨N'⟩)) (fun _ _ _ h=>h) hp4 (.inr rfl) ?_;refine avS rfl rfl rfl rfl (fun K h=>h) (abW rfl rfl rfl rfl rfl (an2 rfl ?_));refine Ep rfl (fun h=>by cases h) fun _=>IJ ?_;refine Pm ((15,.op b15 18 0 0)::(9,.op b9 1 0 0)::(19,.op b19 1 0 0)::cM n b7 b8) ⟨rfl,rfl,rfl,rfl,rfl,rfl,rfl,rfl,trivial⟩ ?_;clear hp1 hp2 hp3 hp4 h12 h17 h21;have z1:∀e∈F,e.1.Props.length<=4294967296:=fun e he=>hNb.2 _ (by rw [<- hFe];exact List.mem_map_of_mem he);have z2:F.length<=4294967296:=by have:=hNb.1;rw [<- hFe,dh] at this;exact this
 have z3:∀e∈F',e.1.Props.length<=4294967296:=fun e he=>axZ.2 _ (by rw [<- az4];exact List.mem_map_of_mem he);have z4:F'.length<=4294967296:=by have:=axZ.1;rw [<- az4,dh] at this;exact this
 have f1:=hF.fam.lo;have f2:=hF.fam.hi;have f3:=hF'.fam.lo;have f4:=hF'.fam.hi;have f5:=arl.lo;have f6:=arl.hi;refine Nz (fun M ah nx=>ML M ((15,.op b15 18 0 0)::(9,.op b9 1 0 0)::(19,.op b19 1 0 0)::cM n b7 b8)/\Cst h x b7 b8 ah n0/\asD o id b15 ah n2 n3/\avM F' b' b19 ah n4 n5/\n6<=nx) (fH ?_) fun M ah7 n7 hK=>?_
 .refine pG rfl rfl rfl rfl Es hF.box rfl (v:=.agg [.os b 18 0 F.length]) ⟨dD 1,rfl⟩ ?_;refine Vk rfl rfl rfl ((aeh hF.fam (by omega) z1 z2).mono fun r Vm n1 hr=>?_);obtain ⟨q1,q2,q3⟩:=hr;have hlo:=fun e (he:e∈F)=>(hF.fam.blk e he).2;refine iW rfl ⟨⟨rfl,rfl,rfl,rfl,rfl,rfl,rfl,rfl,trivial⟩,hC.frame fun j hj=>q2 j (by omega) (by omega) fun e he=>by have:=hlo e he;omega,arl.frame fun j hj hj'=>q2 j (by omega) (by omega) fun e he=>by have:=hlo e he;omega,hF'.frame fun j hj hj'=>q2 j (by omega) (by omega) fun e he=>by have:=hlo e he;omega,by omega⟩
 obtain ⟨hM,hC,arl,hF',n67⟩:=hK;refine Pm _ hM ?_;clear hM hF;refine Nz (fun M ah nx=>ML M ((15,.op b15 18 0 0)::(9,.op b9 1 0 0)::(19,.op b19 1 0 0)::cM n b7 b8)/\Cst h x b7 b8 ah n0/\asD o id b15 ah n2 n3/\n6<=nx) (fH ?_) fun M ah8 n8 hK=>?_
 .refine pG rfl rfl rfl rfl Es hF'.box rfl (v:=.agg [.os b' 18 0 F'.length]) ⟨dD 1,rfl⟩ ?_;refine Vk rfl rfl rfl ((aeh hF'.fam (by omega) z3 z4).mono fun r Vm n1 hr=>?_);obtain ⟨q1,q2,q3⟩:=hr;have hlo:=fun e (he:e∈F')=>(hF'.fam.blk e he).2;refine iW rfl ⟨⟨rfl,rfl,rfl,rfl,rfl,rfl,rfl,rfl,trivial⟩,hC.frame fun j hj=>q2 j (by omega) (by omega) fun e he=>by have:=hlo e he;omega,arl.frame fun j hj hj'=>q2 j (by omega) (by omega) fun e he=>by have:=hlo e he;omega,by omega⟩
 obtain ⟨hM,hC,arl,n68⟩:=hK;refine Pm _ hM ?_;clear hM hF';refine Nz (fun M ah nx=>ML M (cM n b7 b8)/\Cst h x b7 b8 ah n0) (iV (fH ?_)) fun M ah9 n9 hK=>?_
 .refine Dj rfl rfl rfl rfl (iW rfl ?_);refine Aj (Vj (fun c M ah nx=>∃m rs,c=o.Props.length+1-m/\m<=o.Props.length/\M=(23,.p (.int .i64 m))::(15,.op b15 18 0 0)::cM n b7 b8/\Cst h x b7 b8 ah n0/\ah b15=some (.rows 18 [Qu o id])/\ah id=some (.rows 18 rs)/\rs.length=o.Props.length/\jy 18 rs)
   (o.Props.length+1) ((23,.p (.int .i64 (0:Nat)))::(15,.op b15 18 0 0)::cM n b7 b8) ⟨rfl,rfl,rfl,rfl,rfl,rfl,rfl,trivial⟩ ⟨0,_,rfl,dB _,rfl,hC,arl.box,arl.blk,by simp,dI.Lh _⟩ fun c M ah nx hI=>?_)
  obtain ⟨m,rs,hc,hm,rfl,hC,h15,hrs,hrl,atj⟩:=hI;refine iV (iV (fH ?_));refine nJ rfl rfl rfl rfl ?_;refine yI rfl rfl rfl rfl QZ rfl ?_;refine pG rfl rfl rfl rfl afS h15 rfl (v:=.os id 18 0 (o.Props.map dI.enc).length) rfl ?_;refine QW rfl rfl rfl rfl rfl (aed apb) (FP rfl rfl rfl rfl rfl (fun K h=>⟨rfl,h⟩) (iW rfl ?_));refine Ep rfl (fun h=>IJ ?_) fun h=>Vh ?_
  .have hm':m<o.Props.length:=(by simpa using h);clear h;obtain ⟨row,hro⟩:∃row,rs[m]?=some row:=⟨rs[m]'(by omega),by simp [show m<rs.length by omega]⟩;have atl:=atj row (aG hro);have g5:=arl.li;have g6:=arl.ne;refine iV (Aj (fH ?_));refine yI rfl rfl rfl rfl QZ rfl ?_;refine pG rfl rfl rfl rfl afS h15 rfl (v:=.os id 18 0 (o.Props.map dI.enc).length) rfl ?_;refine nJ rfl rfl rfl rfl ?_;refine Y9 rfl rfl rfl rfl ape ati (cs:=alI) rfl ?_;refine Js rfl rfl rfl rfl rfl aqT (by omega) (by simpa using hm') rfl ?_;refine IK rfl rfl rfl rfl rfl ata hrs rfl rfl (row:=row) (by simpa using hro) (by show 0+18<=row.length;omega) (iW rfl ?_);refine fH ?_;refine nJ rfl rfl rfl rfl (FP rfl rfl rfl rfl rfl (fun K h=>⟨rfl,h⟩) (Dj rfl rfl rfl rfl (iW rfl ?_)));refine ⟨o.Props.length+1-(m+1),by omega,(23,.p (.int .i64 ((m+1:Nat))))::(15,.op b15 18 0 0)::cM n b7 b8,⟨?_,rfl,rfl,rfl,rfl,rfl,rfl,trivial⟩,m+1,_,rfl,by omega,rfl,hC.frame fun j hj=>ayp (by omega),?_,gX rfl,?_,?_⟩
   .show some (AV.p (.int .i64 (IntKind.wrap .i64 ((m:Int)+1))))=_;rw [alL (by omega)]
   .rw [ayp g6];exact h15
   .simpa using hrl
   .intro r hr;rcases List.mem_or_eq_of_mem_set hr with hr|rfl
    .exact atj r hr
    .have:(lay row 0 (AV.agg alI).cells).length=row.length:=EJ (by show 0+18<=_;omega);rw [this];exact atl
  .exact ⟨⟨rfl,rfl,rfl,rfl,rfl,trivial⟩,hC⟩
 obtain ⟨hM,hC⟩:=hK;refine Pm _ hM ?_;clear hM;have hp1:=arb h h;rw [ash hlb hob] at hp1;have hp2:=aqY x x;rw [at7 hxp] at hp2;refine iV (fH ?_);refine pG rfl rfl rfl rfl Es hC.a7 rfl (v:=h.av) ⟨dD 1,rfl⟩ ?_;refine pG rfl rfl rfl rfl Es hC.a0 rfl (v:=h.av) ⟨dD 1,rfl⟩ ?_;refine aee rfl rfl rfl rfl (axo (apg h) (apg h)) (fun _ _ _ h=>h) hp1 (.inr rfl) (nJ rfl rfl rfl rfl ?_);refine pG rfl rfl rfl rfl XF hC.a8 rfl (v:=x.av) ⟨dD 18,rfl⟩ ?_;refine pG rfl rfl rfl rfl XF hC.a1 rfl (v:=x.av) ⟨dD 18,rfl⟩ ?_;refine aee rfl rfl rfl rfl (axo (asa x) (asa x)) (fun _ _ _ h=>h) hp2 (.inr rfl) ?_;refine abU rfl rfl rfl rfl rfl (Dj rfl rfl rfl rfl (iW rfl ?_));exact NC ⟨.inr rfl,rfl⟩
theorem ar9 (h:dH)(x:dJ)(n:Int)(w:h.wf)(wx:x.wf):PC Try.prog 7 [h.av,x.av,eI n] (eB true):=ajI fun hb=>by
 obtain ⟨c,hc,hw⟩:=avu h x n (hwg w) (owg wx) hb.1;refine aqM (M:=[(0,h.av),(1,x.av),(2,eI n)]) Try.func7 hc (by decide) (aC rfl) ⟨rfl,rfl,rfl,trivial⟩ hw fun e M fr ah nx hf hq=>⟨hq.1,?_⟩;exact dG.2 ⟨_,hf.get _ _ hq.2,rfl⟩
end Go.Fw
end
section
namespace Go.Fw
open Go.Proofs
set_option maxRecDepth 100000
theorem Jt : Rd Try.prog 30 dL.enc dL.wf:=
 (Ai Try.underlying30 (by kernel_rfl) (iZ (m:=1) rfl (by kernel_rfl) (Ut Try.underlying5) (iZ (m:=1) rfl (by kernel_rfl) (akq Try.underlying28) (iZ (m:=1) rfl (by kernel_rfl) (adw Try.underlying9) (iZ (m:=1) rfl (by kernel_rfl) (Ut Try.underlying3) (Jh)))))).to (fun x=>dL.mk x.1 x.2.1 x.2.2.1 x.2.2.2.1) (fun _=>rfl) (fun _ h=>⟨h.1,h.2.1,h.2.2.1,h.2.2.2.1⟩)
theorem an8 : Rd Try.prog 27 dP.enc dP.wf:=
 (Ai Try.underlying27 (by kernel_rfl) (iZ (m:=1) rfl (by kernel_rfl) (adw Try.underlying9) (iZ (m:=1) rfl (by kernel_rfl) (Ut Try.underlying3) (Jh)))).to (fun x=>dP.mk x.1 x.2.1) (fun _=>rfl) (fun _ h=>⟨h.1,h.2.1⟩)
theorem alR : Rd Try.prog 32 dN.enc dN.wf:=
 (Ai Try.underlying32 (by kernel_rfl) (iZ (m:=1) rfl (by kernel_rfl) (Ut Try.underlying5) (iZ (m:=4) rfl (by kernel_rfl) Jt (iZ (m:=4) rfl (by kernel_rfl) Jt (iZ (m:=4) rfl (by kernel_rfl) Jt (iZ (m:=1) rfl (by kernel_rfl) (Jg Try.underlying4) (iZ (m:=1) rfl (by kernel_rfl) (Jg Try.underlying4) (iZ (m:=1) rfl (by kernel_rfl) (Jg Try.underlying4) (Jh))))))))).to (fun x=>dN.mk x.1 x.2.1 x.2.2.1 x.2.2.2.1 x.2.2.2.2.1 x.2.2.2.2.2.1 x.2.2.2.2.2.2.1) (fun _=>rfl) (fun _ h=>⟨h.1,h.2.1,h.2.2.1,h.2.2.2.1⟩)
theorem alS : Rd Try.prog 64 dI.enc dI.wf:=
 (Ai Try.underlying64 (by kernel_rfl) (iZ (m:=2) rfl (by kernel_rfl) an8 (iZ (m:=16) rfl (by kernel_rfl) alR (Jh)))).to (fun x=>dI.mk x.1 x.2.1) (fun _=>rfl) (fun _ h=>⟨h.1,h.2.1⟩)
theorem an9 : Rd Try.prog 54 dJ.enc dJ.wf:=
 (Ai Try.underlying54 (by kernel_rfl) (iZ (m:=1) rfl (by kernel_rfl) (Ut Try.underlying5) (iZ (m:=4) rfl (by kernel_rfl) Jt (iZ (m:=1) rfl (by kernel_rfl) (Jg Try.underlying4) (iZ (m:=1) rfl (by kernel_rfl) (aa9 (m:=18) Try.underlying52 (by kernel_rfl) (by decide) (fun _=>rfl) alS) (iZ (m:=4) rfl (by kernel_rfl) Jt (iZ (m:=4) rfl (by kernel_rfl) Jt (iZ (m:=1) rfl (by kernel_rfl) (adw Try.underlying9) (iZ (m:=1) rfl (by kernel_rfl) (Jg Try.underlying4) (iZ (m:=1) rfl (by kernel_rfl) (Jg Try.underlying4) (Jh))))))))))).to (fun x=>dJ.mk x.1 x.2.1 x.2.2.1 x.2.2.2.1 x.2.2.2.2.1 x.2.2.2.2.2.1 x.2.2.2.2.2.2.1 x.2.2.2.2.2.2.2.1 x.2.2.2.2.2.2.2.2.1) (fun _=>rfl) (fun _ h=>⟨h.1,h.2.1,h.2.2.2.1,h.2.2.2.2.1,h.2.2.2.2.2.1,h.2.2.2.2.2.2.1⟩)
theorem alT : Rd Try.prog 46 dH.enc dH.wf:=
 (Ai Try.underlying46 (by kernel_rfl) (iZ (m:=1) rfl (by kernel_rfl) (aa9 (m:=18) Try.underlying44 (by kernel_rfl) (by decide) (fun _=>rfl) an9) (Jh))).to (fun x=>dH.mk x.1) (fun _=>rfl) (fun _ h=>⟨h.1⟩)
end Go.Fw
end
