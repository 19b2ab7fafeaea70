
import Derived.Test.YtfccnpibdkkboaaGreatFwHc
import Derived.Test.YtfccnpibdkkboaaGreatFwE
import Derived.Test.YtfccnpibdkkboaaGreatRows
import Derived.Test.YtfccnpibdkkboaaGreatProg
set_option linter.unusedVariables false
set_option linter.unusedSimpArgs false
set_option linter.unusedSectionVars false
set_option linter.unnecessarySimpa false
section
namespace Go.Fw
open Go.Proofs
set_option maxRecDepth 100000
theorem vS.swap {F:List (dQ×Nat)}{b n0 nx nx' k:Nat}{ah eX:AH}{o:dQ}{id:Nat}(h:vS F [] b ah n0 nx)(hk:k<F.length)(hn:nx<=nx')(hb:eX b=some (.rows 18 ((F.map uU).set k (zD o id))))(ha:∀e∈F,eX e.2=ah e.2)
  (hi:eX id=some (.rows 18 (o.Props.map dJ.enc))) (h1:nx<=id) (h2:id<nx'):vS (F.set k (o,id)) [] b eX n0 nx':=by
 have hlo:=h.lo
 have hhi:=h.hi
 refine ⟨?_,h.lo,by omega,fun e he=>?_,?_⟩
 .rw [hb]
  have:(F.set k (o,id)).map uU=(F.map uU).set k (zD o id):=by rw [List.map_set];rfl
  rw [this];simp
 .rcases List.mem_or_eq_of_mem_set he with he|rfl
  .have:=h.blk e he
   exact ⟨by rw [ha e he];exact this.1,this.2.1,by omega,this.2.2.2⟩
  .exact ⟨hi,by show n0<=id;omega,h2,by show id≠b;omega⟩
 .have hlt:∀a∈F.map (·.2),a<nx:=fun a ha=>by
   obtain ⟨e,he,rfl⟩:=List.mem_map.1 ha
   exact (h.blk e he).2.2.1
  rw [List.map_set]
  have e1:F.map (·.2)=(F.map (·.2)).take k++(F.map (·.2)).drop k:=(List.take_append_drop k _).symm
  have hkl:k<(F.map (·.2)).length:=by simpa using hk
  have hnd:=h.nd
  revert hnd hlt hkl
  generalize F.map (·.2)=l
  intro hlt hkl hnd
  rw [List.set_eq_take_append_cons_drop,if_pos hkl]
  have e2:l=l.take k++l[k]::l.drop (k+1):=by rw [<- List.drop_eq_getElem_cons hkl,List.take_append_drop]
  rw [e2] at hnd
  rw [List.nodup_append] at hnd ⊢
  obtain ⟨n1,n2,n3⟩:=hnd
  obtain ⟨n4,n5⟩:=List.nodup_cons.1 n2
  refine ⟨n1,List.nodup_cons.2 ⟨fun hm=>?_,n5⟩,fun a ha b hb=>?_⟩
  .have:=hlt _ (List.mem_of_mem_drop hm)
   simp at this
   omega
  .rcases List.mem_cons.1 hb with rfl|hb
   .have:=hlt _ (List.mem_of_mem_take ha)
    simp
    omega
   .exact n3 a ha b (List.mem_cons_of_mem _ hb)
theorem afP : ∃pl,aoJ Tryz.prog 39=some pl/\uV pl (zO.enc.set 23 (.sl [] true)) [(0,.p (.int .u8 3)),(6,.p (.int .u8 2)),(7,.str [116,111,111,32,109,97,110,121])]=some (P_ ⟨3,WZ,false,false,d0,[],2,[116,111,111,32,109,97,110,121]⟩):=⟨_,rfl,rfl⟩
theorem Yv {ah:AH}{x y:Bool}{d e:dM}:rch ah aoK (jR [eB x,d.av,eB y,e.av])=[]:=by
 have:jR [eB x,d.av,eB y,e.av]=[]:=by simp [jR,AV.refs,dM.av,dM.enc]
 rw [this];rfl
theorem abd {ah:AH}(x:Bool)(d:dM)(y:Bool)(e:dM):kN ah [eB x,d.av,eB y,e.av]=some [eB x,d.av,eB y,e.av]:=sV (fM rfl (fM (dM.fz d) (fM rfl (fM (dM.fz e) Xq))))
def Yw (a:iK)(o:dQ):dQ×gZ:=
 bif !(fG o.Ext a.dY (dZ o.Props a.Key).2.1 (dZ o.Props a.Key).1).2.1 then (o,dW false)
 else bif iO (fC o.Props a.Key (fG o.Ext a.dY (dZ o.Props a.Key).2.1 (dZ o.Props a.Key).1).1).2 0 then (o,⟨3,WZ,false,false,d0,[],2,[116,111,111,32,109,97,110,121]⟩)
 else ({o with Props:=(fC o.Props a.Key (fG o.Ext a.dY (dZ o.Props a.Key).2.1 (dZ o.Props a.Key).1).1).1},dW true)
theorem ad1 {h:dK}{a:iK}{F:List (dQ×Nat)}{o:dQ}{id b k bx:Nat}{ah:AH}{n0 nx:Nat}(s:FC h a F o id b k bx ah n0 nx) :
  CW Tryz.prog 19 [.op bx 31 0 0] ah nx (mK F (Yw a o).1 (Yw a o).2 b k ah n0 nx):=by
 have hrow:=s.row
 have hb:=s.DK.hi
 have hbl:=s.bl
 have WQ:=s.DK.blk _ (List.mem_of_getElem? s.at')
 have ah6:=WQ.2.2.1
 have LC:∀{x:Option pI},upd ah nx x id=some (.rows 18 (o.Props.map dJ.enc)):=by intro x;rw [aoE (by omega)];exact WQ.1
 refine yj (M:=[(0,.op bx 31 0 0)]) (Q:=mQ F (Yw a o).1 (Yw a o).2 b k ah n0 nx) Tryz.func19 rfl (by decide) (Nat.le_of_ble_eq_true rfl) ⟨rfl,trivial⟩ ?_ WM
 refine fA (dR ?_)
 refine pz rfl rfl rfl yc FB (dU rfl ?_)
 refine pq (fun M EH n1=>∃b3,ML M [(0,.op bx 31 0 0),(2,.op nx 26 0 0),(3,.op b3 16 0 0),(4,eB (dZ o.Props a.Key).2.1)]/\EH b3=some (.rows 16 [(dZ o.Props a.Key).1.enc])/\nx<b3/\b3<n1/\∀j,j<nx+1->EH j=upd ah nx (some (.rows 26 [zO.enc.set 23 (.sl [] true)])) j) (qA NR _ rfl (by kernel_rfl) (by kernel_rfl) ?_) fun M EH n1 hK=>?_
 .refine oP rfl rfl rfl rfl (lS rfl rfl rfl rfl (jv rfl rfl rfl rfl qO rfl ?_))
  refine jU rfl rfl rfl rfl (by omega) rfl zF s.bx' rfl (v:=.op b 18 k 0) rfl ?_
  refine lS rfl rfl rfl rfl (jv rfl rfl rfl rfl uG rfl ?_)
  refine jU rfl rfl rfl rfl (by omega) rfl D7 s.bb' hrow (v:=.os id 18 0 (o.Props.map dJ.enc).length) rfl ?_
  refine oP rfl rfl rfl rfl (lS rfl rfl rfl rfl (jv rfl rfl rfl rfl xE rfl (jv rfl rfl rfl rfl Jv rfl ?_)))
  refine jU rfl rfl rfl rfl (by omega) rfl WJ s.bx' rfl (v:=a.Key.av) ⟨Nat.le_of_ble_eq_true rfl,rfl⟩ ?_
  refine JZ rfl rfl rfl (fun c hc=>by have:=Yr LC c hc;omega) rfl rfl (Ui (zf LC) (qg (dL.fz a.Key))) (fun _ _ _ h=>h) (AP o.Props a.Key) (.inr rfl) ?_
  refine oP rfl rfl rfl rfl (uz rfl rfl rfl rfl rfl (uz rfl rfl rfl rfl rfl (uz rfl rfl rfl rfl rfl ?_)))
  refine LK rfl rfl rfl ZM ZN ?_
  refine JY rfl rfl rfl (by omega) rfl rfl rfl Ld (eY rfl) rfl rfl rfl (Nat.le_refl 16) ?_
  refine Aj rfl rfl rfl rfl (Aj rfl rfl rfl rfl (xq rfl ?_))
  refine ⟨_,⟨rfl,rfl,rfl,rfl,trivial⟩,eY rfl,by omega,by show _<_+21;omega,fun j hj=>?_⟩
  rw [aoE (by omega),aoE (by omega)];rfl
 obtain ⟨b3,hM,h3,l3,m3,ho1⟩:=hK
 refine nY _ hM ?_
 clear hM
 have BX:=(ho1 bx (by omega)).trans s.bx'
 have BB:=(ho1 b (by omega)).trans s.bb'
 have BI:=(ho1 id (by omega)).trans LC
 have B2:EH nx=some (.rows 26 [zO.enc.set 23 (.sl [] true)]):=(ho1 nx (by omega)).trans (eY rfl)
 have hlo:∀j,j<nx->EH j=ah j:=fun j hj=>(ho1 j (by omega)).trans (aoE (by omega))
 clear ho1
 generalize hfe:dZ o.Props a.Key=f at h3
 refine pq (fun M wL n2=>∃b6,ML M [(0,.op bx 31 0 0),(2,.op nx 26 0 0),(6,.op b6 16 0 0),(7,eB (fG o.Ext a.dY f.2.1 f.1).2.1)]/\wL b6=some (.rows 16 [(fG o.Ext a.dY f.2.1 f.1).1.enc])/\n1<=b6/\b6<n2/\∀j,j<n1->wL j=EH j) (qA NR _ rfl (by kernel_rfl) (by kernel_rfl) ?_) fun M Ut n2 hK=>?_
 .refine oP rfl rfl rfl rfl (lS rfl rfl rfl rfl (jv rfl rfl rfl rfl qO rfl ?_))
  refine jU rfl rfl rfl rfl (by omega) rfl zF BX rfl (v:=.op b 18 k 0) rfl ?_
  refine lS rfl rfl rfl rfl (jv rfl rfl rfl rfl LZ rfl ?_)
  refine jU rfl rfl rfl rfl (by omega) rfl adS BB hrow (v:=eB o.Ext) rfl ?_
  refine oP rfl rfl rfl rfl (lS rfl rfl rfl rfl (jv rfl rfl rfl rfl xE rfl (jv rfl rfl rfl rfl afM rfl ?_)))
  refine jU rfl rfl rfl rfl (by omega) rfl Ld BX rfl (v:=a.dY.av) ⟨Nat.le_of_ble_eq_true rfl,rfl⟩ ?_
  refine oP rfl rfl rfl rfl ?_
  refine jU rfl rfl rfl rfl (by omega) rfl Ld h3 rfl (v:=f.1.av) ⟨Nat.le_of_ble_eq_true rfl,rfl⟩ ?_
  refine JZ rfl rfl rfl (fun c hc=>by rw [Yv] at hc;cases hc) rfl rfl (abd o.Ext a.dY f.2.1 f.1) (fun _ _ _ h=>h) (P7 o.Ext a.dY f.2.1 f.1) (.inr rfl) ?_
  refine oP rfl rfl rfl rfl (uz rfl rfl rfl rfl rfl (uz rfl rfl rfl rfl rfl (uz rfl rfl rfl rfl rfl ?_)))
  refine LK rfl rfl rfl ZM ZN ?_
  refine JY rfl rfl rfl (by omega) rfl rfl rfl Ld (eY rfl) rfl rfl rfl (Nat.le_refl 16) ?_
  refine Aj rfl rfl rfl rfl (Aj rfl rfl rfl rfl (xq rfl ?_))
  refine ⟨_,⟨rfl,rfl,rfl,rfl,trivial⟩,eY rfl,by omega,by show _<_+23;omega,fun j hj=>?_⟩
  rw [aoE (by omega),aoE (by omega)]
 obtain ⟨b6,hM,h6,l6,m6,ho2⟩:=hK
 refine nY _ hM ?_
 clear hM
 have BX:=(ho2 bx (by omega)).trans BX
 have BB:=(ho2 b (by omega)).trans BB
 have BI:=(ho2 id (by omega)).trans BI
 have B2:=(ho2 nx (by omega)).trans B2
 have hlo:∀j,j<nx->Ut j=ah j:=fun j hj=>(ho2 j (by omega)).trans (hlo j hj)
 clear ho2
 have hdef:Yw a o=bif !(fG o.Ext a.dY f.2.1 f.1).2.1 then (o,dW false) else bif iO (fC o.Props a.Key (fG o.Ext a.dY f.2.1 f.1).1).2 0 then (o,⟨3,WZ,false,false,d0,[],2,[116,111,111,32,109,97,110,121]⟩) else ({o with Props:=(fC o.Props a.Key (fG o.Ext a.dY f.2.1 f.1).1).1},dW true):=by rw [<- hfe];rfl
 generalize (fG o.Ext a.dY f.2.1 f.1).2.1=ok at hdef
 generalize (fG o.Ext a.dY f.2.1 f.1).1=d at hdef h6
 refine fA (fA (dR ?_))
 refine iJ rfl rfl rfl rfl (RQ rfl rfl rfl rfl (fun K h=>h) (dU rfl ?_))
 have afQ:∀{ahx:AH} {m:Nat},n2<=m->(∀j,j<nx->ahx j=ah j)->vS (F.set k (o,id)) [] b ahx n0 m:=fun hm hx=>by
  rw [BN s.at']
  exact s.DK.frame (by omega) fun j hj hj'=>hx j hj'
 refine jT rfl (fun hok=>?_) fun hok=>nJ ?_
 .refine fA (dR ?_)
  refine rF rfl rfl rfl rfl (Vd:=[eB false]) rfl (fun _ _ _ h=>h) (kL false) (.inl rfl) ?_
  refine kQ rfl rfl rfl rfl rfl qW B2 rfl rfl rfl (Nat.le_refl 26) (dU rfl ?_)
  rw [hdef,hok]
  refine mM ⟨.inr rfl,nx,(dW false).enc,rfl,eY rfl,Jw _,by omega,fun j hj hjb=>?_,id,afQ (by omega) fun j hj=>?_⟩
  .rw [aoE (by omega)];exact hlo j hj
  .rw [aoE (by omega)];exact hlo j hj
 rw [hok] at hdef
 have hbx:bx<n2:=by omega
 have hb2:b<n2:=by omega
 have hid:id<n2:=by omega
 have hb6:b6<n2:=m6
 have B6:=h6
 refine pq (fun M Jy n3=>∃m,ML M [(0,.op bx 31 0 0),(2,.op nx 26 0 0),(9,.os m 18 0 ((fC o.Props a.Key d).1.map dJ.enc).length),(10,eI (fC o.Props a.Key d).2)]/\n2<=m/\m<n3/\Jy m=some (.rows 18 ((fC o.Props a.Key d).1.map dJ.enc))/\∀j,j<n2->Jy j=Ut j)
  (aeR NR rfl (by kernel_rfl) (dfS bx b k id b6 n2 o a d [(0,.op bx 31 0 0),(2,.op nx 26 0 0),(6,.op b6 16 0 0)] Ut) ⟨⟨rfl,rfl,rfl,trivial⟩,(fun h=>by cases h),(fun h=>by cases h),(fun h=>by cases h),(fun h=>by cases h),(fun h=>by cases h),(fun h=>by cases h),(fun h=>by cases h),(fun h=>by cases h),(fun h=>by cases h),(fun h=>by cases h),(fun h=>by cases h),(fun h=>by cases h),(fun h=>by cases h),by omega,fun _ _=>rfl,.inl ⟨rfl,rfl,rfl,rfl,rfl,rfl⟩⟩ (fun L M wL rJ j op hS hj ho hd=>?_) (fun L M wL rJ hS hall=>?_)) fun M Jy n3 hK=>?_
 .obtain ⟨hM,s0,s1,s2,s3,s4,s5,s6,s7,s8,s9,s10,s11,s12,hn2,hag,hT⟩:=hS
  match j,ho,hd,hj with
  |0,ho,hd,hj=>
   obtain rfl:=Option.some.inj ho
   refine iJ rfl rfl rfl hM.1 (dU rfl ⟨rfl,hM,fun _=>rfl,fun hl=>s1 (by simpa using hl),fun hl=>s2 (by simpa using hl),fun hl=>s3 (by simpa using hl),fun hl=>s4 (by simpa using hl),fun hl=>s5 (by simpa using hl),fun hl=>s6 (by simpa using hl),fun hl=>s7 (by simpa using hl),fun hl=>s8 (by simpa using hl),fun hl=>s9 (by simpa using hl),fun hl=>s10 (by simpa using hl),fun hl=>s11 (by simpa using hl),fun hl=>s12 (by simpa using hl),by omega,hag,?_⟩)
   have:=hT.keep (M':=iW M (some 51) (.op bx 31 0 0)) (nx':=rJ+1) rfl rfl rfl rfl rfl rfl (by omega)
   simpa using this
  |1,ho,hd,hj=>
   obtain rfl:=Option.some.inj ho
   refine pF rfl rfl rfl (s0 (hd _ (.head _) rfl)) (dU rfl ⟨rfl,hM,fun hl=>s0 (by simpa using hl),fun _=>rfl,fun hl=>s2 (by simpa using hl),fun hl=>s3 (by simpa using hl),fun hl=>s4 (by simpa using hl),fun hl=>s5 (by simpa using hl),fun hl=>s6 (by simpa using hl),fun hl=>s7 (by simpa using hl),fun hl=>s8 (by simpa using hl),fun hl=>s9 (by simpa using hl),fun hl=>s10 (by simpa using hl),fun hl=>s11 (by simpa using hl),fun hl=>s12 (by simpa using hl),by omega,hag,?_⟩)
   have:=hT.keep (M':=iW M (some 52) (.op bx 31 0 0)) (nx':=rJ+1) rfl rfl rfl rfl rfl rfl (by omega)
   simpa using this
  |2,ho,hd,hj=>
   obtain rfl:=Option.some.inj ho
   refine jJ rfl rfl rfl (s1 (hd _ (.head _) rfl)) qO rfl (dU rfl ⟨rfl,hM,fun hl=>s0 (by simpa using hl),fun hl=>s1 (by simpa using hl),fun _=>rfl,fun hl=>s3 (by simpa using hl),fun hl=>s4 (by simpa using hl),fun hl=>s5 (by simpa using hl),fun hl=>s6 (by simpa using hl),fun hl=>s7 (by simpa using hl),fun hl=>s8 (by simpa using hl),fun hl=>s9 (by simpa using hl),fun hl=>s10 (by simpa using hl),fun hl=>s11 (by simpa using hl),fun hl=>s12 (by simpa using hl),by omega,hag,?_⟩)
   have:=hT.keep (M':=iW M (some 53) (.op bx 31 0 1)) (nx':=rJ+1) rfl rfl rfl rfl rfl rfl (by omega)
   simpa using this
  |3,ho,hd,hj=>
   obtain rfl:=Option.some.inj ho
   refine iH rfl rfl rfl (s2 (hd _ (.head _) rfl)) zF ((hag _ hbx).trans BX) rfl (v:=.op b 18 k 0) rfl (dU rfl ⟨rfl,hM,fun hl=>s0 (by simpa using hl),fun hl=>s1 (by simpa using hl),fun hl=>s2 (by simpa using hl),fun _=>rfl,fun hl=>s4 (by simpa using hl),fun hl=>s5 (by simpa using hl),fun hl=>s6 (by simpa using hl),fun hl=>s7 (by simpa using hl),fun hl=>s8 (by simpa using hl),fun hl=>s9 (by simpa using hl),fun hl=>s10 (by simpa using hl),fun hl=>s11 (by simpa using hl),fun hl=>s12 (by simpa using hl),by omega,hag,?_⟩)
   have:=hT.keep (M':=iW M (some 54) (.op b 18 k 0)) (nx':=rJ+1) rfl rfl rfl rfl rfl rfl (by omega)
   simpa using this
  |4,ho,hd,hj=>
   obtain rfl:=Option.some.inj ho
   refine pF rfl rfl rfl (s3 (hd _ (.head _) rfl)) (dU rfl ⟨rfl,hM,fun hl=>s0 (by simpa using hl),fun hl=>s1 (by simpa using hl),fun hl=>s2 (by simpa using hl),fun hl=>s3 (by simpa using hl),fun _=>rfl,fun hl=>s5 (by simpa using hl),fun hl=>s6 (by simpa using hl),fun hl=>s7 (by simpa using hl),fun hl=>s8 (by simpa using hl),fun hl=>s9 (by simpa using hl),fun hl=>s10 (by simpa using hl),fun hl=>s11 (by simpa using hl),fun hl=>s12 (by simpa using hl),by omega,hag,?_⟩)
   have:=hT.keep (M':=iW M (some 55) (.op b 18 k 0)) (nx':=rJ+1) rfl rfl rfl rfl rfl rfl (by omega)
   simpa using this
  |5,ho,hd,hj=>
   obtain rfl:=Option.some.inj ho
   refine jJ rfl rfl rfl (s4 (hd _ (.head _) rfl)) uG rfl (dU rfl ⟨rfl,hM,fun hl=>s0 (by simpa using hl),fun hl=>s1 (by simpa using hl),fun hl=>s2 (by simpa using hl),fun hl=>s3 (by simpa using hl),fun hl=>s4 (by simpa using hl),fun _=>rfl,fun hl=>s6 (by simpa using hl),fun hl=>s7 (by simpa using hl),fun hl=>s8 (by simpa using hl),fun hl=>s9 (by simpa using hl),fun hl=>s10 (by simpa using hl),fun hl=>s11 (by simpa using hl),fun hl=>s12 (by simpa using hl),by omega,hag,?_⟩)
   have:=hT.keep (M':=iW M (some 56) (.op b 18 k 6)) (nx':=rJ+1) rfl rfl rfl rfl rfl rfl (by omega)
   simpa using this
  |6,ho,hd,hj=>
   obtain rfl:=Option.some.inj ho
   refine iH rfl rfl rfl (s5 (hd _ (.head _) rfl)) D7 ((hag _ hb2).trans BB) hrow (v:=.os id 18 0 (o.Props.map dJ.enc).length) rfl (dU rfl ⟨rfl,hM,fun hl=>s0 (by simpa using hl),fun hl=>s1 (by simpa using hl),fun hl=>s2 (by simpa using hl),fun hl=>s3 (by simpa using hl),fun hl=>s4 (by simpa using hl),fun hl=>s5 (by simpa using hl),fun _=>rfl,fun hl=>s7 (by simpa using hl),fun hl=>s8 (by simpa using hl),fun hl=>s9 (by simpa using hl),fun hl=>s10 (by simpa using hl),fun hl=>s11 (by simpa using hl),fun hl=>s12 (by simpa using hl),by omega,hag,?_⟩)
   have:=hT.keep (M':=iW M (some 57) (.os id 18 0 (o.Props.map dJ.enc).length)) (nx':=rJ+1) rfl rfl rfl rfl rfl rfl (by omega)
   simpa using this
  |7,ho,hd,hj=>
   obtain rfl:=Option.some.inj ho
   refine iJ rfl rfl rfl hM.1 (dU rfl ⟨rfl,hM,fun hl=>s0 (by simpa using hl),fun hl=>s1 (by simpa using hl),fun hl=>s2 (by simpa using hl),fun hl=>s3 (by simpa using hl),fun hl=>s4 (by simpa using hl),fun hl=>s5 (by simpa using hl),fun hl=>s6 (by simpa using hl),fun _=>rfl,fun hl=>s8 (by simpa using hl),fun hl=>s9 (by simpa using hl),fun hl=>s10 (by simpa using hl),fun hl=>s11 (by simpa using hl),fun hl=>s12 (by simpa using hl),by omega,hag,?_⟩)
   have:=hT.keep (M':=iW M (some 58) (.op bx 31 0 0)) (nx':=rJ+1) rfl rfl rfl rfl rfl rfl (by omega)
   simpa using this
  |8,ho,hd,hj=>
   obtain rfl:=Option.some.inj ho
   refine pF rfl rfl rfl (s7 (hd _ (.head _) rfl)) (dU rfl ⟨rfl,hM,fun hl=>s0 (by simpa using hl),fun hl=>s1 (by simpa using hl),fun hl=>s2 (by simpa using hl),fun hl=>s3 (by simpa using hl),fun hl=>s4 (by simpa using hl),fun hl=>s5 (by simpa using hl),fun hl=>s6 (by simpa using hl),fun hl=>s7 (by simpa using hl),fun _=>rfl,fun hl=>s9 (by simpa using hl),fun hl=>s10 (by simpa using hl),fun hl=>s11 (by simpa using hl),fun hl=>s12 (by simpa using hl),by omega,hag,?_⟩)
   have:=hT.keep (M':=iW M (some 59) (.op bx 31 0 0)) (nx':=rJ+1) rfl rfl rfl rfl rfl rfl (by omega)
   simpa using this
  |9,ho,hd,hj=>
   obtain rfl:=Option.some.inj ho
   refine jJ rfl rfl rfl (s8 (hd _ (.head _) rfl)) xE rfl (dU rfl ⟨rfl,hM,fun hl=>s0 (by simpa using hl),fun hl=>s1 (by simpa using hl),fun hl=>s2 (by simpa using hl),fun hl=>s3 (by simpa using hl),fun hl=>s4 (by simpa using hl),fun hl=>s5 (by simpa using hl),fun hl=>s6 (by simpa using hl),fun hl=>s7 (by simpa using hl),fun hl=>s8 (by simpa using hl),fun _=>rfl,fun hl=>s10 (by simpa using hl),fun hl=>s11 (by simpa using hl),fun hl=>s12 (by simpa using hl),by omega,hag,?_⟩)
   have:=hT.keep (M':=iW M (some 60) (.op bx 31 0 2)) (nx':=rJ+1) rfl rfl rfl rfl rfl rfl (by omega)
   simpa using this
  |10,ho,hd,hj=>
   obtain rfl:=Option.some.inj ho
   refine jJ rfl rfl rfl (s9 (hd _ (.head _) rfl)) Jv rfl (dU rfl ⟨rfl,hM,fun hl=>s0 (by simpa using hl),fun hl=>s1 (by simpa using hl),fun hl=>s2 (by simpa using hl),fun hl=>s3 (by simpa using hl),fun hl=>s4 (by simpa using hl),fun hl=>s5 (by simpa using hl),fun hl=>s6 (by simpa using hl),fun hl=>s7 (by simpa using hl),fun hl=>s8 (by simpa using hl),fun hl=>s9 (by simpa using hl),fun _=>rfl,fun hl=>s11 (by simpa using hl),fun hl=>s12 (by simpa using hl),by omega,hag,?_⟩)
   have:=hT.keep (M':=iW M (some 61) (.op bx 31 0 4)) (nx':=rJ+1) rfl rfl rfl rfl rfl rfl (by omega)
   simpa using this
  |11,ho,hd,hj=>
   obtain rfl:=Option.some.inj ho
   refine iH rfl rfl rfl (s10 (hd _ (.head _) rfl)) WJ ((hag _ hbx).trans BX) rfl (v:=a.Key.av) ⟨Nat.le_of_ble_eq_true rfl,rfl⟩ (dU rfl ⟨rfl,hM,fun hl=>s0 (by simpa using hl),fun hl=>s1 (by simpa using hl),fun hl=>s2 (by simpa using hl),fun hl=>s3 (by simpa using hl),fun hl=>s4 (by simpa using hl),fun hl=>s5 (by simpa using hl),fun hl=>s6 (by simpa using hl),fun hl=>s7 (by simpa using hl),fun hl=>s8 (by simpa using hl),fun hl=>s9 (by simpa using hl),fun hl=>s10 (by simpa using hl),fun _=>rfl,fun hl=>s12 (by simpa using hl),by omega,hag,?_⟩)
   have:=hT.keep (M':=iW M (some 62) (a.Key.av)) (nx':=rJ+1) rfl rfl rfl rfl rfl rfl (by omega)
   simpa using this
  |12,ho,hd,hj=>
   obtain rfl:=Option.some.inj ho
   refine iH rfl rfl rfl hM.2.2.1 Ld ((hag _ hb6).trans B6) rfl (v:=d.av) ⟨Nat.le_of_ble_eq_true rfl,rfl⟩ (dU rfl ⟨rfl,hM,fun hl=>s0 (by simpa using hl),fun hl=>s1 (by simpa using hl),fun hl=>s2 (by simpa using hl),fun hl=>s3 (by simpa using hl),fun hl=>s4 (by simpa using hl),fun hl=>s5 (by simpa using hl),fun hl=>s6 (by simpa using hl),fun hl=>s7 (by simpa using hl),fun hl=>s8 (by simpa using hl),fun hl=>s9 (by simpa using hl),fun hl=>s10 (by simpa using hl),fun hl=>s11 (by simpa using hl),fun _=>rfl,by omega,hag,?_⟩)
   have:=hT.keep (M':=iW M (some 63) (d.av)) (nx':=rJ+1) rfl rfl rfl rfl rfl rfl (by omega)
   simpa using this
  |13,ho,hd,hj=>
   obtain rfl:=Option.some.inj ho
   rcases hT with ⟨c0,c14,c15,c16,c17,c18⟩|⟨c0,-⟩
   .refine yh rfl rfl (ajM (s6 (hd _ (.head _) rfl)) (s11 (hd _ (.tail _ (.head _)) rfl)) (s12 (hd _ (.tail _ (.tail _ (.head _))) rfl))) ((ah7 (l:=o.Props) ((hag _ hid).trans BI) a.Key d).mono fun r Jy n3 hr=>?_)
    obtain ⟨rfl,rfl,rfl⟩:=hr
    refine dU rfl ⟨rfl,hM,fun hl=>s0 (by simpa using hl),fun hl=>s1 (by simpa using hl),fun hl=>s2 (by simpa using hl),fun hl=>s3 (by simpa using hl),fun hl=>s4 (by simpa using hl),fun hl=>s5 (by simpa using hl),fun hl=>s6 (by simpa using hl),fun hl=>s7 (by simpa using hl),fun hl=>s8 (by simpa using hl),fun hl=>s9 (by simpa using hl),fun hl=>s10 (by simpa using hl),fun hl=>s11 (by simpa using hl),fun hl=>s12 (by simpa using hl),by omega,fun j hj=>by rw [aoE (by omega)];exact hag j hj,?_⟩
    have:dfT bx b k id b6 n2 o a d [(0,.op bx 31 0 0),(2,.op nx 26 0 0),(6,.op b6 16 0 0)] Ut true (L 14) (L 15) (L 16) (L 17) (L 18) (iW M (some 64) (.kS [.os rJ 18 0 ((fC o.Props a.Key d).1.map dJ.enc).length,eI (fC o.Props a.Key d).2])) (upd wL rJ (some (.rows 18 ((fC o.Props a.Key d).1.map dJ.enc)))) (rJ+1):=.inr ⟨rfl,rJ,hn2,by omega,eY rfl,rfl,fun h=>absurd (c14.symm.trans h) (by decide),fun h=>absurd (c15.symm.trans h) (by decide),fun h=>absurd (c16.symm.trans h) (by decide),fun h=>absurd (c17.symm.trans h) (by decide),fun h=>absurd (c18.symm.trans h) (by decide)⟩
    simpa using this
   .rw [c0] at hj;cases hj
  |14,ho,hd,hj=>
   obtain rfl:=Option.some.inj ho
   rcases hT with ⟨c0,c14,c15,c16,c17,c18⟩|⟨c0,m,m1,m2,m3,m4,p14,p15,p16,Uo,WR⟩
   .exact absurd (c0.symm.trans (hd _ (.head _) rfl)) (by decide)
   .refine iJ rfl rfl rfl m4 (dU rfl ⟨rfl,hM,fun hl=>s0 (by simpa using hl),fun hl=>s1 (by simpa using hl),fun hl=>s2 (by simpa using hl),fun hl=>s3 (by simpa using hl),fun hl=>s4 (by simpa using hl),fun hl=>s5 (by simpa using hl),fun hl=>s6 (by simpa using hl),fun hl=>s7 (by simpa using hl),fun hl=>s8 (by simpa using hl),fun hl=>s9 (by simpa using hl),fun hl=>s10 (by simpa using hl),fun hl=>s11 (by simpa using hl),fun hl=>s12 (by simpa using hl),by omega,hag,?_⟩)
    have:dfT bx b k id b6 n2 o a d [(0,.op bx 31 0 0),(2,.op nx 26 0 0),(6,.op b6 16 0 0)] Ut (L 13) true (L 15) (L 16) (L 17) (L 18) (iW M (some 50) (.kS [.os m 18 0 ((fC o.Props a.Key d).1.map dJ.enc).length,eI (fC o.Props a.Key d).2])) wL (rJ+1):=.inr ⟨c0,m,m1,by omega,m3,m4,fun _=>rfl,p15,p16,Uo,WR⟩
    simpa using this
  |15,ho,hd,hj=>
   obtain rfl:=Option.some.inj ho
   rcases hT with ⟨c0,c14,c15,c16,c17,c18⟩|⟨c0,m,m1,m2,m3,m4,p14,p15,p16,Uo,WR⟩
   .exact absurd (c14.symm.trans (hd _ (.head _) rfl)) (by decide)
   .refine sZ rfl rfl rfl (p14 (hd _ (.head _) rfl)) rfl (dU rfl ⟨rfl,hM,fun hl=>s0 (by simpa using hl),fun hl=>s1 (by simpa using hl),fun hl=>s2 (by simpa using hl),fun hl=>s3 (by simpa using hl),fun hl=>s4 (by simpa using hl),fun hl=>s5 (by simpa using hl),fun hl=>s6 (by simpa using hl),fun hl=>s7 (by simpa using hl),fun hl=>s8 (by simpa using hl),fun hl=>s9 (by simpa using hl),fun hl=>s10 (by simpa using hl),fun hl=>s11 (by simpa using hl),fun hl=>s12 (by simpa using hl),by omega,hag,?_⟩)
    have:dfT bx b k id b6 n2 o a d [(0,.op bx 31 0 0),(2,.op nx 26 0 0),(6,.op b6 16 0 0)] Ut (L 13) (L 14) true (L 16) (L 17) (L 18) (iW M (some 65) (.os m 18 0 ((fC o.Props a.Key d).1.map dJ.enc).length)) wL (rJ+1):=.inr ⟨c0,m,m1,by omega,m3,m4,p14,fun _=>rfl,p16,Uo,WR⟩
    simpa using this
  |16,ho,hd,hj=>
   obtain rfl:=Option.some.inj ho
   rcases hT with ⟨c0,c14,c15,c16,c17,c18⟩|⟨c0,m,m1,m2,m3,m4,p14,p15,p16,Uo,WR⟩
   .exact absurd (c14.symm.trans (hd _ (.head _) rfl)) (by decide)
   .refine sZ rfl rfl rfl (p14 (hd _ (.head _) rfl)) rfl (dU rfl ⟨rfl,hM,fun hl=>s0 (by simpa using hl),fun hl=>s1 (by simpa using hl),fun hl=>s2 (by simpa using hl),fun hl=>s3 (by simpa using hl),fun hl=>s4 (by simpa using hl),fun hl=>s5 (by simpa using hl),fun hl=>s6 (by simpa using hl),fun hl=>s7 (by simpa using hl),fun hl=>s8 (by simpa using hl),fun hl=>s9 (by simpa using hl),fun hl=>s10 (by simpa using hl),fun hl=>s11 (by simpa using hl),fun hl=>s12 (by simpa using hl),by omega,hag,?_⟩)
    have:dfT bx b k id b6 n2 o a d [(0,.op bx 31 0 0),(2,.op nx 26 0 0),(6,.op b6 16 0 0)] Ut (L 13) (L 14) (L 15) true (L 17) (L 18) (iW M (some 66) (eI (fC o.Props a.Key d).2)) wL (rJ+1):=.inr ⟨c0,m,m1,by omega,m3,m4,p14,p15,fun _=>rfl,Uo,WR⟩
    simpa using this
  |17,ho,hd,hj=>
   obtain rfl:=Option.some.inj ho
   rcases hT with ⟨c0,c14,c15,c16,c17,c18⟩|⟨c0,m,m1,m2,m3,m4,p14,p15,p16,Uo,WR⟩
   .exact absurd (c15.symm.trans (hd _ (.head _) rfl)) (by decide)
   .refine j_ rfl rfl rfl (p15 (hd _ (.head _) rfl)) (dU rfl ⟨rfl,hM,fun hl=>s0 (by simpa using hl),fun hl=>s1 (by simpa using hl),fun hl=>s2 (by simpa using hl),fun hl=>s3 (by simpa using hl),fun hl=>s4 (by simpa using hl),fun hl=>s5 (by simpa using hl),fun hl=>s6 (by simpa using hl),fun hl=>s7 (by simpa using hl),fun hl=>s8 (by simpa using hl),fun hl=>s9 (by simpa using hl),fun hl=>s10 (by simpa using hl),fun hl=>s11 (by simpa using hl),fun hl=>s12 (by simpa using hl),by omega,hag,?_⟩)
    have:dfT bx b k id b6 n2 o a d [(0,.op bx 31 0 0),(2,.op nx 26 0 0),(6,.op b6 16 0 0)] Ut (L 13) (L 14) (L 15) (L 16) true (L 18) (iW M (some 9) (.os m 18 0 ((fC o.Props a.Key d).1.map dJ.enc).length)) wL (rJ+1):=.inr ⟨c0,m,m1,by omega,m3,m4,p14,p15,p16,fun _=>rfl,WR⟩
    simpa using this
  |18,ho,hd,hj=>
   obtain rfl:=Option.some.inj ho
   rcases hT with ⟨c0,c14,c15,c16,c17,c18⟩|⟨c0,m,m1,m2,m3,m4,p14,p15,p16,Uo,WR⟩
   .exact absurd (c16.symm.trans (hd _ (.head _) rfl)) (by decide)
   .refine j_ rfl rfl rfl (p16 (hd _ (.head _) rfl)) (dU rfl ⟨rfl,hM,fun hl=>s0 (by simpa using hl),fun hl=>s1 (by simpa using hl),fun hl=>s2 (by simpa using hl),fun hl=>s3 (by simpa using hl),fun hl=>s4 (by simpa using hl),fun hl=>s5 (by simpa using hl),fun hl=>s6 (by simpa using hl),fun hl=>s7 (by simpa using hl),fun hl=>s8 (by simpa using hl),fun hl=>s9 (by simpa using hl),fun hl=>s10 (by simpa using hl),fun hl=>s11 (by simpa using hl),fun hl=>s12 (by simpa using hl),by omega,hag,?_⟩)
    have:dfT bx b k id b6 n2 o a d [(0,.op bx 31 0 0),(2,.op nx 26 0 0),(6,.op b6 16 0 0)] Ut (L 13) (L 14) (L 15) (L 16) (L 17) true (iW M (some 10) (eI (fC o.Props a.Key d).2)) wL (rJ+1):=.inr ⟨c0,m,m1,by omega,m3,m4,p14,p15,p16,Uo,fun _=>rfl⟩
    simpa using this
  |n+19,ho,hd,hj=>cases ho
 .obtain ⟨hM,-,-,-,-,-,-,-,-,-,-,-,-,-,hn2,hag,hT⟩:=hS
  rcases hT with ⟨c0,-⟩|⟨c0,m,m1,m2,m3,m4,p14,p15,p16,Uo,WR⟩
  .exact absurd (c0.symm.trans (hall 13 (by decide))) (by decide)
  .exact ⟨m,⟨hM.1,hM.2.1,Uo (hall 17 (by decide)),WR (hall 18 (by decide)),trivial⟩,m1,m2,m3,hag⟩
 .obtain ⟨m,hM,l,m',hm,hag⟩:=hK
  refine nY _ hM ?_
  clear hM
  have BX:=(hag bx hbx).trans BX
  have BB:=(hag b hb2).trans BB
  have B2:=(hag nx (by omega)).trans B2
  have hlo:∀j,j<nx->Jy j=ah j:=fun j hj=>(hag j (by omega)).trans (hlo j hj)
  obtain ⟨plc,alM,alN⟩:=afP
  refine fA (fA (dR ?_))
  refine iJ rfl rfl rfl rfl (pX rfl rfl rfl rfl rfl (fun K h=>⟨rfl,h⟩) (dU rfl ?_))
  refine jT rfl (fun hpt=>?_) fun hpt=>nJ ?_
  .have ah8:iO (fC o.Props a.Key d).2 0=true:=hpt
   refine fA (dR ?_)
   refine xk rfl rfl rfl rfl yc alM alN ?_
   refine kQ rfl rfl rfl rfl rfl qW B2 rfl rfl rfl (Nat.le_refl 26) (dU rfl ?_)
   rw [hdef,ah8]
   refine mM ⟨.inr rfl,nx,P_ ⟨3,WZ,false,false,d0,[],2,[116,111,111,32,109,97,110,121]⟩,rfl,eY rfl,Um rfl,by omega,fun j hj hjb=>?_,id,afQ (by omega) fun j hj=>?_⟩
   .rw [aoE (by omega)];exact hlo j hj
   .rw [aoE (by omega)];exact hlo j hj
  have ah8:iO (fC o.Props a.Key d).2 0=false:=hpt
  rw [hdef,ah8]
  refine fA (dR ?_)
  refine iJ rfl rfl rfl rfl (pF rfl rfl rfl rfl (jJ rfl rfl rfl rfl qO rfl ?_))
  refine iH rfl rfl rfl rfl zF BX rfl (v:=.op b 18 k 0) rfl ?_
  refine iJ rfl rfl rfl rfl (pF rfl rfl rfl rfl (jJ rfl rfl rfl rfl uG rfl ?_))
  refine kQ rfl rfl rfl rfl rfl D7 BB rfl rfl hrow (Nat.le_of_ble_eq_true rfl) (dU rfl ?_)
  refine fA (dR ?_)
  refine rF rfl rfl rfl rfl (Vd:=[eB true]) rfl (fun _ _ _ h=>h) (kL true) (.inl rfl) ?_
  refine kQ rfl rfl rfl rfl rfl qW (rs:=[zO.enc.set 23 (.sl [] true)]) (by rw [aoE (by omega)];exact B2) rfl rfl rfl (Nat.le_refl 26) (dU rfl ?_)
  have hkF:k<F.length:=(List.getElem?_eq_some_iff.1 s.at').1
  refine mM ⟨.inr rfl,nx,(dW true).enc,rfl,eY rfl,Jw _,by omega,fun j hj hjb=>?_,m,?_⟩
  .rw [aoE (by omega),aoE hjb];exact hlo j hj
  .refine s.DK.swap hkF (by omega) ?_ (fun e he=>?_) ?_ (by omega) (by omega)
   .rw [aoE (by omega),eY rfl]
    simp only [List.map_nil,List.append_nil]
    rfl
   .have q:=s.DK.blk e he
    rw [aoE (by omega),aoE q.2.2.2]
    exact hlo _ q.2.2.1
   .rw [aoE (by omega),aoE (by omega)]
    exact hm
end Go.Fw
end
section
namespace Go.Fw
open Go.Proofs
set_option maxRecDepth 100000
theorem afR : rP Tryz.prog 31 6=some (15,false,1):=by kernel_rfl
def OO (a:iK)(o:dQ):dQ×gZ:=
 bif (dZ o.Props a.Key).2.1&&!(dZ o.Props a.Key).1.Configurable then (o,dW false) else ({o with Props:=(fK o.Props a.Key).1},dW true)
def drT (bx b k id rH:Nat)(o:dQ)(a:iK)(M0:MT)(nX:AH)(C C17 C18 C19:Bool)(M:MT)(ah:AH)(nx:Nat):Prop:=
 (C=false/\C17=false/\C18=false/\C19=false)\/
 (C=true/\∃m,rH<=m/\m<nx/\ah m=some (.rows 18 ((fK o.Props a.Key).1.map dJ.enc))/\fD M 47=some (.kS [.os m 18 0 ((fK o.Props a.Key).1.map dJ.enc).length,eI (fK o.Props a.Key).2])/\(C17=true->fD M 30=some (.kS [.os m 18 0 ((fK o.Props a.Key).1.map dJ.enc).length,eI (fK o.Props a.Key).2]))/\(C18=true->fD M 48=some (.os m 18 0 ((fK o.Props a.Key).1.map dJ.enc).length))/\(C19=true->fD M 49=some (eI (fK o.Props a.Key).2)))
theorem drT.keep {bx b k id rH:Nat}{o:dQ}{a:iK}{M0:MT}{nX:AH}{C C17 C18 C19:Bool}{M M':MT}{ah:AH}{nx nx':Nat}(h:drT bx b k id rH o a M0 nX C C17 C18 C19 M ah nx)(e47:fD M' 47=fD M 47)(e30:fD M' 30=fD M 30)(e48:fD M' 48=fD M 48)(e49:fD M' 49=fD M 49)(hn:nx<=nx'):drT bx b k id rH o a M0 nX C C17 C18 C19 M' ah nx':=by
 unfold drT at h ⊢
 rw [e47,e30,e48,e49]
 rcases h with h|⟨h1,m,h2,h3,h4⟩
 .exact .inl h
 .exact .inr ⟨h1,m,h2,by omega,h4⟩
def drS (bx b k id rH:Nat)(o:dQ)(a:iK)(M0:MT)(nX:AH):(Nat->Bool)->MT->AH->Nat->Prop:=fun L M ah nx=>
 ML M M0/\(L 0=true->fD M 31=some (.op bx 31 0 0))/\(L 1=true->fD M 32=some (.op bx 31 0 0))/\(L 2=true->fD M 33=some (.op bx 31 0 1))/\(L 3=true->fD M 34=some (.op b 18 k 0))/\(L 4=true->fD M 35=some (.op bx 31 0 0))/\(L 5=true->fD M 36=some (.op bx 31 0 0))/\(L 6=true->fD M 37=some (.op bx 31 0 1))/\(L 7=true->fD M 38=some (.op b 18 k 0))/\(L 8=true->fD M 39=some (.op b 18 k 0))/\(L 9=true->fD M 40=some (.op b 18 k 6))/\(L 10=true->fD M 41=some (.os id 18 0 (o.Props.map dJ.enc).length))/\(L 11=true->fD M 42=some (.op bx 31 0 0))/\(L 12=true->fD M 43=some (.op bx 31 0 0))/\(L 13=true->fD M 44=some (.op bx 31 0 2))/\(L 14=true->fD M 45=some (.op bx 31 0 4))/\(L 15=true->fD M 46=some (a.Key.av))/\(L 20=true->fD M 50=some (.op b 18 k 0))/\(L 21=true->fD M 51=some (.op b 18 k 6))/\rH<=nx/\(∀j,j<rH->ah j=nX j)/\drT bx b k id rH o a M0 nX (L 16) (L 17) (L 18) (L 19) M ah nx
theorem abe {h:dK}{a:iK}{F:List (dQ×Nat)}{o:dQ}{id b k bx:Nat}{ah:AH}{n0 nx:Nat}(s:FC h a F o id b k bx ah n0 nx) :
  CW Tryz.prog 20 [.op bx 31 0 0] ah nx (mK F (OO a o).1 (OO a o).2 b k ah n0 nx):=by
 have hrow:=s.row
 have hb:=s.DK.hi
 have hbl:=s.bl
 have WQ:=s.DK.blk _ (List.mem_of_getElem? s.at')
 have ah6:=WQ.2.2.1
 have LC:∀{x:Option pI},upd ah nx x id=some (.rows 18 (o.Props.map dJ.enc)):=by intro x;rw [aoE (by omega)];exact WQ.1
 refine yj (M:=[(0,.op bx 31 0 0)]) (Q:=mQ F (OO a o).1 (OO a o).2 b k ah n0 nx) Tryz.func20 rfl (by decide) (Nat.le_of_ble_eq_true rfl) ⟨rfl,trivial⟩ ?_ WM
 refine fA (dR ?_)
 refine pz rfl rfl rfl yc FB (dU rfl ?_)
 refine pq (fun M EH n1=>∃b3,ML M [(0,.op bx 31 0 0),(2,.op nx 26 0 0),(3,.op b3 16 0 0),(4,eB (dZ o.Props a.Key).2.1)]/\EH b3=some (.rows 16 [(dZ o.Props a.Key).1.enc])/\nx<b3/\b3<n1/\∀j,j<nx+1->EH j=upd ah nx (some (.rows 26 [zO.enc.set 23 (.sl [] true)])) j) (qA NR _ rfl (by kernel_rfl) (by kernel_rfl) ?_) fun M EH n1 hK=>?_
 .refine oP rfl rfl rfl rfl (lS rfl rfl rfl rfl (jv rfl rfl rfl rfl qO rfl ?_))
  refine jU rfl rfl rfl rfl (by omega) rfl zF s.bx' rfl (v:=.op b 18 k 0) rfl ?_
  refine lS rfl rfl rfl rfl (jv rfl rfl rfl rfl uG rfl ?_)
  refine jU rfl rfl rfl rfl (by omega) rfl D7 s.bb' hrow (v:=.os id 18 0 (o.Props.map dJ.enc).length) rfl ?_
  refine oP rfl rfl rfl rfl (lS rfl rfl rfl rfl (jv rfl rfl rfl rfl xE rfl (jv rfl rfl rfl rfl Jv rfl ?_)))
  refine jU rfl rfl rfl rfl (by omega) rfl WJ s.bx' rfl (v:=a.Key.av) ⟨Nat.le_of_ble_eq_true rfl,rfl⟩ ?_
  refine JZ rfl rfl rfl (fun c hc=>by have:=Yr LC c hc;omega) rfl rfl (Ui (zf LC) (qg (dL.fz a.Key))) (fun _ _ _ h=>h) (AP o.Props a.Key) (.inr rfl) ?_
  refine oP rfl rfl rfl rfl (uz rfl rfl rfl rfl rfl (uz rfl rfl rfl rfl rfl (uz rfl rfl rfl rfl rfl ?_)))
  refine LK rfl rfl rfl ZM ZN ?_
  refine JY rfl rfl rfl (by omega) rfl rfl rfl Ld (eY rfl) rfl rfl rfl (Nat.le_refl 16) ?_
  refine Aj rfl rfl rfl rfl (Aj rfl rfl rfl rfl (xq rfl ?_))
  refine ⟨_,⟨rfl,rfl,rfl,rfl,trivial⟩,eY rfl,by omega,by show _<_+21;omega,fun j hj=>?_⟩
  rw [aoE (by omega),aoE (by omega)];rfl
 obtain ⟨b3,hM,h3,l3,m3,ho1⟩:=hK
 refine nY _ hM ?_
 clear hM
 have BX:=(ho1 bx (by omega)).trans s.bx'
 have BB:=(ho1 b (by omega)).trans s.bb'
 have BI:=(ho1 id (by omega)).trans LC
 have B2:EH nx=some (.rows 26 [zO.enc.set 23 (.sl [] true)]):=(ho1 nx (by omega)).trans (eY rfl)
 have hlo:∀j,j<nx->EH j=ah j:=fun j hj=>(ho1 j (by omega)).trans (aoE (by omega))
 clear ho1
 have hdef:OO a o=bif (dZ o.Props a.Key).2.1&&!(dZ o.Props a.Key).1.Configurable then (o,dW false) else ({o with Props:=(fK o.Props a.Key).1},dW true):=rfl
 generalize dZ o.Props a.Key=f at h3 hdef
 have afQ:∀{ahx:AH} {m:Nat},nx<=m->(∀j,j<nx->ahx j=ah j)->vS (F.set k (o,id)) [] b ahx n0 m:=fun hm hx=>by
  rw [BN s.at']
  exact s.DK.frame (by omega) fun j hj hj'=>hx j hj'
 refine pq (fun M wL n2=>ML M [(0,.op bx 31 0 0),(2,.op nx 26 0 0)]/\wL=EH/\n1<=n2/\(f.2.1&&!f.1.Configurable)=false) (fA (dR ?_)) fun M wL n2 hK=>?_
 .refine iJ rfl rfl rfl rfl (iJ rfl rfl rfl rfl ?_)
  cases hf1:f.2.1 with
  |false=>
   refine RP rfl rfl rfl (RP rfl rfl rfl (RP rfl rfl rfl (IC rfl rfl rfl rfl rfl (dU rfl ?_))))
   refine jT rfl (fun hc=>by cases hc) fun _=>nJ ?_
   exact ⟨⟨rfl,rfl,trivial⟩,rfl,by omega,rfl⟩
  |true=>
   refine jJ rfl rfl rfl rfl afR rfl ?_
   refine iH rfl rfl rfl rfl adS h3 rfl (v:=eB f.1.Configurable) rfl ?_
   refine RQ rfl rfl rfl rfl (fun K h=>h) (IC rfl rfl rfl rfl rfl (dU rfl ?_))
   refine jT rfl (fun hc=>?_) fun hc=>nJ ?_
   .have hc':f.1.Configurable=false:=by simpa using hc
    refine fA (dR ?_)
    refine rF rfl rfl rfl rfl (Vd:=[eB false]) rfl (fun _ _ _ h=>h) (kL false) (.inl rfl) ?_
    refine kQ rfl rfl rfl rfl rfl qW B2 rfl rfl rfl (Nat.le_refl 26) (dU rfl ?_)
    rw [hf1,hc'] at hdef
    rw [hdef]
    refine mM ⟨.inr rfl,nx,(dW false).enc,rfl,eY rfl,Jw _,by omega,fun j hj hjb=>?_,id,afQ (by omega) fun j hj=>?_⟩
    .rw [aoE (by omega)];exact hlo j hj
    .rw [aoE (by omega)];exact hlo j hj
   .have hc':f.1.Configurable=true:=by simpa using hc
    exact ⟨⟨rfl,rfl,trivial⟩,rfl,by omega,by rw [hc'];rfl⟩
 obtain ⟨hM,rfl,hn2,hfc⟩:=hK
 rw [hfc] at hdef
 refine nY _ hM ?_
 clear hM
 rw [hdef]
 generalize hP:(fK o.Props a.Key).1=P' at hdef
 have hbx:bx<n2:=by omega
 have hb2:b<n2:=by omega
 have hid:id<n2:=by omega
 have hnx:nx<n2:=by omega
 clear hn2 l3 m3 h3
 generalize wL=Ut at *
 refine pq (fun M Jy n3=>∃m,ML M [(0,.op bx 31 0 0),(2,.op nx 26 0 0)]/\Jy b=some (.rows 18 ((F.map uU).set k (zD {o with Props:=P' } m)))/\Jy m=some (.rows 18 (P'.map dJ.enc))/\n2<=m/\m<n3/\(∀j,j<n2->j≠b->Jy j=Ut j))
  (aay NR (aeU 23 rfl rfl rfl (by kernel_rfl) (by kernel_rfl) (fun L M Jy n3=>(L 22=false/\drS bx b k id n2 o a [(0,.op bx 31 0 0),(2,.op nx 26 0 0)] Ut L M Jy n3)\/(L 22=true/\∃m q,ML M [(0,.op bx 31 0 0),(2,.op nx 26 0 0),(30,.kS q)]/\q[1]?=some (eI (fK o.Props a.Key).2)/\Jy b=some (.rows 18 ((F.map uU).set k (zD {o with Props:=P' } m)))/\Jy m=some (.rows 18 (P'.map dJ.enc))/\n2<=m/\m<n3/\(∀j,j<n2->j≠b->Jy j=Ut j)))
   (.inl ⟨rfl,⟨rfl,rfl,trivial⟩,(fun hl=>by cases hl),(fun hl=>by cases hl),(fun hl=>by cases hl),(fun hl=>by cases hl),(fun hl=>by cases hl),(fun hl=>by cases hl),(fun hl=>by cases hl),(fun hl=>by cases hl),(fun hl=>by cases hl),(fun hl=>by cases hl),(fun hl=>by cases hl),(fun hl=>by cases hl),(fun hl=>by cases hl),(fun hl=>by cases hl),(fun hl=>by cases hl),(fun hl=>by cases hl),(fun hl=>by cases hl),(fun hl=>by cases hl),Nat.le_refl _,fun j hj=>rfl,.inl ⟨rfl,rfl,rfl,rfl⟩⟩) (fun L M wL rJ j o' hS hcl hmj hjn hj ho hd=>?_) fun L M wL rJ hS hall=>?_)) fun M Jy n3 hK=>?_
 .rcases hS with ⟨h22,hS⟩|⟨h22,m,q,hM,hq,g1,g2,g3,g4,g5⟩
  .by_cases hne:j=22
   .subst hne
    obtain ⟨hM,s0,s1,s2,s3,s4,s5,s6,s7,s8,s9,s10,s11,s12,s13,s14,s15,s20,OQ,hn2,hag,hT⟩:=hS
    obtain rfl:=Option.some.inj ho
    have l18:L 18=true:=hd _ (.tail _ (.head _)) rfl
    have l21:L 21=true:=hd _ (.head _) rfl
    have l16:L 16=true:=hd _ (.tail _ (.tail _ (.head _))) rfl
    rcases hT with ⟨c0,-⟩|⟨c0,m,m1,m2,m3,m4,Uo,WR,p19⟩
    .exact absurd (c0.symm.trans l16) (by decide)
    have l17:L 17=true:=by
     cases hl:L 17 with
     |true=>rfl
     |false=>exact absurd (hcl 18 17 l18 (by kernel_rfl)) (by rw [hl];decide)
    refine kQ rfl rfl rfl (OQ l21) (WR l18) D7 ((hag _ hb2).trans BB) rfl rfl hrow (Nat.le_of_ble_eq_true rfl) (dU rfl ⟨rfl,.inr ⟨by simp,m,_,⟨hM.1,hM.2.1,Uo l17,trivial⟩,rfl,?_,?_,m1,by omega,fun j hj hjb=>?_⟩⟩)
    .rw [eY rfl]
     simp only [List.map_nil,List.append_nil]
     rw [<- hP]
     rfl
    .rw [aoE (by omega),m3,hP]
    .rw [aoE hjb];exact hag j hj
   have key:tJ Tryz.prog #[o'] 0 53 M wL rJ (fun e M' eX nx'=>e=.normal/\drS bx b k id n2 o a [(0,.op bx 31 0 0),(2,.op nx 26 0 0)] Ut (fun i=>L i||i == j) M' eX nx'):=by
    .obtain ⟨hM,s0,s1,s2,s3,s4,s5,s6,s7,s8,s9,s10,s11,s12,s13,s14,s15,s20,OQ,hn2,hag,hT⟩:=hS
     match j,ho,hd,hj with
     |0,ho,hd,hj=>
      obtain rfl:=Option.some.inj ho
      refine iJ rfl rfl rfl hM.1 (dU rfl ⟨rfl,hM,fun _=>rfl,fun hl=>s1 (by simpa using hl),fun hl=>s2 (by simpa using hl),fun hl=>s3 (by simpa using hl),fun hl=>s4 (by simpa using hl),fun hl=>s5 (by simpa using hl),fun hl=>s6 (by simpa using hl),fun hl=>s7 (by simpa using hl),fun hl=>s8 (by simpa using hl),fun hl=>s9 (by simpa using hl),fun hl=>s10 (by simpa using hl),fun hl=>s11 (by simpa using hl),fun hl=>s12 (by simpa using hl),fun hl=>s13 (by simpa using hl),fun hl=>s14 (by simpa using hl),fun hl=>s15 (by simpa using hl),fun hl=>s20 (by simpa using hl),fun hl=>OQ (by simpa using hl),by omega,hag,?_⟩)
      have:=hT.keep (M':=iW M (some 31) (.op bx 31 0 0)) (nx':=rJ+1) rfl rfl rfl rfl (by omega)
      simpa using this
     |1,ho,hd,hj=>
      obtain rfl:=Option.some.inj ho
      refine pF rfl rfl rfl (s0 (hd _ (.head _) rfl)) (dU rfl ⟨rfl,hM,fun hl=>s0 (by simpa using hl),fun _=>rfl,fun hl=>s2 (by simpa using hl),fun hl=>s3 (by simpa using hl),fun hl=>s4 (by simpa using hl),fun hl=>s5 (by simpa using hl),fun hl=>s6 (by simpa using hl),fun hl=>s7 (by simpa using hl),fun hl=>s8 (by simpa using hl),fun hl=>s9 (by simpa using hl),fun hl=>s10 (by simpa using hl),fun hl=>s11 (by simpa using hl),fun hl=>s12 (by simpa using hl),fun hl=>s13 (by simpa using hl),fun hl=>s14 (by simpa using hl),fun hl=>s15 (by simpa using hl),fun hl=>s20 (by simpa using hl),fun hl=>OQ (by simpa using hl),by omega,hag,?_⟩)
      have:=hT.keep (M':=iW M (some 32) (.op bx 31 0 0)) (nx':=rJ+1) rfl rfl rfl rfl (by omega)
      simpa using this
     |2,ho,hd,hj=>
      obtain rfl:=Option.some.inj ho
      refine jJ rfl rfl rfl (s1 (hd _ (.head _) rfl)) qO rfl (dU rfl ⟨rfl,hM,fun hl=>s0 (by simpa using hl),fun hl=>s1 (by simpa using hl),fun _=>rfl,fun hl=>s3 (by simpa using hl),fun hl=>s4 (by simpa using hl),fun hl=>s5 (by simpa using hl),fun hl=>s6 (by simpa using hl),fun hl=>s7 (by simpa using hl),fun hl=>s8 (by simpa using hl),fun hl=>s9 (by simpa using hl),fun hl=>s10 (by simpa using hl),fun hl=>s11 (by simpa using hl),fun hl=>s12 (by simpa using hl),fun hl=>s13 (by simpa using hl),fun hl=>s14 (by simpa using hl),fun hl=>s15 (by simpa using hl),fun hl=>s20 (by simpa using hl),fun hl=>OQ (by simpa using hl),by omega,hag,?_⟩)
      have:=hT.keep (M':=iW M (some 33) (.op bx 31 0 1)) (nx':=rJ+1) rfl rfl rfl rfl (by omega)
      simpa using this
     |3,ho,hd,hj=>
      obtain rfl:=Option.some.inj ho
      refine iH rfl rfl rfl (s2 (hd _ (.head _) rfl)) zF ((hag _ hbx).trans BX) rfl (v:=.op b 18 k 0) rfl (dU rfl ⟨rfl,hM,fun hl=>s0 (by simpa using hl),fun hl=>s1 (by simpa using hl),fun hl=>s2 (by simpa using hl),fun _=>rfl,fun hl=>s4 (by simpa using hl),fun hl=>s5 (by simpa using hl),fun hl=>s6 (by simpa using hl),fun hl=>s7 (by simpa using hl),fun hl=>s8 (by simpa using hl),fun hl=>s9 (by simpa using hl),fun hl=>s10 (by simpa using hl),fun hl=>s11 (by simpa using hl),fun hl=>s12 (by simpa using hl),fun hl=>s13 (by simpa using hl),fun hl=>s14 (by simpa using hl),fun hl=>s15 (by simpa using hl),fun hl=>s20 (by simpa using hl),fun hl=>OQ (by simpa using hl),by omega,hag,?_⟩)
      have:=hT.keep (M':=iW M (some 34) (.op b 18 k 0)) (nx':=rJ+1) rfl rfl rfl rfl (by omega)
      simpa using this
     |4,ho,hd,hj=>
      obtain rfl:=Option.some.inj ho
      refine iJ rfl rfl rfl hM.1 (dU rfl ⟨rfl,hM,fun hl=>s0 (by simpa using hl),fun hl=>s1 (by simpa using hl),fun hl=>s2 (by simpa using hl),fun hl=>s3 (by simpa using hl),fun _=>rfl,fun hl=>s5 (by simpa using hl),fun hl=>s6 (by simpa using hl),fun hl=>s7 (by simpa using hl),fun hl=>s8 (by simpa using hl),fun hl=>s9 (by simpa using hl),fun hl=>s10 (by simpa using hl),fun hl=>s11 (by simpa using hl),fun hl=>s12 (by simpa using hl),fun hl=>s13 (by simpa using hl),fun hl=>s14 (by simpa using hl),fun hl=>s15 (by simpa using hl),fun hl=>s20 (by simpa using hl),fun hl=>OQ (by simpa using hl),by omega,hag,?_⟩)
      have:=hT.keep (M':=iW M (some 35) (.op bx 31 0 0)) (nx':=rJ+1) rfl rfl rfl rfl (by omega)
      simpa using this
     |5,ho,hd,hj=>
      obtain rfl:=Option.some.inj ho
      refine pF rfl rfl rfl (s4 (hd _ (.head _) rfl)) (dU rfl ⟨rfl,hM,fun hl=>s0 (by simpa using hl),fun hl=>s1 (by simpa using hl),fun hl=>s2 (by simpa using hl),fun hl=>s3 (by simpa using hl),fun hl=>s4 (by simpa using hl),fun _=>rfl,fun hl=>s6 (by simpa using hl),fun hl=>s7 (by simpa using hl),fun hl=>s8 (by simpa using hl),fun hl=>s9 (by simpa using hl),fun hl=>s10 (by simpa using hl),fun hl=>s11 (by simpa using hl),fun hl=>s12 (by simpa using hl),fun hl=>s13 (by simpa using hl),fun hl=>s14 (by simpa using hl),fun hl=>s15 (by simpa using hl),fun hl=>s20 (by simpa using hl),fun hl=>OQ (by simpa using hl),by omega,hag,?_⟩)
      have:=hT.keep (M':=iW M (some 36) (.op bx 31 0 0)) (nx':=rJ+1) rfl rfl rfl rfl (by omega)
      simpa using this
     |6,ho,hd,hj=>
      obtain rfl:=Option.some.inj ho
      refine jJ rfl rfl rfl (s5 (hd _ (.head _) rfl)) qO rfl (dU rfl ⟨rfl,hM,fun hl=>s0 (by simpa using hl),fun hl=>s1 (by simpa using hl),fun hl=>s2 (by simpa using hl),fun hl=>s3 (by simpa using hl),fun hl=>s4 (by simpa using hl),fun hl=>s5 (by simpa using hl),fun _=>rfl,fun hl=>s7 (by simpa using hl),fun hl=>s8 (by simpa using hl),fun hl=>s9 (by simpa using hl),fun hl=>s10 (by simpa using hl),fun hl=>s11 (by simpa using hl),fun hl=>s12 (by simpa using hl),fun hl=>s13 (by simpa using hl),fun hl=>s14 (by simpa using hl),fun hl=>s15 (by simpa using hl),fun hl=>s20 (by simpa using hl),fun hl=>OQ (by simpa using hl),by omega,hag,?_⟩)
      have:=hT.keep (M':=iW M (some 37) (.op bx 31 0 1)) (nx':=rJ+1) rfl rfl rfl rfl (by omega)
      simpa using this
     |7,ho,hd,hj=>
      obtain rfl:=Option.some.inj ho
      refine iH rfl rfl rfl (s6 (hd _ (.head _) rfl)) zF ((hag _ hbx).trans BX) rfl (v:=.op b 18 k 0) rfl (dU rfl ⟨rfl,hM,fun hl=>s0 (by simpa using hl),fun hl=>s1 (by simpa using hl),fun hl=>s2 (by simpa using hl),fun hl=>s3 (by simpa using hl),fun hl=>s4 (by simpa using hl),fun hl=>s5 (by simpa using hl),fun hl=>s6 (by simpa using hl),fun _=>rfl,fun hl=>s8 (by simpa using hl),fun hl=>s9 (by simpa using hl),fun hl=>s10 (by simpa using hl),fun hl=>s11 (by simpa using hl),fun hl=>s12 (by simpa using hl),fun hl=>s13 (by simpa using hl),fun hl=>s14 (by simpa using hl),fun hl=>s15 (by simpa using hl),fun hl=>s20 (by simpa using hl),fun hl=>OQ (by simpa using hl),by omega,hag,?_⟩)
      have:=hT.keep (M':=iW M (some 38) (.op b 18 k 0)) (nx':=rJ+1) rfl rfl rfl rfl (by omega)
      simpa using this
     |8,ho,hd,hj=>
      obtain rfl:=Option.some.inj ho
      refine pF rfl rfl rfl (s7 (hd _ (.head _) rfl)) (dU rfl ⟨rfl,hM,fun hl=>s0 (by simpa using hl),fun hl=>s1 (by simpa using hl),fun hl=>s2 (by simpa using hl),fun hl=>s3 (by simpa using hl),fun hl=>s4 (by simpa using hl),fun hl=>s5 (by simpa using hl),fun hl=>s6 (by simpa using hl),fun hl=>s7 (by simpa using hl),fun _=>rfl,fun hl=>s9 (by simpa using hl),fun hl=>s10 (by simpa using hl),fun hl=>s11 (by simpa using hl),fun hl=>s12 (by simpa using hl),fun hl=>s13 (by simpa using hl),fun hl=>s14 (by simpa using hl),fun hl=>s15 (by simpa using hl),fun hl=>s20 (by simpa using hl),fun hl=>OQ (by simpa using hl),by omega,hag,?_⟩)
      have:=hT.keep (M':=iW M (some 39) (.op b 18 k 0)) (nx':=rJ+1) rfl rfl rfl rfl (by omega)
      simpa using this
     |9,ho,hd,hj=>
      obtain rfl:=Option.some.inj ho
      refine jJ rfl rfl rfl (s8 (hd _ (.head _) rfl)) uG rfl (dU rfl ⟨rfl,hM,fun hl=>s0 (by simpa using hl),fun hl=>s1 (by simpa using hl),fun hl=>s2 (by simpa using hl),fun hl=>s3 (by simpa using hl),fun hl=>s4 (by simpa using hl),fun hl=>s5 (by simpa using hl),fun hl=>s6 (by simpa using hl),fun hl=>s7 (by simpa using hl),fun hl=>s8 (by simpa using hl),fun _=>rfl,fun hl=>s10 (by simpa using hl),fun hl=>s11 (by simpa using hl),fun hl=>s12 (by simpa using hl),fun hl=>s13 (by simpa using hl),fun hl=>s14 (by simpa using hl),fun hl=>s15 (by simpa using hl),fun hl=>s20 (by simpa using hl),fun hl=>OQ (by simpa using hl),by omega,hag,?_⟩)
      have:=hT.keep (M':=iW M (some 40) (.op b 18 k 6)) (nx':=rJ+1) rfl rfl rfl rfl (by omega)
      simpa using this
     |10,ho,hd,hj=>
      obtain rfl:=Option.some.inj ho
      refine iH rfl rfl rfl (s9 (hd _ (.head _) rfl)) D7 ((hag _ hb2).trans BB) hrow (v:=.os id 18 0 (o.Props.map dJ.enc).length) rfl (dU rfl ⟨rfl,hM,fun hl=>s0 (by simpa using hl),fun hl=>s1 (by simpa using hl),fun hl=>s2 (by simpa using hl),fun hl=>s3 (by simpa using hl),fun hl=>s4 (by simpa using hl),fun hl=>s5 (by simpa using hl),fun hl=>s6 (by simpa using hl),fun hl=>s7 (by simpa using hl),fun hl=>s8 (by simpa using hl),fun hl=>s9 (by simpa using hl),fun _=>rfl,fun hl=>s11 (by simpa using hl),fun hl=>s12 (by simpa using hl),fun hl=>s13 (by simpa using hl),fun hl=>s14 (by simpa using hl),fun hl=>s15 (by simpa using hl),fun hl=>s20 (by simpa using hl),fun hl=>OQ (by simpa using hl),by omega,hag,?_⟩)
      have:=hT.keep (M':=iW M (some 41) (.os id 18 0 (o.Props.map dJ.enc).length)) (nx':=rJ+1) rfl rfl rfl rfl (by omega)
      simpa using this
     |11,ho,hd,hj=>
      obtain rfl:=Option.some.inj ho
      refine iJ rfl rfl rfl hM.1 (dU rfl ⟨rfl,hM,fun hl=>s0 (by simpa using hl),fun hl=>s1 (by simpa using hl),fun hl=>s2 (by simpa using hl),fun hl=>s3 (by simpa using hl),fun hl=>s4 (by simpa using hl),fun hl=>s5 (by simpa using hl),fun hl=>s6 (by simpa using hl),fun hl=>s7 (by simpa using hl),fun hl=>s8 (by simpa using hl),fun hl=>s9 (by simpa using hl),fun hl=>s10 (by simpa using hl),fun _=>rfl,fun hl=>s12 (by simpa using hl),fun hl=>s13 (by simpa using hl),fun hl=>s14 (by simpa using hl),fun hl=>s15 (by simpa using hl),fun hl=>s20 (by simpa using hl),fun hl=>OQ (by simpa using hl),by omega,hag,?_⟩)
      have:=hT.keep (M':=iW M (some 42) (.op bx 31 0 0)) (nx':=rJ+1) rfl rfl rfl rfl (by omega)
      simpa using this
     |12,ho,hd,hj=>
      obtain rfl:=Option.some.inj ho
      refine pF rfl rfl rfl (s11 (hd _ (.head _) rfl)) (dU rfl ⟨rfl,hM,fun hl=>s0 (by simpa using hl),fun hl=>s1 (by simpa using hl),fun hl=>s2 (by simpa using hl),fun hl=>s3 (by simpa using hl),fun hl=>s4 (by simpa using hl),fun hl=>s5 (by simpa using hl),fun hl=>s6 (by simpa using hl),fun hl=>s7 (by simpa using hl),fun hl=>s8 (by simpa using hl),fun hl=>s9 (by simpa using hl),fun hl=>s10 (by simpa using hl),fun hl=>s11 (by simpa using hl),fun _=>rfl,fun hl=>s13 (by simpa using hl),fun hl=>s14 (by simpa using hl),fun hl=>s15 (by simpa using hl),fun hl=>s20 (by simpa using hl),fun hl=>OQ (by simpa using hl),by omega,hag,?_⟩)
      have:=hT.keep (M':=iW M (some 43) (.op bx 31 0 0)) (nx':=rJ+1) rfl rfl rfl rfl (by omega)
      simpa using this
     |13,ho,hd,hj=>
      obtain rfl:=Option.some.inj ho
      refine jJ rfl rfl rfl (s12 (hd _ (.head _) rfl)) xE rfl (dU rfl ⟨rfl,hM,fun hl=>s0 (by simpa using hl),fun hl=>s1 (by simpa using hl),fun hl=>s2 (by simpa using hl),fun hl=>s3 (by simpa using hl),fun hl=>s4 (by simpa using hl),fun hl=>s5 (by simpa using hl),fun hl=>s6 (by simpa using hl),fun hl=>s7 (by simpa using hl),fun hl=>s8 (by simpa using hl),fun hl=>s9 (by simpa using hl),fun hl=>s10 (by simpa using hl),fun hl=>s11 (by simpa using hl),fun hl=>s12 (by simpa using hl),fun _=>rfl,fun hl=>s14 (by simpa using hl),fun hl=>s15 (by simpa using hl),fun hl=>s20 (by simpa using hl),fun hl=>OQ (by simpa using hl),by omega,hag,?_⟩)
      have:=hT.keep (M':=iW M (some 44) (.op bx 31 0 2)) (nx':=rJ+1) rfl rfl rfl rfl (by omega)
      simpa using this
     |14,ho,hd,hj=>
      obtain rfl:=Option.some.inj ho
      refine jJ rfl rfl rfl (s13 (hd _ (.head _) rfl)) Jv rfl (dU rfl ⟨rfl,hM,fun hl=>s0 (by simpa using hl),fun hl=>s1 (by simpa using hl),fun hl=>s2 (by simpa using hl),fun hl=>s3 (by simpa using hl),fun hl=>s4 (by simpa using hl),fun hl=>s5 (by simpa using hl),fun hl=>s6 (by simpa using hl),fun hl=>s7 (by simpa using hl),fun hl=>s8 (by simpa using hl),fun hl=>s9 (by simpa using hl),fun hl=>s10 (by simpa using hl),fun hl=>s11 (by simpa using hl),fun hl=>s12 (by simpa using hl),fun hl=>s13 (by simpa using hl),fun _=>rfl,fun hl=>s15 (by simpa using hl),fun hl=>s20 (by simpa using hl),fun hl=>OQ (by simpa using hl),by omega,hag,?_⟩)
      have:=hT.keep (M':=iW M (some 45) (.op bx 31 0 4)) (nx':=rJ+1) rfl rfl rfl rfl (by omega)
      simpa using this
     |15,ho,hd,hj=>
      obtain rfl:=Option.some.inj ho
      refine iH rfl rfl rfl (s14 (hd _ (.head _) rfl)) WJ ((hag _ hbx).trans BX) rfl (v:=a.Key.av) ⟨Nat.le_of_ble_eq_true rfl,rfl⟩ (dU rfl ⟨rfl,hM,fun hl=>s0 (by simpa using hl),fun hl=>s1 (by simpa using hl),fun hl=>s2 (by simpa using hl),fun hl=>s3 (by simpa using hl),fun hl=>s4 (by simpa using hl),fun hl=>s5 (by simpa using hl),fun hl=>s6 (by simpa using hl),fun hl=>s7 (by simpa using hl),fun hl=>s8 (by simpa using hl),fun hl=>s9 (by simpa using hl),fun hl=>s10 (by simpa using hl),fun hl=>s11 (by simpa using hl),fun hl=>s12 (by simpa using hl),fun hl=>s13 (by simpa using hl),fun hl=>s14 (by simpa using hl),fun _=>rfl,fun hl=>s20 (by simpa using hl),fun hl=>OQ (by simpa using hl),by omega,hag,?_⟩)
      have:=hT.keep (M':=iW M (some 46) (a.Key.av)) (nx':=rJ+1) rfl rfl rfl rfl (by omega)
      simpa using this
     |20,ho,hd,hj=>
      obtain rfl:=Option.some.inj ho
      refine pF rfl rfl rfl (s3 (hd _ (.head _) rfl)) (dU rfl ⟨rfl,hM,fun hl=>s0 (by simpa using hl),fun hl=>s1 (by simpa using hl),fun hl=>s2 (by simpa using hl),fun hl=>s3 (by simpa using hl),fun hl=>s4 (by simpa using hl),fun hl=>s5 (by simpa using hl),fun hl=>s6 (by simpa using hl),fun hl=>s7 (by simpa using hl),fun hl=>s8 (by simpa using hl),fun hl=>s9 (by simpa using hl),fun hl=>s10 (by simpa using hl),fun hl=>s11 (by simpa using hl),fun hl=>s12 (by simpa using hl),fun hl=>s13 (by simpa using hl),fun hl=>s14 (by simpa using hl),fun hl=>s15 (by simpa using hl),fun _=>rfl,fun hl=>OQ (by simpa using hl),by omega,hag,?_⟩)
      have:=hT.keep (M':=iW M (some 50) (.op b 18 k 0)) (nx':=rJ+1) rfl rfl rfl rfl (by omega)
      simpa using this
     |21,ho,hd,hj=>
      obtain rfl:=Option.some.inj ho
      refine jJ rfl rfl rfl (s20 (hd _ (.head _) rfl)) uG rfl (dU rfl ⟨rfl,hM,fun hl=>s0 (by simpa using hl),fun hl=>s1 (by simpa using hl),fun hl=>s2 (by simpa using hl),fun hl=>s3 (by simpa using hl),fun hl=>s4 (by simpa using hl),fun hl=>s5 (by simpa using hl),fun hl=>s6 (by simpa using hl),fun hl=>s7 (by simpa using hl),fun hl=>s8 (by simpa using hl),fun hl=>s9 (by simpa using hl),fun hl=>s10 (by simpa using hl),fun hl=>s11 (by simpa using hl),fun hl=>s12 (by simpa using hl),fun hl=>s13 (by simpa using hl),fun hl=>s14 (by simpa using hl),fun hl=>s15 (by simpa using hl),fun hl=>s20 (by simpa using hl),fun _=>rfl,by omega,hag,?_⟩)
      have:=hT.keep (M':=iW M (some 51) (.op b 18 k 6)) (nx':=rJ+1) rfl rfl rfl rfl (by omega)
      simpa using this
     |16,ho,hd,hj=>
      obtain rfl:=Option.some.inj ho
      rcases hT with ⟨c0,c17,c18,c19⟩|⟨c0,-⟩
      .refine yh rfl rfl (ajJ (s10 (hd _ (.head _) rfl)) (s15 (hd _ (.tail _ (.head _)) rfl))) ((afO (l:=o.Props) ((hag _ hid).trans BI) a.Key).mono fun r Jy n3 hr=>?_)
       obtain ⟨rfl,rfl,rfl⟩:=hr
       refine dU rfl ⟨rfl,hM,fun hl=>s0 (by simpa using hl),fun hl=>s1 (by simpa using hl),fun hl=>s2 (by simpa using hl),fun hl=>s3 (by simpa using hl),fun hl=>s4 (by simpa using hl),fun hl=>s5 (by simpa using hl),fun hl=>s6 (by simpa using hl),fun hl=>s7 (by simpa using hl),fun hl=>s8 (by simpa using hl),fun hl=>s9 (by simpa using hl),fun hl=>s10 (by simpa using hl),fun hl=>s11 (by simpa using hl),fun hl=>s12 (by simpa using hl),fun hl=>s13 (by simpa using hl),fun hl=>s14 (by simpa using hl),fun hl=>s15 (by simpa using hl),fun hl=>s20 (by simpa using hl),fun hl=>OQ (by simpa using hl),by omega,fun j hj=>by rw [aoE (by omega)];exact hag j hj,?_⟩
       have:drT bx b k id n2 o a [(0,.op bx 31 0 0),(2,.op nx 26 0 0)] Ut true (L 17) (L 18) (L 19) (iW M (some 47) (.kS [.os rJ 18 0 ((fK o.Props a.Key).1.map dJ.enc).length,eI (fK o.Props a.Key).2])) (upd wL rJ (some (.rows 18 ((fK o.Props a.Key).1.map dJ.enc)))) (rJ+1):=.inr ⟨rfl,rJ,hn2,by omega,eY rfl,rfl,fun h=>absurd (c17.symm.trans h) (by decide),fun h=>absurd (c18.symm.trans h) (by decide),fun h=>absurd (c19.symm.trans h) (by decide)⟩
       simpa using this
      .rw [c0] at hj;cases hj
     |17,ho,hd,hj=>
      obtain rfl:=Option.some.inj ho
      rcases hT with ⟨c0,c17,c18,c19⟩|⟨c0,m,m1,m2,m3,m4,Uo,WR,p19⟩
      .exact absurd (c0.symm.trans (hd _ (.head _) rfl)) (by decide)
      .refine iJ rfl rfl rfl m4 (dU rfl ⟨rfl,hM,fun hl=>s0 (by simpa using hl),fun hl=>s1 (by simpa using hl),fun hl=>s2 (by simpa using hl),fun hl=>s3 (by simpa using hl),fun hl=>s4 (by simpa using hl),fun hl=>s5 (by simpa using hl),fun hl=>s6 (by simpa using hl),fun hl=>s7 (by simpa using hl),fun hl=>s8 (by simpa using hl),fun hl=>s9 (by simpa using hl),fun hl=>s10 (by simpa using hl),fun hl=>s11 (by simpa using hl),fun hl=>s12 (by simpa using hl),fun hl=>s13 (by simpa using hl),fun hl=>s14 (by simpa using hl),fun hl=>s15 (by simpa using hl),fun hl=>s20 (by simpa using hl),fun hl=>OQ (by simpa using hl),by omega,hag,?_⟩)
       have:drT bx b k id n2 o a [(0,.op bx 31 0 0),(2,.op nx 26 0 0)] Ut (L 16) true (L 18) (L 19) (iW M (some 30) (.kS [.os m 18 0 ((fK o.Props a.Key).1.map dJ.enc).length,eI (fK o.Props a.Key).2])) wL (rJ+1):=.inr ⟨c0,m,m1,by omega,m3,m4,fun _=>rfl,WR,p19⟩
       simpa using this
     |18,ho,hd,hj=>
      obtain rfl:=Option.some.inj ho
      rcases hT with ⟨c0,c17,c18,c19⟩|⟨c0,m,m1,m2,m3,m4,Uo,WR,p19⟩
      .exact absurd (c17.symm.trans (hd _ (.head _) rfl)) (by decide)
      .refine sZ rfl rfl rfl (Uo (hd _ (.head _) rfl)) rfl (dU rfl ⟨rfl,hM,fun hl=>s0 (by simpa using hl),fun hl=>s1 (by simpa using hl),fun hl=>s2 (by simpa using hl),fun hl=>s3 (by simpa using hl),fun hl=>s4 (by simpa using hl),fun hl=>s5 (by simpa using hl),fun hl=>s6 (by simpa using hl),fun hl=>s7 (by simpa using hl),fun hl=>s8 (by simpa using hl),fun hl=>s9 (by simpa using hl),fun hl=>s10 (by simpa using hl),fun hl=>s11 (by simpa using hl),fun hl=>s12 (by simpa using hl),fun hl=>s13 (by simpa using hl),fun hl=>s14 (by simpa using hl),fun hl=>s15 (by simpa using hl),fun hl=>s20 (by simpa using hl),fun hl=>OQ (by simpa using hl),by omega,hag,?_⟩)
       have:drT bx b k id n2 o a [(0,.op bx 31 0 0),(2,.op nx 26 0 0)] Ut (L 16) (L 17) true (L 19) (iW M (some 48) (.os m 18 0 ((fK o.Props a.Key).1.map dJ.enc).length)) wL (rJ+1):=.inr ⟨c0,m,m1,by omega,m3,m4,Uo,fun _=>rfl,p19⟩
       simpa using this
     |19,ho,hd,hj=>
      obtain rfl:=Option.some.inj ho
      rcases hT with ⟨c0,c17,c18,c19⟩|⟨c0,m,m1,m2,m3,m4,Uo,WR,p19⟩
      .exact absurd (c17.symm.trans (hd _ (.head _) rfl)) (by decide)
      .refine sZ rfl rfl rfl (Uo (hd _ (.head _) rfl)) rfl (dU rfl ⟨rfl,hM,fun hl=>s0 (by simpa using hl),fun hl=>s1 (by simpa using hl),fun hl=>s2 (by simpa using hl),fun hl=>s3 (by simpa using hl),fun hl=>s4 (by simpa using hl),fun hl=>s5 (by simpa using hl),fun hl=>s6 (by simpa using hl),fun hl=>s7 (by simpa using hl),fun hl=>s8 (by simpa using hl),fun hl=>s9 (by simpa using hl),fun hl=>s10 (by simpa using hl),fun hl=>s11 (by simpa using hl),fun hl=>s12 (by simpa using hl),fun hl=>s13 (by simpa using hl),fun hl=>s14 (by simpa using hl),fun hl=>s15 (by simpa using hl),fun hl=>s20 (by simpa using hl),fun hl=>OQ (by simpa using hl),by omega,hag,?_⟩)
       have:drT bx b k id n2 o a [(0,.op bx 31 0 0),(2,.op nx 26 0 0)] Ut (L 16) (L 17) (L 18) true (iW M (some 49) (eI (fK o.Props a.Key).2)) wL (rJ+1):=.inr ⟨c0,m,m1,by omega,m3,m4,Uo,WR,fun _=>rfl⟩
       simpa using this
     |22,ho,hd,hj=>exact absurd rfl hne
     |n+23,ho,hd,hj=>omega
   exact key.mono fun e M ah nx hq=>⟨hq.1,.inl ⟨by simp only [h22,Bool.false_or];simpa using fun h=>hne h.symm,hq.2⟩⟩
  .by_cases h19:j=19
   .subst h19
    obtain rfl:=Option.some.inj ho
    exact sZ rfl rfl rfl hM.2.2.1 hq (dU rfl ⟨rfl,.inr ⟨by simp [h22],m,q,⟨hM.1,hM.2.1,hM.2.2.1,trivial⟩,hq,g1,g2,g3,by omega,g5⟩⟩)
   .exfalso
    have:L j=true:=by
     by_cases e:j=22
     .rw [e];exact h22
     .refine hcl 22 j h22 ?_
      have all:∀j,j<23->j≠22->j≠19->Nat.testBit (2 ^ 22-1-2 ^ 19) j=true:=by decide
      exact all j hjn e h19
    rw [hj] at this;cases this
 .rcases hS with ⟨h22,-⟩|⟨h22,m,q,hM,hq,g1,g2,g3,g4,g5⟩
  .exact absurd (h22.symm.trans (hall 22 (by decide))) (by decide)
  exact aeT rfl ⟨m,⟨hM.1,hM.2.1,trivial⟩,g1,g2,g3,g4,g5⟩
 .obtain ⟨m,hM,hbb,hm,lm,mm,ho3⟩:=hK
  refine nY _ hM ?_
  clear hM
  have B2':=(ho3 nx (by omega) (by omega)).trans B2
  refine fA (dR ?_)
  refine rF rfl rfl rfl rfl (Vd:=[eB true]) rfl (fun _ _ _ h=>h) (kL true) (.inl rfl) ?_
  refine kQ rfl rfl rfl rfl rfl qW B2' rfl rfl rfl (Nat.le_refl 26) (dU rfl ?_)
  have hkF:k<F.length:=(List.getElem?_eq_some_iff.1 s.at').1
  refine mM ⟨.inr rfl,nx,(dW true).enc,rfl,eY rfl,Jw _,by omega,fun j hj hjb=>?_,m,?_⟩
  .rw [aoE (by omega),ho3 j (by omega) hjb];exact hlo j hj
  .refine s.DK.swap hkF (by omega) ?_ (fun e he=>?_) ?_ (by omega) (by omega)
   .rw [aoE (by omega),hbb];rfl
   .have q:=s.DK.blk e he
    rw [aoE (by omega),ho3 _ (by omega) q.2.2.2]
    exact hlo _ q.2.2.1
   .rw [aoE (by omega)]
    exact hm
theorem ad3 (l:List dL):∀row∈l.map dL.enc,KA row=true:=by
 intro row h
 obtain ⟨x,-,rfl⟩:=List.mem_map.1 h
 rfl
theorem afT {ah:AH}{nx id:Nat}{l:List dJ}(h:ah id=some (.rows 18 (l.map dJ.enc))) :
  CW Tryz.prog 45 [.os id 18 0 (l.map dJ.enc).length] ah nx (fun r eX nx'=>r=.kS [.os nx 2 0 ((jC l).1.map dL.enc).length,eI (jC l).2]/\eX=upd ah nx (some (.rows 2 ((jC l).1.map dL.enc)))/\nx'=nx+1):=
 Hr (by simp only [kN,zf h,Option.bind_some,Option.map_some]) rfl rfl rfl (ad3 _) rfl (P9 l) ⟨rfl,rfl,rfl⟩
theorem WS : ∀l:List dL,jI (l.map dL.enc)=[]
 |[]=>rfl
 |_::r=>by simp only [List.map_cons,jI,WS r];rfl
theorem WT {ah:AH}{id:Nat}{l:List dL}(h:ah id=some (.rows 2 (l.map dL.enc))):∀b∈rch ah aoK [id],b=id:=by
 have e:pR ah id=[]:=by unfold pR;rw [h];exact WS l
 intro b hb
 have:rch ah aoK [id]=[id]:=by
  show rch ah 3 [id]=[id]
  simp [rch,e]
 rw [this] at hb
 simpa using hb
theorem ad4 {ah:AH}{id:Nat}{l:List dL}(h:ah id=some (.rows 2 (l.map dL.enc))):ny (vP ah aoK) (.os id 2 0 (l.map dL.enc).length)=some (.sl (l.map dL.enc) false):=
 yH h (rZ (zk dL.jZ)) rfl
theorem afU : ∃pl,aoJ Tryz.prog 39=some pl/\∀l:List dL,uV pl (zO.enc.set 23 (.sl [] true)) [(0,.p (.int .u8 1)),(5,.sl (l.map dL.enc) false)]=some (gZ.enc ⟨1,WZ,false,false,d0,l,0,[]⟩):=⟨_,rfl,fun l=>rfl⟩
theorem abf {h:dK}{a:iK}{F:List (dQ×Nat)}{o:dQ}{id b k bx:Nat}{ah:AH}{n0 nx:Nat}(s:FC h a F o id b k bx ah n0 nx) :
  CW Tryz.prog 21 [.op bx 31 0 0] ah nx (mK F o ⟨1,WZ,false,false,d0,(jC o.Props).1,0,[]⟩ b k ah n0 nx):=by
 have hrow:=s.row
 have hb:=s.DK.hi
 have hbl:=s.bl
 have WQ:=s.DK.blk _ (List.mem_of_getElem? s.at')
 have ah6:=WQ.2.2.1
 have LC:∀{x:Option pI},upd ah nx x id=some (.rows 18 (o.Props.map dJ.enc)):=by intro x;rw [aoE (by omega)];exact WQ.1
 obtain ⟨pl,hpl,haf⟩:=afU
 refine yj (M:=[(0,.op bx 31 0 0)]) (Q:=mQ F o ⟨1,WZ,false,false,d0,(jC o.Props).1,0,[]⟩ b k ah n0 nx) Tryz.func21 rfl (by decide) (Nat.le_of_ble_eq_true rfl) ⟨rfl,trivial⟩ ?_ WM
 refine fA (dR ?_)
 refine pz rfl rfl rfl yc FB (dU rfl ?_)
 generalize hl:(jC o.Props).1=l
 refine pq (fun M EH n1=>∃m,ML M [(2,.op nx 26 0 0),(3,.os m 2 0 (l.map dL.enc).length)]/\EH m=some (.rows 2 (l.map dL.enc))/\nx<m/\m<n1/\∀j,j<nx+1->EH j=upd ah nx (some (.rows 26 [zO.enc.set 23 (.sl [] true)])) j) (dR ?_) fun M EH n1 hK=>?_
 .refine iJ rfl rfl rfl rfl (pF rfl rfl rfl rfl (jJ rfl rfl rfl rfl qO rfl ?_))
  refine iH rfl rfl rfl rfl zF s.bx' rfl (v:=.op b 18 k 0) rfl ?_
  refine pF rfl rfl rfl rfl (jJ rfl rfl rfl rfl uG rfl ?_)
  refine iH rfl rfl rfl rfl D7 s.bb' hrow (v:=.os id 18 0 (o.Props.map dJ.enc).length) rfl ?_
  refine yh rfl rfl rfl ((afT (l:=o.Props) LC).mono fun r ah4 n4 hr=>?_)
  obtain ⟨rfl,rfl,rfl⟩:=hr
  rw [hl]
  refine iJ rfl rfl rfl rfl (sZ rfl rfl rfl rfl rfl (sZ rfl rfl rfl rfl rfl (j_ rfl rfl rfl rfl (j_ rfl rfl rfl rfl (dU rfl ?_)))))
  refine ⟨_,⟨rfl,rfl,trivial⟩,eY rfl,by omega,by omega,fun j hj=>?_⟩
  rw [aoE (by omega)];rfl
 obtain ⟨m,hM,hm,lm,mm,ho1⟩:=hK
 refine nY _ hM ?_
 clear hM
 refine Vj (t:=3) rfl rfl (ad4 hm) (oL (zk dL.jZ)) ?_
 have hlo:∀j,j<nx->lJ EH (DN (rch EH aoK (AV.os m 2 0 (l.map dL.enc).length).refs)) j=ah j:=fun j hj=>by
  rw [QA (fun hc=>by have:=WT hm j hc;omega),ho1 j (by omega),aoE (by omega)]
 have B2:lJ EH (DN (rch EH aoK (AV.os m 2 0 (l.map dL.enc).length).refs)) nx=some (.rows 26 [zO.enc.set 23 (.sl [] true)]):=by
  rw [QA (fun hc=>by have:=WT hm nx hc;omega),ho1 nx (by omega),eY rfl]
 generalize lJ EH (DN (rch EH aoK (AV.os m 2 0 (l.map dL.enc).length).refs))=wL at hlo B2
 refine fA (dR ?_)
 refine iJ rfl rfl rfl rfl (xk rfl rfl rfl rfl yc hpl (haf l) ?_)
 refine kQ rfl rfl rfl rfl rfl qW B2 rfl rfl rfl (Nat.le_refl 26) (dU rfl ?_)
 refine mM ⟨.inr rfl,nx,_,rfl,eY rfl,Jw _,by omega,fun j hj hjb=>?_,id,?_⟩
 .rw [aoE (by omega)];exact hlo j hj
 .rw [BN s.at']
  exact s.DK.frame (by omega) fun j hj hj'=>by rw [aoE (by omega)];exact hlo j hj'
end Go.Fw
end
section
namespace Go.Fw
open Go.Proofs
set_option maxRecDepth 100000
theorem Le {h:dK}{a:iK}(k:AOk a)(hw:fZ h a=0):lD h a=0:=by
 rw [Jt k] at hw
 unfold Ky at hw
 cases e1:((!oH a.Method||decide (a.Object<0))||decide (a.Object>=(h.Objects.length:Int))) with
 |true=>rw [e1] at hw;exact absurd (show (2:Int)=0 from hw) (by decide)
 |false=>
  rw [e1] at hw
  cases e2:((iO (h.Objects.getD a.Object.toNat default).Kind 1&&iO (h.Objects.getD a.Object.toNat default).Kind 4)&&iO (h.Objects.getD a.Object.toNat default).Kind 5) with
  |true=>rw [e2] at hw;exact absurd (show (2:Int)=0 from hw) (by decide)
  |false=>rw [e2] at hw;exact hw
def Gl (h:dK)(a:iK)(o:dQ):dQ×gZ:=
 bif dV a.Method 1 then (o,⟨1,o.fB,false,false,d0,[],0,[]⟩)
 else bif dV a.Method 2 then Yu h a o
 else bif dV a.Method 3 then (o,dW o.Ext)
 else bif dV a.Method 4 then ({o with Ext:=false},dW true)
 else bif dV a.Method 5 then (o,⟨1,WZ,false,(dZ o.Props a.Key).2.1,(dZ o.Props a.Key).1,[],0,[]⟩)
 else bif dV a.Method 6 then Yw a o
 else bif dV a.Method 10 then OO a o
 else (o,⟨1,WZ,false,false,d0,(jC o.Props).1,0,[]⟩)
theorem ZO {h:dK}{a:iK}(hlt:a.Object.toNat<h.Objects.length):doB h a=(⟨h.Objects.set a.Object.toNat (Gl h a (h.Objects.getD a.Object.toNat default)).1⟩,(Gl h a (h.Objects.getD a.Object.toNat default)).2,0):=by
 have hset:=QU hlt
 unfold doB Gl Yu Yw OO
 dsimp only
 generalize h.Objects.getD a.Object.toNat default=o at hset
 have hh:(⟨h.Objects.set a.Object.toNat o⟩:dK)=h:=by rw [hset]
 cases dV a.Method 1 with
 |true=>simp only [cond_true,hh]
 |false=>cases dV a.Method 2 with
  |true=>cases jQ a.Value o.fB||!o.Ext||iD h a.Object a.Value<;>simp only [cond_true,cond_false,hh]
  |false=>cases dV a.Method 3 with
   |true=>simp only [cond_true,cond_false,hh]
   |false=>cases dV a.Method 4 with
    |true=>simp only [cond_true,cond_false]
    |false=>cases dV a.Method 5 with
     |true=>simp only [cond_true,cond_false,hh]
     |false=>cases dV a.Method 6 with
      |true=>
       simp only [cond_true,cond_false]
       cases !(fG o.Ext a.dY (dZ o.Props a.Key).2.1 (dZ o.Props a.Key).1).2.1 with
       |true=>simp only [cond_true,hh]
       |false=>cases iO (fC o.Props a.Key (fG o.Ext a.dY (dZ o.Props a.Key).2.1 (dZ o.Props a.Key).1).1).2 0<;>simp only [cond_true,cond_false,hh]
      |false=>cases dV a.Method 10 with
       |true=>cases (dZ o.Props a.Key).2.1&&!(dZ o.Props a.Key).1.Configurable<;>simp only [cond_true,cond_false,hh]
       |false=>simp only [cond_false,hh]
theorem ajT : qI Tryz.prog 24=some (true,1):=by kernel_rfl
theorem ah9 : ∃z pl,aoH Tryz.prog 57=some z/\aoJ Tryz.prog 57=some pl/\∀(h:dK) (b k:Nat) (a:iK),uV pl z [(0,h.av),(1,.op b 18 k 0),(2,a.av)]=some (adT h b k a):=⟨_,_,rfl,rfl,fun h b k a=>rfl⟩
theorem afV : ∃pl,aoJ Tryz.prog 39=some pl/\uV pl (zO.enc.set 23 (.sl [] true)) []=some (zO.enc.set 23 (.sl [] true)):=⟨_,rfl,rfl⟩
def doK (h:dK)(a:iK)(nX:AH)(rH:Nat):CK:=fun r ah nx=>rH<=nx/\(∀j,j<rH->ah j=nX j)/\∃v row,r=.kS [.agg [v],.agg row,eI (LY h a).2.2]/\Ul row (LY h a).2.1/\
 ((v=.sl [] true/\(LY h a).1.Objects=[])\/∃F b,v=.os b 18 0 F.length/\vS F [] b ah rH nx/\F.map (·.1)=(LY h a).1.Objects)
def doQ (h:dK)(a:iK)(nX:AH)(rH:Nat):MQ:=fun e M ah nx=>(e=.normal\/e=.ret)/\rH<=nx/\(∀j,j<rH->ah j=nX j)/\∃b4 b5 v row,fD M 4=some (.op b4 1 0 0)/\fD M 5=some (.op b5 26 0 0)/\fD M 6=some (eI (LY h a).2.2)/\
 ah b4=some (.rows 1 [[v]])/\ah b5=some (.rows 26 [row])/\Ul row (LY h a).2.1/\
 ((v=.sl [] true/\(LY h a).1.Objects=[])\/∃F b,v=.os b 18 0 F.length/\vS F [] b ah rH nx/\F.map (·.1)=(LY h a).1.Objects)
theorem ajV {N:Nat}{h:dK}{a:iK}{nX:AH}{rH:Nat}:∀e M fr ah nx,FA N M fr->doQ h a nX rH e M ah nx->(e=.normal\/e=.ret)/\tX Tryz.prog fr ah [.cell 4 24,.cell 5 39,.tmp 6] fun l=>doK h a nX rH (one l) ah nx:=by
 intro e M fr eX nx' hf hq
 obtain ⟨he,hnx,hlo,b4,b5,v,row,h4,h5,h6,hb4,hb5,hR,hv⟩:=hq
 refine ⟨he,dI.2 ⟨_,hf.get _ _ h4,dI.2 ⟨_,ajT,?_⟩⟩⟩
 dsimp only
 rw [hb4]
 refine ⟨rfl,dI.2 ⟨_,rfl,Nat.le_refl 1,?_⟩⟩
 refine dI.2 ⟨_,hf.get _ _ h5,dI.2 ⟨_,qW,?_⟩⟩
 dsimp only
 rw [hb5]
 refine ⟨rfl,dI.2 ⟨_,rfl,by rw [hR.1];exact Nat.le_refl 26,?_⟩⟩
 refine dI.2 ⟨_,hf.get _ _ h6,hnx,hlo,v,row,?_,hR,hv⟩
 have ev:((row.drop 0).take 26)=row:=by rw [List.drop_zero,List.take_of_length_le (by rw [hR.1];exact Nat.le_refl 26)]
 show AV.kS [.agg [v],.agg ((row.drop 0).take 26),_]=_
 rw [ev]
theorem vS.low {F:List (dQ×Nat)}{R:List dQ}{b n0 n0' nx:Nat}{ah:AH}(h:vS F R b ah n0 nx)(hn:n0'<=n0):vS F R b ah n0' nx:=
 ⟨h.out,Nat.le_trans hn h.lo,h.hi,fun e he=>⟨(h.blk e he).1,Nat.le_trans hn (h.blk e he).2.1,(h.blk e he).2.2⟩,h.nd⟩
structure DoS (h:dK)(a:iK)(nX:AH)(n:Nat)(ah:AH):Prop where
 b0:ah n=some (.rows 1 [h.enc])
 b1:ah (n+1)=some (.rows 29 [a.enc])
 b2:ah (n+2)=some (.rows 1 [[.sl [] true]])
 b3:ah (n+3)=some (.rows 26 [zO.enc.set 23 (.sl [] true)])
 lo:∀j,j<n->ah j=nX j
theorem DoS.frame {h:dK}{a:iK}{nX ah eX:AH}{n m:Nat}(s:DoS h a nX n ah)(hm:n+4<=m)(hh:∀j,j<m->eX j=ah j):DoS h a nX n eX:=
 ⟨by rw [hh _ (by omega)];exact s.b0,by rw [hh _ (by omega)];exact s.b1,by rw [hh _ (by omega)];exact s.b2,by rw [hh _ (by omega)];exact s.b3,fun j hj=>by rw [hh _ (by omega)];exact s.lo j hj⟩
def doM (n:Nat):MT:=[(2,.op n 1 0 0),(3,.op (n+1) 29 0 0),(4,.op (n+2) 1 0 0),(5,.op (n+3) 26 0 0)]
theorem ZP {ah:AH}(a:iK):ny ah a.av=some a.av:=qg (iK.fz a)
theorem afW {h:dK}{a:iK}(k:AOk a)(nX:AH)(rH:Nat):CW Tryz.prog 6 [h.av,a.av] nX rH (doK h a nX rH):=by
 obtain ⟨alJ,ZI,ZJ⟩:=afJ
 obtain ⟨aop,agG,agH⟩:=afV
 refine yj (M:=[(0,h.av),(1,a.av)]) (Q:=doQ h a nX rH) Tryz.func6 rfl (by decide) (Nat.le_of_ble_eq_true rfl) ⟨rfl,rfl,trivial⟩ ?_ ajV
 refine pq (fun M ah n=>ML M (doM rH)/\DoS h a nX rH ah/\rH+4<=n) (dR ?_) fun M ah n1 hK=>?_
 .refine FW rfl rfl rfl rfl rfl (FW rfl rfl rfl rfl rfl ?_)
  refine pz rfl rfl rfl Ju QW (pz rfl rfl rfl yc FB (j_ rfl rfl rfl rfl (dU rfl ?_)))
  refine ⟨⟨rfl,rfl,rfl,rfl,trivial⟩,⟨?_,?_,?_,eY rfl,fun j hj=>?_⟩,by omega⟩
  .rw [aoE (by omega),aoE (by omega),aoE (by omega)];exact eY rfl
  .rw [aoE (by omega),aoE (by omega)];exact eY rfl
  .rw [aoE (by omega)];exact eY rfl
  .rw [aoE (by omega),aoE (by omega),aoE (by omega),aoE (by omega)]
 obtain ⟨hM,hS,hn1⟩:=hK
 refine nY _ hM ?_
 clear hM
 
 have early:∀(M:MT) (ah:AH) (n:Nat) (e:Int),DoS h a nX rH ah->rH+4<=n->LY h a=(⟨[]⟩,zO,e)->fD M 4=some (.op (rH+2) 1 0 0)->fD M 5=some (.op (rH+3) 26 0 0)->fD M 6=some (eI e)->
   doQ h a nX rH .ret M (upd (upd ah (rH+2) (some (.rows 1 [[.sl [] true]]))) (rH+3) (some (.rows 26 [zO.enc.set 23 (.sl [] true)]))) n:=by
  intro M ah n e s hn hd h4 h5 h6
  rw [doQ,hd]
  refine ⟨.inr rfl,by omega,fun j hj=>?_,rH+2,rH+3,.sl [] true,P_ zO,h4,h5,h6,?_,eY rfl,Um rfl,.inl ⟨rfl,rfl⟩⟩
  .rw [aoE (by omega),aoE (by omega)];exact s.lo j hj
  .rw [aoE (by omega),eY rfl]
 
 refine fA (fA (dR ?_))
 refine iH rfl rfl rfl rfl sQ hS.b0 rfl (v:=h.av) ⟨dH 1,rfl⟩ ?_
 refine rF rfl rfl rfl rfl (OL h) (fun _ _ _ h=>h) (P6 h) (.inr rfl) ?_
 refine j_ rfl rfl rfl rfl (dU rfl ?_)
 refine fA (dR ?_)
 refine iJ rfl rfl rfl rfl (pX rfl rfl rfl rfl rfl (fun K h=>⟨rfl,h⟩) (dU rfl ?_))
 refine jT rfl (fun hc=>?_) fun hc=>nJ ?_
 .have hc':iO (iR h) 0=true:=hc
  refine fA (dR ?_)
  refine xk rfl rfl rfl rfl Ju ZI ZJ (xk rfl rfl rfl rfl yc agG agH (iJ rfl rfl rfl rfl ?_))
  refine kQ rfl rfl rfl rfl rfl sQ hS.b2 rfl rfl rfl (dH 1) ?_
  refine kQ rfl rfl rfl rfl rfl qW (rs:=[zO.enc.set 23 (.sl [] true)]) (by rw [aoE (by omega)];exact hS.b3) rfl rfl rfl (dH 26) ?_
  refine j_ rfl rfl rfl rfl (dU rfl (mM ?_))
  refine early _ _ _ (iR h) hS (by omega) ?_ rfl rfl rfl
  unfold LY;rw [hc'];rfl
 have hC:iR h=0:=qy.1 hc
 clear hc
 refine nY (doM rH) ⟨rfl,rfl,rfl,rfl,trivial⟩ ?_
 
 refine fA (fA (dR ?_))
 refine iH rfl rfl rfl rfl sQ hS.b0 rfl (v:=h.av) ⟨dH 1,rfl⟩ ?_
 refine iH rfl rfl rfl rfl ZK hS.b1 rfl (v:=a.av) ⟨dH 29,rfl⟩ ?_
 refine rF rfl rfl rfl rfl (Ui (QX h) (ZP a)) (fun _ _ _ h=>h) (Js h a) (.inr rfl) ?_
 refine j_ rfl rfl rfl rfl (dU rfl ?_)
 refine fA (dR ?_)
 refine iJ rfl rfl rfl rfl (pX rfl rfl rfl rfl rfl (fun K h=>⟨rfl,h⟩) (dU rfl ?_))
 refine jT rfl (fun hc=>?_) fun hc=>nJ ?_
 .have hc':iO (fZ h a) 0=true:=hc
  refine fA (dR ?_)
  refine xk rfl rfl rfl rfl Ju ZI ZJ (xk rfl rfl rfl rfl yc agG agH (iJ rfl rfl rfl rfl ?_))
  refine kQ rfl rfl rfl rfl rfl sQ hS.b2 rfl rfl rfl (dH 1) ?_
  refine kQ rfl rfl rfl rfl rfl qW (rs:=[zO.enc.set 23 (.sl [] true)]) (by rw [aoE (by omega)];exact hS.b3) rfl rfl rfl (dH 26) ?_
  refine j_ rfl rfl rfl rfl (dU rfl (mM ?_))
  refine early _ _ _ (fZ h a) hS (by omega) ?_ rfl rfl rfl
  unfold LY;rw [qy.2 hC,hc'];rfl
 have hw:fZ h a=0:=qy.1 hc
 clear hc early
 have hE:LY h a=doB h a:=by unfold LY;rw [qy.2 hC,qy.2 hw];rfl
 obtain ⟨a0,a1⟩:=Kq hw
 have hlt:a.Object.toNat<h.Objects.length:=by omega
 rw [ZO hlt] at hE
 have kC:=tq.1 hC
 refine nY (doM rH) ⟨rfl,rfl,rfl,rfl,trivial⟩ ?_
 
 refine pq (fun M eX n=>∃F b b9,ML M ((9,.op b9 1 0 0)::doM rH)/\DoS h a nX rH eX/\vS F [] b eX n1 b9/\F.map (·.1)=h.Objects/\eX b9=some (.rows 1 [[.os b 18 0 F.length]])/\b9<n) (dR ?_) fun M ahc n2 hK=>?_
 .refine iH rfl rfl rfl rfl sQ hS.b0 rfl (v:=h.av) ⟨dH 1,rfl⟩ ?_
  refine yh rfl rfl rfl ((aa8 h (fun o ho=>cO (kC.props o ho) (by decide)) (cO kC.len (by decide)) _ _).mono fun r wL n2 hr=>?_)
  obtain ⟨F,b,rfl,hF,WH,hlo⟩:=hr
  have acV:=hF.lo
  have acW:=hF.hi
  refine pz rfl rfl rfl Ju QW ?_
  refine kQ rfl rfl rfl rfl rfl sQ (eY rfl) rfl rfl rfl (dH 1) (dU rfl ?_)
  refine ⟨F,b,n2,⟨rfl,rfl,rfl,rfl,rfl,trivial⟩,hS.frame (m:=n1) (by omega) (fun j hj=>?_),(hF.low (by omega)).frame (dH _) (fun j h1 h2=>?_),WH,eY rfl,by omega⟩
  .rw [aoE (by omega),aoE (by omega),hlo j (by omega)]
  .rw [aoE (by omega),aoE (by omega)]
 obtain ⟨F,b,b9,hM,hS2,hF,WH,h9,l9⟩:=hK
 refine nY _ hM ?_
 clear hM
 have acV:=hF.lo
 have acW:=hF.hi
 have hFl:F.length=h.Objects.length:=by rw [<- WH,dB]
 
 obtain ⟨z57,aor,alQ,ajW,ajX⟩:=ah9
 obtain ⟨b44,Ug,ahX⟩:=adJ
 refine pq (fun M eX n=>ML M ((9,.op b9 1 0 0)::(10,.op (n2+8) 31 0 0)::doM rH)/\(∀j,j<n2->eX j=ahc j)/\eX (n2+8)=some (.rows 31 [adT h b a.Object.toNat a])/\n=n2+10) (qA NR _ rfl (by kernel_rfl) (by kernel_rfl) ?_) fun M ahd n3 hK=>?_
 .refine jU rfl rfl rfl rfl (by omega) rfl sQ hS2.b0 rfl (v:=h.av) ⟨dH 1,rfl⟩ ?_
  refine jv rfl rfl rfl rfl F9 rfl ?_
  refine jU rfl rfl rfl rfl (by omega) rfl QV h9 rfl (v:=.os b 18 0 F.length) rfl ?_
  refine jv rfl rfl rfl rfl ZL rfl ?_
  refine jU rfl rfl rfl rfl (by omega) rfl ajK hS2.b1 rfl (v:=eI a.Object) rfl ?_
  refine aeV rfl rfl rfl rfl rfl Ug a0 (by omega) rfl ?_
  refine jU rfl rfl rfl rfl (by omega) rfl ZK hS2.b1 rfl (v:=a.av) ⟨dH 29,rfl⟩ ?_
  refine aeW rfl rfl rfl rfl alQ ajW (ajX h b (0+a.Object.toNat) a) ?_
  refine aeX rfl rfl rfl rfl rfl ?_
  refine Aj rfl rfl rfl rfl (xq rfl ⟨⟨rfl,rfl,rfl,rfl,rfl,rfl,trivial⟩,fun j hj=>aoE (by omega),(by rw [eY rfl,Nat.zero_add];rfl),rfl⟩)
 obtain ⟨hM,hd,h10,rfl⟩:=hK
 refine nY _ hM ?_
 clear hM
 have hS3:=hS2.frame (m:=n2) (by omega) hd
 have hat:F[a.Object.toNat]?=some (h.Objects.getD a.Object.toNat default,(F.map (·.2)).getD a.Object.toNat 0):=by
  have hk:a.Object.toNat<F.length:=by omega
  rw [aH,aH,<- WH,bV,bV,bf hk]
  rfl
 have hA:FC h a F (h.Objects.getD a.Object.toNat default) ((F.map (·.2)).getD a.Object.toNat 0) b a.Object.toNat (n2+8) ahd n1 (n2+10):=
  ⟨hF.frame (by omega) (fun j h1 h2=>hd j (by omega)),hat,h10,by omega,by omega⟩
 have hI:=fun m2=>Ot (Le k hw) m2
 replace hA:∀nx',n2+10<=nx'->FC h a F (h.Objects.getD a.Object.toNat default) ((F.map (·.2)).getD a.Object.toNat 0) b a.Object.toNat (n2+8) ahd n1 nx':=fun nx' hn=>
  ⟨hA.DK.frame hn fun _ _ _=>rfl,hA.at',hA.box,hA.bn,cZ hA.bl hn⟩
 generalize h.Objects.getD a.Object.toNat default=o at hA hE
 generalize (F.map (·.2)).getD a.Object.toNat 0=id at hA
 refine fA (dR (j_ rfl rfl rfl rfl (dU rfl ?_)))
 refine pq (fun M eX n=>∃m,ML M ((9,.op b9 1 0 0)::(11,.fn (.func m) [.op (n2+8) 31 0 0] [])::doM rH)/\eX=ahd/\n2+10<=n/\∀nx',n2+10<=nx'->CW Tryz.prog m [.op (n2+8) 31 0 0] ahd nx' (mK F (Gl h a o).1 (Gl h a o).2 b a.Object.toNat ahd n1 nx'))
  (fA (dR ?_)) fun M eX n4 hK=>?_
 .refine jJ rfl rfl rfl rfl afL rfl (iH rfl rfl rfl rfl alK hS3.b1 rfl (v:=.p (.int .u8 a.Method)) rfl (dU rfl (vG ?_)))
  refine fA (dR (pX rfl rfl rfl rfl rfl (fun K h=>⟨rfl,h⟩) (j_ rfl rfl rfl rfl (dU rfl ?_))))
  refine jT rfl (fun hm=>?_) fun hm=>?_
  .have m1:dV a.Method 1=true:=hm
   refine dR (iJ rfl rfl rfl rfl (zX rfl rfl rfl rfl rfl (j_ rfl rfl rfl rfl (dU rfl ⟨14,⟨rfl,rfl,rfl,rfl,rfl,rfl,trivial⟩,rfl,by omega,fun nx' hn=>?_⟩))))
   unfold Gl
   rw [m1]
   exact adU (hA _ hn)
  have m1:dV a.Method 1=false:=hm
  refine fA (dR (pX rfl rfl rfl rfl rfl (fun K h=>⟨rfl,h⟩) (j_ rfl rfl rfl rfl (dU rfl ?_))))
  refine jT rfl (fun hm=>?_) fun hm=>?_
  .have m2:dV a.Method 2=true:=hm
   refine dR (iJ rfl rfl rfl rfl (zX rfl rfl rfl rfl rfl (j_ rfl rfl rfl rfl (dU rfl ⟨15,⟨rfl,rfl,rfl,rfl,rfl,rfl,trivial⟩,rfl,by omega,fun nx' hn=>?_⟩))))
   unfold Gl
   rw [m1,m2]
   exact abb (hA _ hn) hC (Ot (Le k hw) m2)
  have m2:dV a.Method 2=false:=hm
  refine fA (dR (pX rfl rfl rfl rfl rfl (fun K h=>⟨rfl,h⟩) (j_ rfl rfl rfl rfl (dU rfl ?_))))
  refine jT rfl (fun hm=>?_) fun hm=>?_
  .have m3:dV a.Method 3=true:=hm
   refine dR (iJ rfl rfl rfl rfl (zX rfl rfl rfl rfl rfl (j_ rfl rfl rfl rfl (dU rfl ⟨16,⟨rfl,rfl,rfl,rfl,rfl,rfl,trivial⟩,rfl,by omega,fun nx' hn=>?_⟩))))
   unfold Gl
   rw [m1,m2,m3]
   exact adV (hA _ hn)
  have m3:dV a.Method 3=false:=hm
  refine fA (dR (pX rfl rfl rfl rfl rfl (fun K h=>⟨rfl,h⟩) (j_ rfl rfl rfl rfl (dU rfl ?_))))
  refine jT rfl (fun hm=>?_) fun hm=>?_
  .have m4:dV a.Method 4=true:=hm
   refine dR (iJ rfl rfl rfl rfl (zX rfl rfl rfl rfl rfl (j_ rfl rfl rfl rfl (dU rfl ⟨17,⟨rfl,rfl,rfl,rfl,rfl,rfl,trivial⟩,rfl,by omega,fun nx' hn=>?_⟩))))
   unfold Gl
   rw [m1,m2,m3,m4]
   exact aa_ (hA _ hn)
  have m4:dV a.Method 4=false:=hm
  refine fA (dR (pX rfl rfl rfl rfl rfl (fun K h=>⟨rfl,h⟩) (j_ rfl rfl rfl rfl (dU rfl ?_))))
  refine jT rfl (fun hm=>?_) fun hm=>?_
  .have m5:dV a.Method 5=true:=hm
   refine dR (iJ rfl rfl rfl rfl (zX rfl rfl rfl rfl rfl (j_ rfl rfl rfl rfl (dU rfl ⟨18,⟨rfl,rfl,rfl,rfl,rfl,rfl,trivial⟩,rfl,by omega,fun nx' hn=>?_⟩))))
   unfold Gl
   rw [m1,m2,m3,m4,m5]
   exact adW (hA _ hn)
  have m5:dV a.Method 5=false:=hm
  refine fA (dR (pX rfl rfl rfl rfl rfl (fun K h=>⟨rfl,h⟩) (j_ rfl rfl rfl rfl (dU rfl ?_))))
  refine jT rfl (fun hm=>?_) fun hm=>?_
  .have m6:dV a.Method 6=true:=hm
   refine dR (iJ rfl rfl rfl rfl (zX rfl rfl rfl rfl rfl (j_ rfl rfl rfl rfl (dU rfl ⟨19,⟨rfl,rfl,rfl,rfl,rfl,rfl,trivial⟩,rfl,by omega,fun nx' hn=>?_⟩))))
   unfold Gl
   rw [m1,m2,m3,m4,m5,m6]
   exact ad1 (hA _ hn)
  have m6:dV a.Method 6=false:=hm
  refine fA (dR (pX rfl rfl rfl rfl rfl (fun K h=>⟨rfl,h⟩) (j_ rfl rfl rfl rfl (dU rfl ?_))))
  refine jT rfl (fun hm=>?_) fun hm=>?_
  .have m10:dV a.Method 10=true:=hm
   refine dR (iJ rfl rfl rfl rfl (zX rfl rfl rfl rfl rfl (j_ rfl rfl rfl rfl (dU rfl ⟨20,⟨rfl,rfl,rfl,rfl,rfl,rfl,trivial⟩,rfl,by omega,fun nx' hn=>?_⟩))))
   unfold Gl
   rw [m1,m2,m3,m4,m5,m6,m10]
   exact abe (hA _ hn)
  have m10:dV a.Method 10=false:=hm
  refine dR (iJ rfl rfl rfl rfl (zX rfl rfl rfl rfl rfl (j_ rfl rfl rfl rfl (dU rfl ⟨21,⟨rfl,rfl,rfl,rfl,rfl,rfl,trivial⟩,rfl,by omega,fun nx' hn=>?_⟩))))
  unfold Gl
  rw [m1,m2,m3,m4,m5,m6,m10]
  exact abf (hA _ hn)
 obtain ⟨m,hM,hah,hn4,hcw⟩:=hK
 rw [hah]
 clear hah
 refine nY _ hM ?_
 clear hM
 
 refine pq (fun M eX n=>∃row id',ML M ((9,.op b9 1 0 0)::doM rH)/\n2+10<=n/\Ul row (Gl h a o).2/\eX (rH+3)=some (.rows 26 [row])/\(∀j,j<n2->j≠b->j≠rH+3->eX j=ahd j)/\vS (F.set a.Object.toNat ((Gl h a o).1,id')) [] b eX n1 n) (dR ?_) fun M ahe n5 hK=>?_
 .refine iJ rfl rfl rfl rfl (Y8 rfl rfl rfl rfl ((hcw _ (by omega)).mono fun r ah5 n5 hr=>?_))
  obtain ⟨hn5,⟨row,rfl,hR⟩,abg,id',hF5⟩:=hr
  have hb3:ah5 (rH+3)=some (.rows 26 [zO.enc.set 23 (.sl [] true)]):=by rw [abg _ (by omega) (by omega)];exact hS3.b3
  refine kQ rfl rfl rfl rfl rfl qW hb3 rfl hR.1 rfl (dH 26) (dU rfl ?_)
  have amu:=hF5.lo
  refine ⟨row,id',⟨rfl,rfl,rfl,rfl,rfl,trivial⟩,by omega,hR,?_,fun j h1 h2 h3=>?_,hF5.frame (by omega) fun j h1 h2=>?_⟩
  .rw [eY rfl]
   have ev:lay (zO.enc.set 23 (.sl [] true)) 0 (AV.agg row).cells=row:=by
    show (zO.enc.set 23 (.sl [] true)).take 0++row++(zO.enc.set 23 (.sl [] true)).drop (0+row.length)=row
    rw [hR.1]
    simp [zO,gZ.enc]
   show some (pI.rows 26 [lay (zO.enc.set 23 (.sl [] true)) 0 (AV.agg row).cells])=_
   rw [ev]
  .rw [aoE h3];exact abg j (by omega) h2
  .rw [aoE (by omega)]
 obtain ⟨row,id',hM,hn5,hR,h3,abg,hF5⟩:=hK
 refine nY _ hM ?_
 clear hM
 have h9':ahe b9=some (.rows 1 [[.os b 18 0 F.length]]):=by
  rw [abg b9 l9 (by omega) (by omega),hd b9 l9];exact h9
 have h2':ahe (rH+2)=some (.rows 1 [[.sl [] true]]):=by rw [abg _ (by omega) (by omega) (by omega)];exact hS3.b2
 refine fA (qA NR _ rfl (by kernel_rfl) (by kernel_rfl) ?_)
 refine jU rfl rfl rfl rfl (by omega) rfl sQ h9' rfl (v:=.agg [.os b 18 0 F.length]) ⟨dH 1,rfl⟩ ?_
 have ev:((row.drop 0).take 26)=row:=by rw [List.drop_zero,List.take_of_length_le (by rw [hR.1];exact dH 26)]
 refine jU rfl rfl rfl rfl (by omega) rfl qW h3 rfl (v:=.agg row) ⟨by rw [hR.1];exact dH 26,by rw [ev]⟩ ?_
 refine aeY rfl rfl rfl (by omega) (vC (.inr ⟨List.not_mem_nil,by simp⟩) (vC (.inr ⟨List.not_mem_nil,by simp;omega⟩) vN)) rfl rfl sQ h2' rfl rfl rfl (dH 1) ?_
 refine JY rfl rfl rfl (by omega) rfl rfl rfl qW (rs:=[row]) (by rw [aoE (by omega)];exact h3) rfl hR.1 rfl (by rw [hR.1];exact dH 26) ?_
 refine Aj rfl rfl rfl rfl (xq rfl (mM ?_))
 rw [doQ,hE]
 refine ⟨.inr rfl,by omega,fun j hj=>?_,rH+2,rH+3,.os b 18 0 F.length,row,rfl,rfl,rfl,?_,?_,hR,.inr ⟨F.set a.Object.toNat ((Gl h a o).1,id'),b,by rw [List.length_set],(hF5.frame (by omega) fun j h1 h2=>?_).low (by omega),?_⟩⟩
 .rw [aoE (by omega),aoE (by omega),abg j (by omega) (by omega) (by omega)];exact hS3.lo j hj
 .rw [aoE (by omega),eY rfl];rfl
 .rw [eY rfl]
  have ev:lay row 0 (AV.agg row).cells=row:=by
   show row.take 0++row++row.drop (0+row.length)=row
   simp
  show some (pI.rows 26 [lay row 0 (AV.agg row).cells])=_
  rw [ev]
 .rw [aoE (by omega),aoE (by omega)]
 .rw [List.map_set,WH]
end Go.Fw
end
section
namespace Go.Fw
open Go.Proofs
set_option maxRecDepth 100000
theorem Ur {o:gZ}(hl:o.Keys.length<=4294967296):t_ o o=true:=by
 unfold t_
 dsimp only
 rw [uT,Fj,Om hl,mV.2 rfl,mV.2 rfl]
 have e1:∀b:Bool,Nh b b=true:=fun b=>by cases b<;>rfl
 have e2:wJ o.Text o.Text=true:=by unfold wJ;simp
 rw [e1,e1,e2];rfl
theorem afX {h:dK}{a:iK}(w:HWg h)(k:AOk a):(LY h a).1.Objects.length<=4294967296/\(∀o∈(LY h a).1.Objects,o.Props.length<=4294967296)/\(LY h a).2.1.Keys.length<=4294967296:=by
 unfold LY
 cases hC:iO (iR h) 0 with
 |true=>exact ⟨by simp,fun o ho=>(by cases ho),by simp [zO]⟩
 |false=>
  cases hw:iO (fZ h a) 0 with
  |true=>exact ⟨by simp,fun o ho=>(by cases ho),by simp [zO]⟩
  |false=>
   simp only [cond_false]
   have hC:=qy.1 hC
   have hw:=qy.1 hw
   obtain ⟨a0,a1⟩:=Kq hw
   have hlt:a.Object.toNat<h.Objects.length:=by omega
   have e:(vJ h a).2.2=0:=by rw [ajA hC hw,ZO hlt]
   have L:=adp (Obj.mk' w.wf e) k.v k.d
   exact ⟨cO L.ok.len (by decide),fun o ho=>cO (L.ok.props o ho) (by decide),cO adg (by decide)⟩
structure SpF (F:List (dQ×Nat))(n:Nat)(nX ah:AH):Prop where
 blk:∀e∈F,∃rs,ah e.2=some (.rows 18 rs)/\rs.length=e.1.Props.length/\Ae 18 rs
 oth:∀j,j<n->(∀e∈F,j≠e.2)->ah j=nX j
def oM (n5 b6:Nat):MT:=[(2,.op 0 1 0 0),(5,.op n5 1 0 0),(6,.op b6 1 0 0)]
def oI (F:List (dQ×Nat))(n5 b6 n:Nat)(nX:AH):Nat->MT->AH->Nat->Prop:=fun c M ah nx=>∃k,c=F.length+1-k/\k<=F.length/\M=(12,.p (.int .i64 (k:Int)))::oM n5 b6/\SpF F n nX ah/\n<=nx
def oI2 (F:List (dQ×Nat))(n5 b6 n:Nat)(nX:AH)(k l:Nat):Nat->MT->AH->Nat->Prop:=fun c M ah nx=>∃m,c=l+1-m/\m<=l/\M=(13,.p (.int .i64 (m:Int)))::(12,.p (.int .i64 (k:Int)))::oM n5 b6/\SpF F n nX ah/\n<=nx
theorem Yx (h:dK)(a:iK)(w:HWg h)(k:AOk a)(hb:D_ [AV.sl (h.Objects.map dQ.enc) false]):∃c,Tryz.f3.body=some c/\mJ Tryz.prog c 77 [(0,h.av),(1,a.av)] (fun _=>none) 0 (fun e M ah nx=>(e=.normal\/e=.ret)/\fD M 4=some (.p (.bool true))):=by
 refine ⟨_,rfl,?_⟩
 obtain ⟨hob,hlb⟩:=adO hb
 obtain ⟨b44,Ug,ahX⟩:=adJ
 obtain ⟨b52,ahW,ajH⟩:=agD
 obtain ⟨aov,ajZ⟩:=ahV
 obtain ⟨e1,e2,e3⟩:=afX w k
 refine pq (fun M ah n=>ML M [(2,.op 0 1 0 0),(3,.op 1 29 0 0)]/\ah 0=some (.rows 1 [h.enc])/\ah 1=some (.rows 29 [a.enc])/\1<n) (dR ?_) fun M ah n1 hK=>?_
 .refine FW rfl rfl rfl rfl rfl (FW rfl rfl rfl rfl rfl (j_ rfl rfl rfl rfl (dU rfl ?_)))
  refine ⟨⟨rfl,rfl,trivial⟩,?_,eY rfl,by omega⟩
  rw [aoE (by decide)];exact eY rfl
 obtain ⟨hM,h0,h1,hn1⟩:=hK
 refine nY _ hM ?_
 clear hM
 refine fA (fA (dR ?_))
 refine iH rfl rfl rfl rfl sQ h0 rfl (v:=h.av) ⟨dH 1,rfl⟩ ?_
 refine rF rfl rfl rfl rfl (OL h) (fun _ _ _ h=>h) (OJ h) (.inr rfl) (dU rfl ?_)
 refine jT rfl (fun _=>?_) fun _=>nJ ?_
 .refine fA (dR (j_ rfl rfl rfl rfl (dU rfl (mM ⟨.inr rfl,rfl⟩))))
 refine nY [(2,.op 0 1 0 0),(3,.op 1 29 0 0)] ⟨rfl,rfl,trivial⟩ ?_
 
 refine pq (fun M eX n=>∃n5,ML M [(2,.op 0 1 0 0),(3,.op 1 29 0 0),(5,.op n5 1 0 0)]/\eX 0=some (.rows 1 [h.enc])/\eX 1=some (.rows 29 [a.enc])/\eX n5=some (.rows 1 [h.enc])/\n5<n/\1<n5) (dR ?_) fun M eX n2 hK=>?_
 .refine iH rfl rfl rfl rfl sQ h0 rfl (v:=h.av) ⟨dH 1,rfl⟩ ?_
  have hp:=P5 h
  rw [Oo hlb] at hp
  refine rF rfl rfl rfl rfl (OL h) (fun _ _ _ h=>h) hp (.inl (by simp only [jY,OM];rfl)) ?_
  refine pz rfl rfl rfl Ju QW ?_
  refine kQ rfl rfl rfl rfl rfl sQ (eY rfl) rfl rfl rfl (dH 1) (dU rfl ?_)
  refine ⟨_,⟨rfl,rfl,rfl,trivial⟩,?_,?_,eY rfl,by omega,by omega⟩
  .rw [aoE (by omega),aoE (by omega)];exact h0
  .rw [aoE (by omega),aoE (by omega)];exact h1
 clear h0 h1
 obtain ⟨n5,hM,h0,h1,h5,l5,hn5⟩:=hK
 refine nY _ hM ?_
 clear hM
 
 have hE:LY h a=((LY h a).1,(LY h a).2.1,(LY h a).2.2):=rfl
 have hD:=ahQ w k
 have hcw:=afW (h:=h) k
 unfold doK at hcw
 generalize LY h a=D at hcw e1 e2 e3 hD
 obtain ⟨⟨N⟩,out,ec⟩:=D
 dsimp only at hcw e1 e2 e3
 refine afI (fun M wL n=>∃b6 b7 row v,ML M [(2,.op 0 1 0 0),(3,.op 1 29 0 0),(5,.op n5 1 0 0),(6,.op b6 1 0 0),(7,.op b7 26 0 0),(8,eI ec)]/\(∀j,j<n2->wL j=eX j)/\n2<=b6/\b6<b7/\b7<n/\wL b6=some (.rows 1 [[v]])/\wL b7=some (.rows 26 [row])/\Ul row out/\
   ((v=.sl [] true/\N=[])\/∃F b,v=.os b 18 0 F.length/\vS F [] b wL n2 b6/\F.map (·.1)=N))
  (fun M wL n=>∃b6 b7 row F b,ML M [(2,.op 0 1 0 0),(3,.op 1 29 0 0),(5,.op n5 1 0 0),(6,.op b6 1 0 0),(7,.op b7 26 0 0),(8,eI ec)]/\(∀j,j<n2->wL j=eX j)/\n2<=b7/\b7<n/\wL b7=some (.rows 26 [row])/\Ul row out/\aa9 F b b6 wL n2 n/\F.map (·.1)=N) (fun M wL n hK hk=>?_) (dR ?_) fun M wL n3 hK=>?_
 .obtain ⟨b6,b7,row,v,hM,ho,g1,g2,g3,h6,h7,hR,hv⟩:=hK
  rcases hv with ⟨rfl,rfl⟩|⟨F,b,rfl,hF,WH⟩
  .refine Y7 (l:=[]) (r:=[]) (n:=18) h6 (by omega) (hk _ _ _ ⟨b6,b7,row,[],n,hM,fun j hj=>?_,by omega,by omega,?_,hR,⟨⟨?_,by omega,by omega,(fun e he=>by cases he),List.nodup_nil⟩,eY rfl,g1,by omega,by omega,(fun e he=>by cases he)⟩,rfl⟩)
   .rw [aoE (by omega),aoE (by omega)];exact ho j hj
   .rw [aoE (by omega),aoE (by omega)];exact h7
   .rw [aoE (by omega)];exact eY rfl
  .have q:=hF.hi
   exact hk _ _ _ ⟨b6,b7,row,F,b,hM,ho,by omega,g3,h7,hR,⟨hF.frame (by omega) fun _ _ _=>rfl,h6,g1,by omega,by omega,fun e he=>by have:=(hF.blk e he).2.2.1;omega⟩,WH⟩
 .refine iH rfl rfl rfl rfl sQ h5 rfl (v:=h.av) ⟨dH 1,rfl⟩ ?_
  refine iH rfl rfl rfl rfl ZK h1 rfl (v:=a.av) ⟨dH 29,rfl⟩ ?_
  refine yh rfl rfl rfl ((hcw _ _).mono fun r Jy n3 hr=>?_)
  obtain ⟨g1,hlo,v,row,rfl,hR,hv⟩:=hr
  refine iJ rfl rfl rfl rfl (sZ rfl rfl rfl rfl rfl (sZ rfl rfl rfl rfl rfl (sZ rfl rfl rfl rfl rfl ?_)))
  refine pz rfl rfl rfl Ju QW (pz rfl rfl rfl yc FB ?_)
  refine kQ rfl rfl rfl rfl rfl sQ (rs:=[[.sl [] true]]) (by rw [aoE (by omega)];exact eY rfl) rfl rfl rfl (dH 1) ?_
  refine kQ rfl rfl rfl rfl rfl qW (rs:=[zO.enc.set 23 (.sl [] true)]) (by rw [aoE (by omega)];exact eY rfl) rfl hR.1 rfl (dH 26) (j_ rfl rfl rfl rfl (dU rfl ?_))
  refine ⟨_,_,row,v,⟨rfl,rfl,rfl,rfl,rfl,rfl,trivial⟩,fun j hj=>?_,by omega,Nat.lt_succ_self _,by omega,?_,?_,hR,hv.imp id fun ⟨F,b,q1,q2,q3⟩=>⟨F,b,q1,(q2.frame (by omega) fun j h1 h2=>?_).low (by omega),q3⟩⟩
  .rw [aoE (by omega),aoE (by omega),aoE (by omega),aoE (by omega)];exact hlo j (by omega)
  .rw [aoE (by omega),eY rfl];rfl
  .rw [eY rfl]
   have ev:lay (zO.enc.set 23 (.sl [] true)) 0 (AV.agg row).cells=row:=by
    show (zO.enc.set 23 (.sl [] true)).take 0++row++(zO.enc.set 23 (.sl [] true)).drop (0+row.length)=row
    rw [hR.1]
    simp [zO,gZ.enc]
   show some (pI.rows 26 [lay (zO.enc.set 23 (.sl [] true)) 0 (AV.agg row).cells])=_
   rw [ev]
  .rw [aoE (by omega),aoE (by omega),aoE (by omega),aoE (by omega)]
 obtain ⟨b6,b7,row,F,b,hM,ho,g7,l7,h7,hR,hF,WH⟩:=hK
 refine nY _ hM ?_
 clear hM hcw
 have h0:=(ho 0 (by omega)).trans h0
 have h1:=(ho 1 (by omega)).trans h1
 have h5:=(ho n5 (by omega)).trans h5
 clear ho
 
 refine pq (fun M Jy n=>∃b9 b10,ML M [(2,.op 0 1 0 0),(5,.op n5 1 0 0),(6,.op b6 1 0 0),(7,.op b7 26 0 0),(8,eI ec),(9,.op b9 1 0 0),(10,.op b10 26 0 0),(11,eI ec)]/\(∀j,j<n3->Jy j=wL j)/\n3<=b9/\b9<b10/\b10<n/\Jy b9=some (.rows 1 [[.sl (N.map dQ.enc) false]])/\Jy b10=some (.rows 26 [out.enc])) (dR ?_) fun M Jy n4 hK=>?_
 .refine iH rfl rfl rfl rfl sQ h0 rfl (v:=h.av) ⟨dH 1,rfl⟩ ?_
  refine iH rfl rfl rfl rfl ZK h1 rfl (v:=a.av) ⟨dH 29,rfl⟩ ?_
  have hp:=WC h a
  rw [hD] at hp
  refine rF rfl rfl rfl rfl (Ui (QX h) (ZP a)) (fun _ _ _ h=>h) hp (.inl (by simp only [jY,OM,oL (iK.fz a)];rfl)) ?_
  refine iJ rfl rfl rfl rfl (sZ rfl rfl rfl rfl rfl (sZ rfl rfl rfl rfl rfl (sZ rfl rfl rfl rfl rfl ?_)))
  refine pz rfl rfl rfl Ju QW (pz rfl rfl rfl yc FB ?_)
  refine kQ rfl rfl rfl rfl rfl sQ (rs:=[[.sl [] true]]) (by rw [aoE (by omega)];exact eY rfl) rfl rfl rfl (dH 1) ?_
  refine kQ rfl rfl rfl rfl rfl qW (rs:=[zO.enc.set 23 (.sl [] true)]) (by rw [aoE (by omega)];exact eY rfl) rfl rfl rfl (dH 26) (j_ rfl rfl rfl rfl (dU rfl ?_))
  refine ⟨_,_,⟨rfl,rfl,rfl,rfl,rfl,rfl,rfl,rfl,trivial⟩,fun j hj=>?_,by omega,Nat.lt_succ_self _,by omega,?_,eY rfl⟩
  .rw [aoE (by omega),aoE (by omega),aoE (by omega),aoE (by omega)]
  .rw [aoE (by omega),eY rfl];rfl
 obtain ⟨b9,b10,hM,ho,g9,g10,l10,h9,h10⟩:=hK
 refine nY _ hM ?_
 clear hM
 have aow:n2<=n3:=by have:=hF.lo;have:=hF.hi;omega
 have h0:=(ho 0 (by omega)).trans h0
 have h5:=(ho n5 (by omega)).trans h5
 have h7:=(ho b7 l7).trans h7
 have hF:=hF.frame (eX:=Jy) fun j _ hj=>ho j hj
 clear ho
 
 refine fA (fA (dR ?_))
 refine iJ rfl rfl rfl rfl (iJ rfl rfl rfl rfl ?_)
 refine pX rfl rfl rfl rfl rfl (ahY ec) (iJ rfl rfl rfl rfl ?_)
 have ev:((row.drop 0).take 26)=row:=by rw [List.drop_zero,List.take_of_length_le (by rw [hR.1];exact dH 26)]
 refine iH rfl rfl rfl rfl qW h7 rfl (v:=.agg row) ⟨by rw [hR.1];exact dH 26,by rw [ev]⟩ ?_
 refine iH rfl rfl rfl rfl qW h10 rfl (v:=out.av) ⟨dH 26,rfl⟩ ?_
 have hp:=Kw out out
 rw [Ur e3] at hp
 refine rF rfl rfl rfl rfl (Ui (hR.2 _) (qg (gZ.fz out))) (fun _ _ _ h=>h) hp (.inr rfl) ?_
 refine RQ rfl rfl rfl rfl (fun K h=>h) (IC rfl rfl rfl rfl rfl (iJ rfl rfl rfl rfl ?_))
 refine iH rfl rfl rfl rfl sQ hF.box rfl (v:=.agg [.os b 18 0 F.length]) ⟨dH 1,rfl⟩ ?_
 refine iH rfl rfl rfl rfl sQ h9 rfl (v:=dK.av ⟨N⟩) ⟨dH 1,rfl⟩ ?_
 have hp:=GK ⟨N⟩ ⟨N⟩
 rw [Oq e1 e2] at hp
 refine rF rfl rfl rfl rfl (adR (hF.ny WH) (QX ⟨N⟩)) (fun _ _ _ h=>h) hp (.inr rfl) ?_
 refine RQ rfl rfl rfl rfl (fun K h=>h) (IC rfl rfl rfl rfl rfl (dU rfl ?_))
 refine jT rfl (fun h=>by cases h) fun _=>nJ ?_
 refine nY (oM n5 b6) ⟨rfl,rfl,rfl,trivial⟩ ?_
 have hFp:∀e∈F,e.1.Props.length<=4294967296:=fun e he=>e2 _ (by rw [<- WH];exact aX.2 ⟨e,he,rfl⟩)
 have hFl:F.length<=4294967296:=by rw [<- WH,dB] at e1;exact e1
 
 refine pq (fun M ah n=>ML M (oM n5 b6)/\SpF F n3 Jy ah) (fA (dR (j_ rfl rfl rfl rfl (dU rfl ?_)))) fun M ah4 n6 hK=>?_
 .refine vG (NG (oI F n5 b6 n3 Jy) (F.length+1) ((12,.p (.int .i64 ((0:Nat):Int)))::oM n5 b6) ⟨rfl,rfl,rfl,rfl,trivial⟩ ⟨0,rfl,dG _,rfl,⟨fun e he=>⟨_,(hF.DK.blk e he).1,by simp,dJ.rok _⟩,fun j _ _=>rfl⟩,by omega⟩ fun c M EH m1 hI=>?_)
  obtain ⟨i,hc,hi,rfl,hS,hm1⟩:=hI
  have box:∀{ah},SpF F n3 Jy ah->ah b6=some (.rows 1 [[.os b 18 0 F.length]]):=fun s=>by rw [s.oth b6 hF.hi fun e he=>hF.ni e he];exact hF.box
  have out':∀{ah},SpF F n3 Jy ah->ah b=some (.rows 18 (F.map uU++[].map dQ.enc)):=fun s=>by rw [s.oth b hF.DK.hi fun e he=>(hF.DK.blk e he).2.2.2.symm];exact hF.DK.out
  refine fA (fA (dR ?_))
  refine iJ rfl rfl rfl rfl (jJ rfl rfl rfl rfl F9 rfl ?_)
  refine iH rfl rfl rfl rfl QV (box hS) rfl (v:=.os b 18 0 F.length) rfl ?_
  refine LJ rfl rfl rfl rfl rfl (RS ZH) (pX rfl rfl rfl rfl rfl (fun K h=>⟨rfl,h⟩) (dU rfl ?_))
  refine jT rfl (fun h=>nJ ?_) fun h=>IB ⟨⟨rfl,rfl,rfl,trivial⟩,hS⟩
  have hi':i<F.length:=by simpa using h
  clear h
  obtain ⟨e,he⟩:∃e,F[i]?=some e:=⟨F[i],by simp [hi']⟩
  have heF:=aK he
  have hrow:(F.map uU++[].map dQ.enc)[0+(i:Int).toNat]?=some (uU e):=by simp [he]
  refine pq (fun M ah n=>ML M ((12,.p (.int .i64 (i:Int)))::oM n5 b6)/\SpF F n3 Jy ah/\n3<=n) (vG (fA (dR (j_ rfl rfl rfl rfl (dU rfl ?_))))) fun M ah n hK=>?_
  .refine vG (NG (oI2 F n5 b6 n3 Jy i e.1.Props.length) (e.1.Props.length+1) ((13,.p (.int .i64 ((0:Nat):Int)))::(12,.p (.int .i64 (i:Int)))::oM n5 b6) ⟨rfl,rfl,rfl,rfl,rfl,trivial⟩ ⟨0,rfl,dG _,rfl,hS,by omega⟩ fun c M EH m1 hI=>?_)
   obtain ⟨m,hc,hm,rfl,hS,hm1⟩:=hI
   obtain ⟨rs,hrs,hrl,aj0⟩:=hS.blk e heF
   refine fA (fA (dR ?_))
   refine iJ rfl rfl rfl rfl (jJ rfl rfl rfl rfl F9 rfl ?_)
   refine iH rfl rfl rfl rfl QV (box hS) rfl (v:=.os b 18 0 F.length) rfl ?_
   refine iJ rfl rfl rfl rfl (IE rfl rfl rfl rfl rfl Ug (by omega) (by omega) rfl ?_)
   refine jJ rfl rfl rfl rfl uG rfl ?_
   refine iH rfl rfl rfl rfl D7 (out' hS) hrow (v:=.os e.2 18 0 (e.1.Props.map dJ.enc).length) rfl ?_
   refine LJ rfl rfl rfl rfl rfl (RS agC) (pX rfl rfl rfl rfl rfl (fun K h=>⟨rfl,h⟩) (dU rfl ?_))
   refine jT rfl (fun h=>nJ ?_) fun h=>IB ⟨⟨rfl,rfl,rfl,rfl,trivial⟩,hS,by omega⟩
   have hm':m<e.1.Props.length:=by simpa using h
   clear h
   have hpe:=hFp e heF
   obtain ⟨rw',hro⟩:∃row,rs[m]?=some row:=⟨rs[m]'(by omega),by simp [show m<rs.length by omega]⟩
   have aj1:=aj0 rw' (aK hro)
   refine fA (vG (dR ?_))
   refine jJ rfl rfl rfl rfl F9 rfl ?_
   refine iH rfl rfl rfl rfl QV (box hS) rfl (v:=.os b 18 0 F.length) rfl ?_
   refine iJ rfl rfl rfl rfl (IE rfl rfl rfl rfl rfl Ug (by omega) (by omega) rfl ?_)
   refine jJ rfl rfl rfl rfl uG rfl ?_
   refine iH rfl rfl rfl rfl D7 (out' hS) hrow (v:=.os e.2 18 0 (e.1.Props.map dJ.enc).length) rfl ?_
   refine iJ rfl rfl rfl rfl ?_
   refine xk rfl rfl rfl rfl agF ajZ (cs:=adK) rfl ?_
   refine IE rfl rfl rfl rfl rfl ahW (by omega) (by simpa using hm') rfl ?_
   refine kQ rfl rfl rfl rfl rfl ajF hrs rfl rfl (row:=rw') (by simpa using hro) (by show 0+18<=rw'.length;omega) (dU rfl ?_)
   refine dR ?_
   refine iJ rfl rfl rfl rfl (pX rfl rfl rfl rfl rfl (fun K h=>⟨rfl,h⟩) (j_ rfl rfl rfl rfl (dU rfl ?_)))
   refine ⟨e.1.Props.length+1-(m+1),by omega,(13,.p (.int .i64 ((m+1:Nat):Int)))::(12,.p (.int .i64 (i:Int)))::oM n5 b6,⟨?_,rfl,rfl,rfl,rfl,trivial⟩,m+1,rfl,by omega,rfl,⟨fun e' he'=>?_,fun j hj hje=>?_⟩,by omega⟩
   .show some (AV.p (.int .i64 (IntKind.wrap .i64 ((m:Int)+1))))=_
    rw [adL (by omega)]
   .by_cases q:e'.2=e.2
    .have hee:e'=e:=by
      obtain ⟨i1,q1⟩:=bJ.1 he'
      have p1:(F.map (·.2))[i1]?=some e.2:=by simp [q1,q]
      have p2:(F.map (·.2))[i]?=some e.2:=by simp [he]
      obtain ⟨l1,c1⟩:=aG.1 p1
      obtain ⟨l2,c2⟩:=aG.1 p2
      have:=(List.getElem_inj hF.DK.nd).1 (c1.trans c2.symm)
      subst this
      exact Option.some.inj (q1.symm.trans he)
     subst hee
     refine ⟨_,eY rfl,by simpa using hrl,fun r hr=>?_⟩
     rcases List.mem_or_eq_of_mem_set hr with hr|rfl
     .exact aj0 r hr
     .have:(lay rw' 0 (AV.agg adK).cells).length=rw'.length:=MC (by show 0+18<=_;omega)
      rw [this];exact aj1
    .rw [aoE q];exact hS.blk e' he'
   .rw [aoE (hje e heF)];exact hS.oth j hj hje
  .obtain ⟨hM,hS,hn⟩:=hK
   refine nY _ hM (dR ?_)
   refine iJ rfl rfl rfl rfl (pX rfl rfl rfl rfl rfl (fun K h=>⟨rfl,h⟩) (j_ rfl rfl rfl rfl (dU rfl ?_)))
   refine ⟨F.length+1-(i+1),by omega,(12,.p (.int .i64 ((i+1:Nat):Int)))::oM n5 b6,⟨?_,rfl,rfl,rfl,trivial⟩,i+1,rfl,by omega,rfl,hS,by omega⟩
   show some (AV.p (.int .i64 (IntKind.wrap .i64 ((i:Int)+1))))=_
   rw [adL (by omega)]
 
 .obtain ⟨hM,hS⟩:=hK
  refine nY _ hM ?_
  have hlo:∀e∈F,n2<=e.2:=fun e he=>(hF.DK.blk e he).2.1
  have h0:=(hS.oth 0 (by omega) fun e he=>by have:=hlo e he;omega).trans h0
  have h5:=(hS.oth n5 (by omega) fun e he=>by have:=hlo e he;omega).trans h5
  refine fA (dR ?_)
  refine iH rfl rfl rfl rfl sQ h5 rfl (v:=h.av) ⟨dH 1,rfl⟩ ?_
  refine iH rfl rfl rfl rfl sQ h0 rfl (v:=h.av) ⟨dH 1,rfl⟩ ?_
  have hp:=GK h h
  rw [Oq hlb hob] at hp
  refine rF rfl rfl rfl rfl (Ui (QX h) (QX h)) (fun _ _ _ h=>h) hp (.inr rfl) ?_
  exact j_ rfl rfl rfl rfl (dU rfl (mM ⟨.inr rfl,rfl⟩))
theorem Ee (h:dK)(a:iK)(w:h.wf)(wa:a.wf):PC Tryz.prog 3 [h.av,a.av] (eB true):=oN fun hb=>by
 obtain ⟨c,hc,hw⟩:=Yx h a (hwg w) ⟨dok wa.dY,vok wa.Value,vok wa.dY.Value,vok wa.dY.Get,vok wa.dY.Set⟩ hb.1
 refine ach (M:=[(0,h.av),(1,a.av)]) Tryz.func3 hc (by decide) (aI rfl) ⟨rfl,rfl,trivial⟩ hw fun e M fr ah nx hf hq=>⟨hq.1,?_⟩
 exact dI.2 ⟨_,hf.get _ _ hq.2,rfl⟩
end Go.Fw
end
section
namespace Go.Fw
open Go.Proofs
set_option maxRecDepth 100000
theorem yU : Rd Tryz.prog 29 dP.enc dP.wf:=
 (wR Tryz.underlying29 (by kernel_rfl) (iV (m:=1) rfl (by kernel_rfl) (Ho Tryz.underlying5) (iV (m:=1) rfl (by kernel_rfl) (ab5 Tryz.underlying27) (iV (m:=1) rfl (by kernel_rfl) (Xx Tryz.underlying9) (iV (m:=1) rfl (by kernel_rfl) (Ho Tryz.underlying3) (CV)))))).to (fun x=>dP.mk x.1 x.2.1 x.2.2.1 x.2.2.2.1) (fun _=>rfl) (fun _ h=>⟨h.1,h.2.1,h.2.2.1,h.2.2.2.1⟩)
theorem ZQ : Rd Tryz.prog 26 dL.enc dL.wf:=
 (wR Tryz.underlying26 (by kernel_rfl) (iV (m:=1) rfl (by kernel_rfl) (Xx Tryz.underlying9) (iV (m:=1) rfl (by kernel_rfl) (Ho Tryz.underlying3) (CV)))).to (fun x=>dL.mk x.1 x.2.1) (fun _=>rfl) (fun _ h=>⟨h.1,h.2.1⟩)
theorem WU : Rd Tryz.prog 31 dM.enc dM.wf:=
 (wR Tryz.underlying31 (by kernel_rfl) (iV (m:=1) rfl (by kernel_rfl) (Ho Tryz.underlying5) (iV (m:=4) rfl (by kernel_rfl) yU (iV (m:=4) rfl (by kernel_rfl) yU (iV (m:=4) rfl (by kernel_rfl) yU (iV (m:=1) rfl (by kernel_rfl) (FU Tryz.underlying4) (iV (m:=1) rfl (by kernel_rfl) (FU Tryz.underlying4) (iV (m:=1) rfl (by kernel_rfl) (FU Tryz.underlying4) (CV))))))))).to (fun x=>dM.mk x.1 x.2.1 x.2.2.1 x.2.2.2.1 x.2.2.2.2.1 x.2.2.2.2.2.1 x.2.2.2.2.2.2.1) (fun _=>rfl) (fun _ h=>⟨h.1,h.2.1,h.2.2.1,h.2.2.2.1⟩)
theorem ad5 : Rd Tryz.prog 49 dJ.enc dJ.wf:=
 (wR Tryz.underlying49 (by kernel_rfl) (iV (m:=2) rfl (by kernel_rfl) ZQ (iV (m:=16) rfl (by kernel_rfl) WU (CV)))).to (fun x=>dJ.mk x.1 x.2.1) (fun _=>rfl) (fun _ h=>⟨h.1,h.2.1⟩)
theorem afY : Rd Tryz.prog 47 dQ.enc dQ.wf:=
 (wR Tryz.underlying47 (by kernel_rfl) (iV (m:=1) rfl (by kernel_rfl) (Ho Tryz.underlying5) (iV (m:=4) rfl (by kernel_rfl) yU (iV (m:=1) rfl (by kernel_rfl) (FU Tryz.underlying4) (iV (m:=1) rfl (by kernel_rfl) (Nz (m:=18) Tryz.underlying45 (by kernel_rfl) (by decide) (fun _=>rfl) ad5) (iV (m:=4) rfl (by kernel_rfl) yU (iV (m:=4) rfl (by kernel_rfl) yU (iV (m:=1) rfl (by kernel_rfl) (Xx Tryz.underlying9) (iV (m:=1) rfl (by kernel_rfl) (FU Tryz.underlying4) (iV (m:=1) rfl (by kernel_rfl) (FU Tryz.underlying4) (CV))))))))))).to (fun x=>dQ.mk x.1 x.2.1 x.2.2.1 x.2.2.2.1 x.2.2.2.2.1 x.2.2.2.2.2.1 x.2.2.2.2.2.2.1 x.2.2.2.2.2.2.2.1 x.2.2.2.2.2.2.2.2.1) (fun _=>rfl) (fun _ h=>⟨h.1,h.2.1,h.2.2.2.1,h.2.2.2.2.1,h.2.2.2.2.2.1,h.2.2.2.2.2.2.1⟩)
theorem ad6 : Rd Tryz.prog 24 dK.enc dK.wf:=
 (wR Tryz.underlying24 (by kernel_rfl) (iV (m:=1) rfl (by kernel_rfl) (Nz (m:=18) Tryz.underlying22 (by kernel_rfl) (by decide) (fun _=>rfl) afY) (CV))).to (fun x=>dK.mk x.1) (fun _=>rfl) (fun _ h=>⟨h.1⟩)
theorem afZ : Rd Tryz.prog 34 iK.enc iK.wf:=
 (wR Tryz.underlying34 (by kernel_rfl) (iV (m:=1) rfl (by kernel_rfl) (Ho Tryz.underlying5) (iV (m:=1) rfl (by kernel_rfl) (Ho Tryz.underlying3) (iV (m:=2) rfl (by kernel_rfl) ZQ (iV (m:=16) rfl (by kernel_rfl) WU (iV (m:=4) rfl (by kernel_rfl) yU (iV (m:=4) rfl (by kernel_rfl) yU (iV (m:=1) rfl (by kernel_rfl) (Nz (m:=4) Tryz.underlying32 (by kernel_rfl) (by decide) (fun _=>rfl) yU) (CV))))))))).to (fun x=>iK.mk x.1 x.2.1 x.2.2.1 x.2.2.2.1 x.2.2.2.2.1 x.2.2.2.2.2.1 x.2.2.2.2.2.2.1) (fun _=>rfl) (fun _ h=>⟨h.1,h.2.1,h.2.2.1,h.2.2.2.1,h.2.2.2.2.1,h.2.2.2.2.2.1,h.2.2.2.2.2.2.1⟩)
end Go.Fw
end
