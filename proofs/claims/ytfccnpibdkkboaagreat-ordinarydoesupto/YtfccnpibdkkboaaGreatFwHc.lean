
import Derived.Test.YtfccnpibdkkboaaGreatFwHb
set_option linter.unusedVariables false
set_option linter.unusedSimpArgs false
set_option linter.unusedSectionVars false
set_option linter.unnecessarySimpa false
set_option maxRecDepth 100000
set_option maxHeartbeats 4000000
section
namespace Go.Fw
structure AOk (a:iK):Prop where
 d:a.dY.ok
 v:a.Value.ok
 dv:a.dY.Value.ok
 dg:a.dY.Get.ok
 ds:a.dY.Set.ok
theorem afF {h:dK}{v:dP}(hv:v.ok):nO h v=jF h v:=by rw [ahI,<- Fh hv];rfl
theorem afG {h:dK}{v:dP}(hv:v.ok):jD h v=!(((iO v.Kind 1)&&(!fV v))||(!nO h v)):=by
 unfold jD
 dsimp only
 rw [afF hv,w_]
 have:iO v.Kind 1=!dV v.Kind 1:=rfl
 rw [this]
 cases dV v.Kind 1<;>cases dS v<;>cases jF h v<;>rfl
def Ky (h:dK)(a:iK):Int:=
 bif ((!oH a.Method||decide (a.Object<0))||decide (a.Object>=(h.Objects.length:Int))) then 2
 else bif ((iO (h.Objects.getD a.Object.toNat default).Kind 1&&iO (h.Objects.getD a.Object.toNat default).Kind 4)&&iO (h.Objects.getD a.Object.toNat default).Kind 5) then 2
 else lD h a
theorem Jt {h:dK}{a:iK}(k:AOk a):fZ h a=Ky h a:=by
 unfold fZ Ky lD
 dsimp only
 rw [dN,afG k.v,<- afF k.dv,<- afF k.dg,<- afF k.ds,vM,I_ k.d]
 generalize nO h a.Value=i1
 generalize nO h a.dY.Value=i2
 generalize nO h a.dY.Get=i3
 generalize nO h a.dY.Set=i4
 generalize fV a.Value=i5
 have e1:∀x:Int,iO x 1=!dV x 1:=fun _=>rfl
 have e4:∀x:Int,iO x 4=!dV x 4:=fun _=>rfl
 have e5:∀x:Int,iO x 5=!dV x 5:=fun _=>rfl
 rw [e1,e4,e5,e1]
 generalize (h.Objects.getD a.Object.toNat default).Kind=kd
 have he:oH a.Method=(dV a.Method 1||dV a.Method 2||dV a.Method 3||dV a.Method 4||dV a.Method 5||dV a.Method 6||dV a.Method 10||dV a.Method 11):=by
  unfold oH
  rw [Bool.eq_iff_iff]
  simp only [Bool.or_eq_true,Bool.and_eq_true,decide_eq_true_eq,mV]
  omega
 have hk:=zB a.Key
 have hd:=Zo k.d
 rw [he]
 have hm:∀m,a.Method=m->(a.Method=1\/a.Method=2\/a.Method=3\/a.Method=4\/a.Method=5\/a.Method=6\/a.Method=10\/a.Method=11\/(dV a.Method 1=false/\dV a.Method 2=false/\dV a.Method 3=false/\dV a.Method 4=false/\dV a.Method 5=false/\dV a.Method 6=false/\dV a.Method 10=false/\dV a.Method 11=false)):=by
  intro m _
  simp only [pJ]
  omega
 generalize decide (a.Object<0)=o1
 generalize decide (a.Object>=(h.Objects.length:Int))=o2
 generalize dV a.Value.Kind 1=vk
 generalize dV kd 1=k1
 generalize dV kd 4=k4
 generalize dV kd 5=k5
 rcases hm _ rfl with e|e|e|e|e|e|e|e|⟨f1,f2,f3,f4,f5,f6,f10,f11⟩
 .rw [e];cases o1<;>cases o2<;>cases k1<;>cases k4<;>cases k5<;>rfl
 .rw [e];cases o1<;>cases o2<;>cases k1<;>cases k4<;>cases k5<;>cases vk<;>cases i5<;>cases i1<;>rfl
 .rw [e];cases o1<;>cases o2<;>cases k1<;>cases k4<;>cases k5<;>rfl
 .rw [e];cases o1<;>cases o2<;>cases k1<;>cases k4<;>cases k5<;>rfl
 .rw [e];rcases hk with hk|hk<;>rw [hk]<;>cases o1<;>cases o2<;>cases k1<;>cases k4<;>cases k5<;>rfl
 .rw [e];rcases hk with hk|hk<;>rw [hk]<;>rcases hd with hd|hd<;>rw [hd]<;>cases o1<;>cases o2<;>cases k1<;>cases k4<;>cases k5<;>cases i2<;>cases i3<;>cases i4<;>rfl
 .rw [e];rcases hk with hk|hk<;>rw [hk]<;>cases o1<;>cases o2<;>cases k1<;>cases k4<;>cases k5<;>rfl
 .rw [e];cases o1<;>cases o2<;>cases k1<;>cases k4<;>cases k5<;>rfl
 .rw [f1,f2,f3,f4,f5,f6,f10,f11];cases o1<;>cases o2<;>cases k1<;>cases k4<;>cases k5<;>rfl
theorem QU {l:List dQ}{i:Nat}(hi:i<l.length):l.set i (l.getD i default)=l:=by
 rw [List.getD_eq_getElem?_getD,List.getElem?_eq_getElem hi]
 simp
theorem Yo {d:dM}(ok:d.ok)(r:Rc d)(h:d.Has=51\/d.Has=60):fQ d=true:=by
 unfold fQ
 dsimp only
 rw [mV.2 ((X7 ok).2 r)]
 rcases h with h|h<;>rw [h]<;>rfl
theorem Lc {l:List dJ}(h:J_ l)(k:dL):decide (lU l k<0)=!(y9 l k).2.1:=by
 rw [ao_,Fb l k h.big]
 unfold y9
 rw [Jd]
 cases pl l k with
 |none=>rfl
 |some i=>simp
theorem afH : d00.ok:=⟨⟨by decide,by decide⟩,ac9,ac9,ac9⟩
theorem Yp {l:List dJ}(hok:∀p∈l,p.dY.ok)(k:dL):(y9 l k).1.ok:=by
 unfold y9
 cases hf:l.find? (isK k) with
 |none=>exact afH
 |some p=>exact hok p (List.mem_of_find?_eq_some hf)
theorem adI {h:dK}{a:iK}(w:HWg h)(k:AOk a)(hC:iR h=0)(hw:fZ h a=0) :
  ((⟨h.Objects.set a.Object.toNat (sK h a).1⟩,(sK h a).2,0):dK×gZ×Int)=doB h a:=by
 obtain ⟨h0,h1⟩:=Kq hw
 have hlt:a.Object.toNat<h.Objects.length:=by omega
 obtain ⟨-,-,hl⟩:=w.at hlt
 obtain ⟨hd,hpr⟩:=w.wf.at a.Object.toNat
 have ho:=(tq.1 hC).obj _ hlt
 have ht:=afB ho
 rw [Int.toNat_natCast] at ht
 have hset:=QU hlt
 unfold sK doB qM
 dsimp only
 generalize h.Objects.getD a.Object.toNat default=o at hl hd hpr ht hset
 have hp:J_ o.Props:=J_.ofT hd ht
 rw [<- xB _ _ k.v hpr,aa4,<- ac7 _ hl hd,<- N_ _ _ hl hd]
 have hback:∀x:gZ,((⟨h.Objects.set a.Object.toNat o⟩,x,0):dK×gZ×Int)=(h,x,0):=fun x=>by rw [hset]
 cases m1:dV a.Method 1 with
 |true=>exact hback _
 |false=>
  simp only [cond_false]
  cases m2:dV a.Method 2 with
  |true=>
   simp only [Bool.true_and]
   cases hs:jQ a.Value o.fB with
   |true=>exact hback _
   |false=>
    cases he:o.Ext with
    |false=>simpa [he,show rD false=dW false from rfl] using hback (dW false)
    |true=>cases hb:iD h a.Object a.Value with
     |true=>simpa [he,show rD false=dW false from rfl] using hback (dW false)
     |false=>rfl
  |false=>
   simp only [Bool.false_and,cond_false]
   cases m3:dV a.Method 3 with
   |true=>exact hback _
   |false=>
    cases m4:dV a.Method 4 with
    |true=>rfl
    |false=>
     cases m5:dV a.Method 5 with
     |true=>exact hback _
     |false=>
      have hkey:(dV a.Method 6=true\/dV a.Method 10=true)->iy a.Key=0:=by
       intro hm
       rw [Jt k] at hw
       unfold Ky lD at hw
       dsimp only at hw
       rcases zB a.Key with h9|h9
       .exfalso
        rw [h9] at hw
        have:((dV a.Method 5||dV a.Method 6)||dV a.Method 10)=true:=by rcases hm with hm|hm<;>rw [hm]<;>simp
        rw [this] at hw
        revert hw
        cases ((!oH a.Method||decide (a.Object<0))||decide (a.Object>=(h.Objects.length:Int)))<;>cases ((iO (h.Objects.getD a.Object.toNat default).Kind 1&&iO (h.Objects.getD a.Object.toNat default).Kind 4)&&iO (h.Objects.getD a.Object.toNat default).Kind 5)<;>intro hw<;>first|exact absurd (show (9:Int)=0 from hw) (by decide)|exact absurd (show (2:Int)=0 from hw) (by decide)
       .exact h9
      cases m6:dV a.Method 6 with
      |true=>
       have hk:=hkey (.inl m6)
       have hf:=hp.find hd (k:=a.Key) hk
       have hfo:=Yp hd a.Key
       rw [<- hf] at hfo
       simp only [cond_true,cond_false]
       unfold yQ
       dsimp only
       rw [<- N_ _ _ hl hd,<- VK k.d hfo]
       cases hap:(fG o.Ext a.dY (dZ o.Props a.Key).2.1 (dZ o.Props a.Key).1).2.1 with
       |false=>simpa [show rD false=dW false from rfl] using hback (dW false)
       |true=>
        have b:=apc k.d hfo (DC hap)
        have hwh:=Yo b.ok b.rc b.has
        rw [<- aht _ _ _ hl hd b.ok]
        have hput:iO (fC o.Props a.Key (fG o.Ext a.dY (dZ o.Props a.Key).2.1 (dZ o.Props a.Key).1).1).2 0=((!(dZ o.Props a.Key).2.1)&&decide (jc dJ.enc o.Props>=1024)):=by
         unfold fC
         dsimp only
         rw [hp.asked hd hk,Zm b.ok,hwh,Lc hp,<- hf,dN]
         have hlen:=hp.len
         have e:dV ((o.Props.length:Nat):Int) 1024=decide (((o.Props.length:Nat):Int)>=1024):=by
          rw [Bool.eq_iff_iff,mV,decide_eq_true_eq];omega
         rw [e]
         cases (dZ o.Props a.Key).2.1<;>cases decide (((o.Props.length:Nat):Int)>=1024)<;>rfl
        rw [hput]
        simp only [Bool.not_true,cond_false]
        cases ((!(dZ o.Props a.Key).2.1)&&decide (jc dJ.enc o.Props>=1024)) with
        |true=>exact hback _
        |false=>rfl
      |false=>
       simp only [cond_false]
       cases m10:dV a.Method 10 with
       |true=>
        have hk:=hkey (.inr m10)
        have hf:=hp.find hd (k:=a.Key) hk
        simp only [cond_true]
        unfold yR
        dsimp only
        rw [<- N_ _ _ hl hd,<- Zn _ _ hl hd]
        cases h2:(dZ o.Props a.Key).2.1 with
        |false=>
         have e:(fK o.Props a.Key).1=o.Props:=by
          rw [hf] at h2
          have hp2:=Lc hp a.Key
          rw [h2] at hp2
          unfold fK
          dsimp only
          rw [hp.asked hd hk,hp2];rfl
         rw [e]
         rfl
        |true=>
         cases (dZ o.Props a.Key).1.Configurable with
         |true=>rfl
         |false=>simpa [show rD false=dW false from rfl] using hback (dW false)
       |false=>exact hback _
def zO : gZ:=gZ.mk 0 (dP.mk 0 0 [] 0) false false (dM.mk 0 (dP.mk 0 0 [] 0) (dP.mk 0 0 [] 0) (dP.mk 0 0 [] 0) false false false) [] 0 []
def LY (h:dK)(a:iK):dK×gZ×Int:=
 bif iO (iR h) 0 then (⟨[]⟩,zO,iR h) else bif iO (fZ h a) 0 then (⟨[]⟩,zO,fZ h a) else doB h a
theorem ahQ {h:dK}{a:iK}(w:HWg h)(k:AOk a):E5 h a=LY h a:=by
 unfold E5 LY
 dsimp only
 rw [afA w,dN]
 by_cases hC:iR h=0
 .have hlen:=(tq.1 hC).len
  rw [hC]
  by_cases hw:fZ h a=0
  .have hd:=adI w k hC hw
   rw [hw]
   rw [Jt k] at hw
   unfold Ky at hw
   have hA:xW h a.Object (sK h a).1=⟨h.Objects.set a.Object.toNat (sK h a).1⟩:=by
    unfold xW
    dsimp only
    rw [Oo (by omega),dN,List.drop_zero,List.take_of_length_le (by simp)]
    rfl
   rw [hA]
   cases e1:((!oH a.Method||decide (a.Object<0))||decide (a.Object>=(h.Objects.length:Int))) with
   |true=>rw [e1] at hw;exact absurd (show (2:Int)=0 from hw) (by decide)
   |false=>
    rw [e1] at hw
    cases e2:((iO (h.Objects.getD a.Object.toNat default).Kind 1&&iO (h.Objects.getD a.Object.toNat default).Kind 4)&&iO (h.Objects.getD a.Object.toNat default).Kind 5) with
    |true=>rw [e2] at hw;exact absurd (show (2:Int)=0 from hw) (by decide)
    |false=>
     rw [e2] at hw
     have hw':lD h a=0:=hw
     rw [hw']
     exact hd
  .have hne:=Gq.2 hw
   rw [hne]
   rw [Jt k] at hw hne ⊢
   unfold Ky at hw hne ⊢
   cases e1:((!oH a.Method||decide (a.Object<0))||decide (a.Object>=(h.Objects.length:Int))) with
   |true=>rfl
   |false=>
    cases e2:((iO (h.Objects.getD a.Object.toNat default).Kind 1&&iO (h.Objects.getD a.Object.toNat default).Kind 4)&&iO (h.Objects.getD a.Object.toNat default).Kind 5) with
    |true=>rfl
    |false=>
     rw [e1,e2] at hne
     have hne':iO (lD h a) 0=true:=hne
     rw [hne']
     rfl
 .rw [Tv hC];rfl
end Go.Fw
end
section
namespace Go.Fw
open Go.Proofs
set_option maxRecDepth 100000
theorem ZH : Tryz.prog.underlying 22=some (.slice 47):=by kernel_rfl
theorem agC : Tryz.prog.underlying 45=some (.slice 49):=by kernel_rfl
theorem sQ : qI Tryz.prog 24=some (true,1):=by kernel_rfl
theorem QV : qI Tryz.prog 22=some (false,1):=by kernel_rfl
theorem D7 : qI Tryz.prog 45=some (false,1):=by kernel_rfl
theorem WE : qI Tryz.prog 47=some (true,18):=by kernel_rfl
theorem ajF : qI Tryz.prog 49=some (true,18):=by kernel_rfl
theorem F9 : rP Tryz.prog 24 0=some (0,false,1):=by kernel_rfl
theorem uG : rP Tryz.prog 47 3=some (6,false,1):=by kernel_rfl
theorem ahR : (kU Tryz.prog 22).map (fun e=>(e.1,Nat.ble e.2 4096))=some (18,true):=by kernel_rfl
theorem ahS : (kU Tryz.prog 45).map (fun e=>(e.1,Nat.ble e.2 4096))=some (18,true):=by kernel_rfl
theorem adJ : ∃b,kU Tryz.prog 22=some (18,b)/\b<=4096:=by
 have h:=ahR
 simp only [Option.map_eq_some_iff,Prod.mk.injEq] at h
 obtain ⟨⟨a,b⟩,h1,rfl,h2⟩:=h
 exact ⟨b,h1,Nat.le_of_ble_eq_true h2⟩
theorem agD : ∃b,kU Tryz.prog 45=some (18,b)/\b<=4096:=by
 have h:=ahS
 simp only [Option.map_eq_some_iff,Prod.mk.injEq] at h
 obtain ⟨⟨a,b⟩,h1,rfl,h2⟩:=h
 exact ⟨b,h1,Nat.le_of_ble_eq_true h2⟩
def aa7 : List AV:=[.p (.int .u8 0),.p (.float .f64 0),.str [],.p (.int .i64 0)]
def ahT : List AV:=[.p (.int .u8 0)]++aa7++[.p (.bool false),.sl [] true]++aa7++aa7++[.str [],.p (.bool false),.p (.bool false)]
def adK : List AV:=[.str [],.p (.int .i64 0),.p (.int .u8 0)]++aa7++aa7++aa7++[.p (.bool false),.p (.bool false),.p (.bool false)]
theorem Ju : aoH Tryz.prog 24=some [.sl [] true]:=by kernel_rfl
theorem agE : aoH Tryz.prog 47=some ahT:=by kernel_rfl
theorem agF : aoH Tryz.prog 49=some adK:=by kernel_rfl
theorem QW : ao6 Tryz.prog 24=false:=by kernel_rfl
theorem ajG : ao6 Tryz.prog 47=false:=by kernel_rfl
theorem ahU : ∃pl,aoJ Tryz.prog 24=some pl/\∀b n:Nat,uV pl [.sl [] true] [(0,.os b 18 0 n)]=some [.os b 18 0 n]:=⟨_,rfl,fun b n=>rfl⟩
theorem ahV : ∃pl,aoJ Tryz.prog 49=some pl:=⟨_,rfl⟩
theorem adL {m:Nat}(h:m<4294967296):IntKind.wrap .i64 ((m:Int)+1)=((m+1:Nat):Int):=by
 have:=Qv (i:=(m:Int)) (by omega) (by omega)
 unfold eG at this
 rw [this];omega
def zD (o:dQ)(id:Nat):List AV:=o.enc.set 6 (.os id 18 0 (o.Props.map dJ.enc).length)
theorem aph (o:dQ)(hk:o.Props.length<=4294967296)(ah:AH)(nx:Nat):CW Tryz.prog 37 [o.av] ah nx (fun r eX nx'=>∃id,r=.agg (zD o id)/\nx<=id/\id<nx'/\eX id=some (.rows 18 (o.Props.map dJ.enc))/\∀b,b<nx->eX b=ah b):=by
 obtain ⟨b52,ahW,ajH⟩:=agD
 refine yj (M:=[(0,o.av)]) (Q:=fun e M eX nx'=>(e=.normal\/e=.ret)/\∃b2 id,fD M 2=some (.op b2 18 0 0)/\eX b2=some (.rows 18 [zD o id])/\nx<=id/\id<nx'/\eX id=some (.rows 18 (o.Props.map dJ.enc))/\∀b,b<nx->eX b=ah b)
  Tryz.func37 rfl (by decide) (Nat.le_of_ble_eq_true rfl) ⟨rfl,trivial⟩ ?_ ?_
 .refine fA (dR ?_)
  refine FW rfl rfl rfl rfl rfl ?_
  refine pz rfl rfl rfl agE ajG (dU rfl ?_)
  refine fA (dR ?_)
  refine jJ rfl rfl rfl rfl uG rfl ?_
  refine iH rfl rfl rfl rfl D7 (rs:=[o.enc]) (by rw [aoE (by omega)];exact eY rfl) rfl (v:=.sl (o.Props.map dJ.enc) false) rfl ?_
  refine yh rfl rfl rfl ((aci (fl:=false) Tryz.func70 (t:=45) (e:=49) (by kernel_rfl) agC ahW agF rfl ajH (Nat.succ_ne_zero 17) (dJ.rok _) (by simpa using hk)).mono fun r EH n1 hr=>?_)
  obtain ⟨rfl,rfl,hb1,hold⟩:=hr
  refine jJ rfl rfl rfl rfl uG rfl ?_
  have hn:EH nx=some (.rows 18 [o.enc]):=by rw [hold nx (by omega),aoE (by omega)];exact eY rfl
  have hn1:EH (nx+1)=some (.rows 18 [ahT]):=by rw [hold _ (by omega)];exact eY rfl
  refine kQ rfl rfl rfl rfl rfl D7 hn rfl rfl rfl (Nat.le_of_ble_eq_true rfl) (dU rfl ?_)
  refine fA (dR ?_)
  refine iH rfl rfl rfl rfl WE (sz:=18) (rs:=[zD o (nx+1+1+1+1+5)]) (row:=zD o (nx+1+1+1+1+5)) (by rw [eY rfl];rfl) rfl (v:=.agg (zD o (nx+1+1+1+1+5))) ⟨Nat.le_refl 18,rfl⟩ ?_
  refine kQ rfl rfl rfl rfl rfl WE (rs:=[ahT]) (by rw [aoE (by omega)];exact hn1) rfl rfl rfl (Nat.le_refl 18) (dU rfl ?_)
  refine mM ⟨.inr rfl,nx+1,nx+1+1+1+1+5,rfl,eY rfl,by omega,by omega,?_,fun b hb=>?_⟩
  .rw [aoE (by omega),aoE (by omega)];exact hb1
  .rw [aoE (by omega),aoE (by omega),hold b (by omega),aoE (by omega),aoE (by omega)]
 .intro e M fr eX nx' hf hq
  obtain ⟨he,b2,id,h2,hb2,h3,h4,h5,h6⟩:=hq
  refine ⟨he,dI.2 ⟨_,hf.get _ _ h2,dI.2 ⟨_,WE,?_⟩⟩⟩
  dsimp only
  rw [hb2]
  exact ⟨rfl,dI.2 ⟨zD o id,rfl,⟨Nat.le_refl 18,id,rfl,h3,h4,h5,h6⟩⟩⟩
def uU (e:dQ×Nat):List AV:=zD e.1 e.2
structure vS (F:List (dQ×Nat))(R:List dQ)(b:Nat)(ah:AH)(n0 nx:Nat):Prop where
 out:ah b=some (.rows 18 (F.map uU++R.map dQ.enc))
 lo:n0<=b
 hi:b<nx
 blk:∀e∈F,ah e.2=some (.rows 18 (e.1.Props.map dJ.enc))/\n0<=e.2/\e.2<nx/\e.2≠b
 nd:(F.map (·.2)).Nodup
theorem vS.frame {F:List (dQ×Nat)}{R:List dQ}{b n0 nx nx':Nat}{ah eX:AH}(h:vS F R b ah n0 nx)(hn:nx<=nx')(ha:∀j,n0<=j->j<nx->eX j=ah j):vS F R b eX n0 nx':=
 ⟨by rw [ha b h.lo h.hi];exact h.out,h.lo,Nat.lt_of_lt_of_le h.hi hn,fun e he=>⟨by rw [ha _ (h.blk e he).2.1 (h.blk e he).2.2.1];exact (h.blk e he).1,(h.blk e he).2.1,Nat.lt_of_lt_of_le (h.blk e he).2.2.1 hn,(h.blk e he).2.2.2⟩,h.nd⟩
theorem vS.keep {F:List (dQ×Nat)}{R:List dQ}{b n0 nx nx':Nat}{ah eX:AH}(h:vS F R b ah n0 nx)(hn:nx<=nx')(hb:eX b=ah b)(ha:∀e∈F,eX e.2=ah e.2):vS F R b eX n0 nx':=
 ⟨by rw [hb];exact h.out,h.lo,Nat.lt_of_lt_of_le h.hi hn,fun e he=>⟨by rw [ha e he];exact (h.blk e he).1,(h.blk e he).2.1,Nat.lt_of_lt_of_le (h.blk e he).2.2.1 hn,(h.blk e he).2.2.2⟩,h.nd⟩
theorem adM {α:Type}(A:List α)(x y:α)(B:List α):(A++x::B).set A.length y=A++y::B:=by
 induction A with
 |nil=>rfl
 |cons a A ih=>simp [ih]
theorem adN {α:Type}(A:List α)(x:α)(B:List α):(A++x::B)[A.length]?=some x:=by simp
def tnM (n b2 b k:Nat):MT:=[(2,.op b2 1 0 0),(3,.os b 18 0 n),(14,.p (.int .i64 n)),(15,.p (.int .i64 k))]
def tnI (l:List dQ)(b2 b n0:Nat)(nX:AH):Nat->MT->AH->Nat->Prop:=fun c M ah nx=>
 ∃k F,c=l.length+1-k/\k<=l.length/\M=tnM l.length b2 b k/\vS F (l.drop k) b ah n0 nx/\F.map (·.1)=l.take k/\b2<b/\ah b2=some (.rows 1 [[.sl [] true]])/\∀j,j<n0->ah j=nX j
def tnK (h:dK)(nX:AH)(rH:Nat):CK:=fun r ah nx=>∃F b,r=.agg [.os b 18 0 F.length]/\vS F [] b ah rH nx/\F.map (·.1)=h.Objects/\∀j,j<rH->ah j=nX j
theorem adO {l:List dQ}(hb:D_ [AV.sl (l.map dQ.enc) false]):(∀o∈l,o.Props.length<=4294967296)/\l.length<=4294967296:=by
 obtain ⟨⟨h1,h2⟩,-⟩:=hb
 refine ⟨fun o ho=>?_,by simpa using h1⟩
 have h3:=Qu h2 o.enc (List.mem_map.2 ⟨o,ho,rfl⟩)
 have h4:=U4 h3 (.sl (o.Props.map dJ.enc) false) (by simp [dQ.enc])
 have h5:(o.Props.map dJ.enc).length<=4294967296:=h4.1
 simpa using h5
theorem aa8 (h:dK)(hob:∀o∈h.Objects,o.Props.length<=4294967296)(hlb:h.Objects.length<=4294967296)(ah:AH)(nx:Nat):CW Tryz.prog 13 [h.av] ah nx (tnK h ah nx):=by
 obtain ⟨b44,Ug,ahX⟩:=adJ
 obtain ⟨alJ,ZI,ZJ⟩:=ahU
 obtain ⟨l⟩:=h
 dsimp only at hob hlb
 refine yj (M:=[(0,dK.av ⟨l⟩)]) (Q:=fun e M eX nx'=>(e=.normal\/e=.ret)/\∃b2 F b,fD M 2=some (.op b2 1 0 0)/\eX b2=some (.rows 1 [[.os b 18 0 F.length]])/\vS F [] b eX nx nx'/\F.map (·.1)=l/\∀j,j<nx->eX j=ah j)
  Tryz.func13 rfl (by decide) (Nat.le_of_ble_eq_true rfl) ⟨rfl,trivial⟩ ?_ ?_
 .refine fA (dR ?_)
  refine FW rfl rfl rfl rfl rfl ?_
  refine pz rfl rfl rfl Ju QW (dU rfl ?_)
  refine fA (dR ?_)
  refine jJ rfl rfl rfl rfl F9 rfl ?_
  refine iH rfl rfl rfl rfl QV (rs:=[[.sl (l.map dQ.enc) false]]) (by rw [aoE (by omega)];exact eY rfl) rfl (v:=.sl (l.map dQ.enc) false) rfl ?_
  refine LJ rfl rfl rfl rfl rfl (acg ZH) ?_
  refine aeP rfl rfl rfl rfl rfl ZH Ug agE rfl (by omega) (Int.le_refl _) (by simp;omega) ahX ?_
  refine j_ rfl rfl rfl rfl (dU rfl ?_)
  refine fA (dR ?_)
  refine iJ rfl rfl rfl rfl (jJ rfl rfl rfl rfl F9 rfl ?_)
  refine iH rfl rfl rfl rfl QV (rs:=[[.sl (l.map dQ.enc) false]]) (by rw [aoE (by omega),aoE (by omega)];exact eY rfl) rfl (v:=.sl (l.map dQ.enc) false) rfl ?_
  refine aeQ rfl rfl rfl rfl rfl Ug (Nat.succ_ne_zero 17) (dQ.rok _) (eY rfl) (by simp) (dU rfl ?_)
  refine fA (fA (dR ?_))
  refine iJ rfl rfl rfl rfl (LJ rfl rfl rfl rfl rfl (RS ZH) (iJ rfl rfl rfl rfl (dU rfl ?_)))
  refine vG (NG (tnI l (nx+1) (nx+5) nx ah) (l.length+1) (tnM l.length (nx+1) (nx+5) 0) ⟨rfl,?_,?_,rfl,trivial⟩ ⟨0,[],rfl,Nat.zero_le _,rfl,⟨?_,by omega,by omega,(fun e he=>by cases he),List.nodup_nil⟩,rfl,by omega,?_,fun j hj=>?_⟩ fun c M EH n1 hI=>?_)
  .show some (AV.os (nx+1+1+1+1+1) 18 0 (((l.map dQ.enc).length:Nat):Int).toNat)=_;simp
  .show some (AV.p (.int .i64 ((((l.map dQ.enc).length:Nat):Int).toNat:Nat)))=_;simp
  .rw [eY (by omega)];simp [List.take_of_length_le,List.drop_eq_nil_of_le]
  .rw [aoE (by omega),aoE (by omega)];exact eY rfl
  .rw [aoE (by omega),aoE (by omega),aoE (by omega),aoE (by omega)]
  .obtain ⟨k,F,hc,hk,rfl,hF,WH,hlt,h2,hold⟩:=hI
   refine fA (dR ?_)
   refine pX rfl rfl rfl rfl rfl (fun K h=>⟨rfl,h⟩) (dU rfl ?_)
   refine fA (jT rfl (fun h=>nJ ?_) fun h=>IB ?_)
   .have hk':k<l.length:=by simpa using h
    clear h
    obtain ⟨o,ho⟩:∃o,l[k]?=some o:=⟨l[k],by simp [hk']⟩
    have hdrop:l.drop k=o::l.drop (k+1):=by
     rw [List.drop_eq_getElem_cons hk']
     rw [List.getElem?_eq_getElem hk'] at ho
     cases ho;rfl
    have htake:l.take (k+1)=l.take k++[o]:=by rw [List.take_add_one,ho];rfl
    have hFl:F.length=k:=by
     have:=congrArg List.length WH
     simpa [Nat.min_eq_left hk] using this
    have hout:=hF.out
    rw [hdrop,List.map_cons] at hout
    have hrow:(F.map uU++o.enc::(l.drop (k+1)).map dQ.enc)[0+(k:Int).toNat]?=some o.enc:=by
     have:=adN (F.map uU) o.enc ((l.drop (k+1)).map dQ.enc)
     rw [List.length_map,hFl] at this
     simpa using this
    have hlo:=hF.lo
    have hhi:=hF.hi
    refine fA (vG (fA (dR ?_)))
    refine iJ rfl rfl rfl rfl (j_ rfl rfl rfl rfl (dU rfl ?_))
    refine dR ?_
    refine iJ rfl rfl rfl rfl (iJ rfl rfl rfl rfl (iJ rfl rfl rfl rfl (iJ rfl rfl rfl rfl ?_)))
    refine IE rfl rfl rfl rfl rfl Ug (by omega) (by omega) rfl ?_
    refine iH rfl rfl rfl rfl WE hout hrow (v:=o.av) ⟨Nat.le_refl 18,rfl⟩ ?_
    refine yh rfl rfl rfl ((aph o (hob o (List.mem_of_getElem? ho)) _ _).mono fun r wL n2 hr=>?_)
    obtain ⟨id,rfl,g1,g2,g3,g4⟩:=hr
    refine IE rfl rfl rfl rfl rfl Ug (by omega) (by omega) rfl ?_
    refine kQ rfl rfl rfl rfl rfl WE (by rw [g4 _ (by omega)];exact hout) rfl rfl hrow (Nat.le_refl 18) (dU rfl ?_)
    refine dR ?_
    refine pX rfl rfl rfl rfl rfl (fun K h=>⟨rfl,h⟩) (iJ rfl rfl rfl rfl (dU rfl ?_))
    have hset:(F.map uU++o.enc::(l.drop (k+1)).map dQ.enc).set (0+(k:Int).toNat) (lay o.enc 0 (AV.agg (zD o id)).cells)=(F++[(o,id)]).map uU++(l.drop (k+1)).map dQ.enc:=by
     have e1:lay o.enc 0 (AV.agg (zD o id)).cells=uU (o,id):=rfl
     have:=adM (F.map uU) o.enc (uU (o,id)) ((l.drop (k+1)).map dQ.enc)
     rw [List.length_map,hFl] at this
     rw [e1,show 0+(k:Int).toNat=k by simp,this]
     simp
    refine ⟨l.length+1-(k+1),by omega,tnM l.length (nx+1) (nx+5) (k+1),⟨rfl,rfl,rfl,?_,trivial⟩,k+1,F++[(o,id)],rfl,by omega,rfl,⟨?_,by omega,by omega,fun e he=>?_,?_⟩,?_,by omega,?_,fun j hj=>?_⟩
    .show some (AV.p (.int .i64 (IntKind.wrap .i64 ((k:Int)+1))))=_
     rw [adL (by omega)]
    .rw [eY rfl,hset]
    .rcases List.mem_append.1 he with he|he
     .have h1:=hF.blk e he
      refine ⟨?_,h1.2.1,by omega,h1.2.2.2⟩
      rw [aoE h1.2.2.2,g4 _ (by omega)]
      exact h1.1
     .obtain rfl:=List.mem_singleton.1 he
      refine ⟨?_,by show nx<=id;omega,by show id<_;omega,by show id≠_;omega⟩
      show upd _ _ _ id=_
      rw [aoE (by omega)]
      exact g3
    .rw [List.map_append,List.nodup_append]
     refine ⟨hF.nd,by simp,fun a ha b hb=>?_⟩
     simp at hb;subst hb
     obtain ⟨e,he,rfl⟩:=List.mem_map.1 ha
     have:=(hF.blk e he).2.2.1
     omega
    .rw [htake,<- WH];simp
    .rw [aoE (by omega),g4 _ (by omega)];exact h2
    .rw [aoE (by omega),g4 _ (by omega)];exact hold j hj
   .have hk2:k=l.length:=by
     have:¬k<l.length:=by simpa using h
     omega
    subst hk2
    rw [List.take_length] at WH
    rw [List.drop_length] at hF
    have hFl:l.length=F.length:=by rw [<- WH,List.length_map]
    have hlo:=hF.lo
    have hhi:=hF.hi
    refine fA (dR ?_)
    refine iJ rfl rfl rfl rfl ?_
    refine xk rfl rfl rfl rfl Ju ZI (ZJ _ _) ?_
    refine kQ rfl rfl rfl rfl rfl sQ h2 rfl rfl rfl (Nat.le_refl 1) (dU rfl ?_)
    refine mM ⟨.inr rfl,nx+1,F,nx+5,rfl,?_,hF.keep (by omega) (aoE (by omega)) (fun e he=>aoE fun hc=>?_),WH,fun j hj=>?_⟩
    .rw [eY rfl,<- hFl];rfl
    .have:=(hF.blk e he).1
     rw [hc,h2] at this
     simp at this
    .rw [aoE (by omega)];exact hold j hj
 .intro e M fr eX nx' hf hq
  obtain ⟨he,b2,F,b,h2,hb2,h3,h4,h5⟩:=hq
  refine ⟨he,dI.2 ⟨_,hf.get _ _ h2,dI.2 ⟨_,sQ,?_⟩⟩⟩
  dsimp only
  rw [hb2]
  exact ⟨rfl,dI.2 ⟨_,rfl,⟨Nat.le_refl 1,F,b,rfl,h3,h4,h5⟩⟩⟩
theorem adP {ah:AH}{o:dQ}{id:Nat}(h:ny ah (.os id 18 0 (o.Props.map dJ.enc).length)=some (.sl (o.Props.map dJ.enc) false)):kN ah (zD o id)=some o.enc:=by
 have e1:zD o id=o.enc.take 6++(.os id 18 0 (o.Props.map dJ.enc).length::o.enc.drop 7):=rfl
 have hf:=dQ.jZ o
 have h1:kN ah (o.enc.take 6)=some (o.enc.take 6):=sV (vg.2 fun x hx=>vg.1 hf x (List.mem_of_mem_take hx))
 have h2:kN ah (o.enc.drop 7)=some (o.enc.drop 7):=sV (vg.2 fun x hx=>vg.1 hf x (List.mem_of_mem_drop hx))
 rw [e1,He,h1]
 simp only [kN,h,h2,Option.bind_some,Option.map_some]
 rfl
theorem WI {ah:AH}:∀{F:List (dQ×Nat)},(∀e∈F,ny ah (.os e.2 18 0 (e.1.Props.map dJ.enc).length)=some (.sl (e.1.Props.map dJ.enc) false))->uX ah (F.map uU)=some ((F.map (·.1)).map dQ.enc)
 |[],_=>rfl
 |e::r,h=>by
  simp only [List.map_cons,uX,uU,adP (h e List.mem_cons_self),Option.bind_some]
  rw [WI fun e he=>h e (List.mem_cons_of_mem _ he)]
  rfl
theorem Uh {e:dQ×Nat}{F:List (dQ×Nat)}(h:e∈F):iM (F.map uU)=false:=by
 cases hc:iM (F.map uU) with
 |false=>rfl
 |true=>
  have:=RD.1 (O0.1 hc (uU e) (List.mem_map.2 ⟨e,h,rfl⟩)) (.os e.2 18 0 (e.1.Props.map dJ.enc).length) (by simp [uU,zD,dQ.enc])
  simp [AV.clean] at this
theorem adQ {F:List (dQ×Nat)}{b n0 nx:Nat}{ah:AH}(h:vS F [] b ah n0 nx):ny (vP ah aoK) (.os b 18 0 F.length)=some (.sl ((F.map (·.1)).map dQ.enc) false):=by
 have hin:∀n,∀e∈F,ny (vP ah n) (.os e.2 18 0 (e.1.Props.map dJ.enc).length)=some (.sl (e.1.Props.map dJ.enc) false):=fun n e he=>by
  have hpc:iM (e.1.Props.map dJ.enc)=true:=rZ (zk dJ.jZ)
  have h1:=Qp (h.blk e he).1 hpc n
  simp [ny,h1,hpc,List.take_of_length_le]
 have hr:=WI (hin 2)
 have hb:vP ah aoK b=some (.rows 18 ((F.map (·.1)).map dQ.enc)):=by
  show vP ah (2+1) b=_
  have ho:=h.out
  rw [List.map_nil,List.append_nil] at ho
  simp only [vP,ho]
  cases hF:F with
  |nil=>rfl
  |cons e r=>
   rw [hF] at hr
   rw [Uh (e:=e) List.mem_cons_self]
   simp only [cond_false]
   have hr':uX (vP ah 2) ((e::r).map uU)=some (((e::r).map (·.1)).map dQ.enc):=hr
   simp only [vP] at hr'
   rw [hr'];rfl
 have hc:iM ((F.map (·.1)).map dQ.enc)=true:=rZ (zk dQ.jZ)
 show (match vP ah aoK b with|some (.rows sz' rs)=>if 18=sz'/\0+F.length<=rs.length/\iM rs=true then some (AV.sl ((rs.drop 0).take F.length) false) else none|_=>none)=_
 rw [hb]
 dsimp only
 rw [if_pos ⟨rfl,by simp,hc⟩]
 simp [List.take_of_length_le]
theorem OL {ah:AH}(h:dK):kN ah [h.av]=some [h.av]:=sV (by simp only [jZ,dK.fz];rfl)
theorem QX {ah:AH}(h:dK):ny ah h.av=some h.av:=qg (dK.fz h)
theorem adR {ah:AH}{a x b y:AV}(h:ny ah a=some x)(h2:ny ah b=some y):kN ah [.agg [a],b]=some [.agg [x],y]:=by
 have e:ny ah (.agg [a])=some (.agg [x]):=by
  show (kN ah [a]).map AV.agg=_
  have:kN ah [a]=some [x]:=by simp only [kN,h,Option.bind_some,Option.map_some]
  rw [this];rfl
 simp only [kN,e,h2,Option.bind_some,Option.map_some]
theorem afI {P:Program}{x y:Code}{N:Nat}{M:MT}{ah:AH}{nx:Nat}{Q:MQ}[iZ](K K':MT->AH->Nat->Prop)(hk:∀M ah nx,K M ah nx->(∀M ah nx,K' M ah nx->mJ P y N M ah nx Q)->mJ P y N M ah nx Q)
 (h:mJ P x N M ah nx (qp K Q)) (h':∀M ah nx,K' M ah nx->mJ P y N M ah nx Q):mJ P (.seq x y) N M ah nx Q:=pq K h fun M ah nx hK=>hk M ah nx hK h'
structure aa9 (F:List (dQ×Nat))(b bb:Nat)(ah:AH)(n0 n1:Nat):Prop where
 DK:vS F [] b ah n0 n1
 box:ah bb=some (.rows 1 [[.os b 18 0 F.length]])
 lo:n0<=bb
 hi:bb<n1
 ne:bb≠b
 ni:∀e∈F,bb≠e.2
theorem aa9.frame {F:List (dQ×Nat)}{b bb n0 n1:Nat}{ah eX:AH}(c:aa9 F b bb ah n0 n1)(ha:∀j,n0<=j->j<n1->eX j=ah j):aa9 F b bb eX n0 n1:=
 ⟨c.DK.frame (Nat.le_refl _) ha,by rw [ha _ c.lo c.hi];exact c.box,c.lo,c.hi,c.ne,c.ni⟩
theorem aa9.ny {F:List (dQ×Nat)}{b bb n0 n1:Nat}{ah:AH}(c:aa9 F b bb ah n0 n1){N:List dQ}(hN:F.map (·.1)=N):Go.Fw.ny (vP ah aoK) (.os b 18 0 F.length)=some (.sl (N.map dQ.enc) false):=by
 have:=adQ c.DK
 rw [hN] at this;exact this
theorem Ui {ah:AH}{a x b y:AV}(h:ny ah a=some x)(h2:ny ah b=some y):kN ah [a,b]=some [x,y]:=by simp only [kN,h,h2,Option.bind_some,Option.map_some]
theorem ajI {ah:AH}{a x b y c z:AV}(h:ny ah a=some x)(h2:ny ah b=some y)(h3:ny ah c=some z):kN ah [a,b,c]=some [x,y,z]:=by simp only [kN,h,h2,h3,Option.bind_some,Option.map_some]
theorem OM (h:dK):h.av.clean=true:=oL (dK.fz h)
theorem ahY {t:TypeId}{c:Bool}{k:IntKind}(a:Int):∀K:AV->Prop,K (.p (.bool false))->Q7 Tryz.prog .neq t c (.p (.int k a)) (.p (.int k a)) K:=fun K h=>⟨rfl,by simpa using h⟩
theorem afJ : ∃pl,aoJ Tryz.prog 24=some pl/\uV pl [.sl [] true] []=some [.sl [] true]:=⟨_,rfl,rfl⟩
theorem ajJ {M:MT}{t u:Nat}{a b:AV}(h:fD M t=some a)(h2:fD M u=some b):qw M [.tmp t,.tmp u]=some [a,b]:=by simp only [qw,lI,h,h2]
end Go.Fw
end
section
namespace Go.Fw
open Go.Proofs
set_option maxRecDepth 100000
theorem zF : qI Tryz.prog 55=some (false,1):=by kernel_rfl
theorem QY : qI Tryz.prog 29=some (true,4):=by kernel_rfl
theorem qW : qI Tryz.prog 39=some (true,26):=by kernel_rfl
theorem adS : qI Tryz.prog 4=some (false,1):=by kernel_rfl
theorem WJ : qI Tryz.prog 26=some (true,2):=by kernel_rfl
theorem Ld : qI Tryz.prog 31=some (true,16):=by kernel_rfl
theorem ZK : qI Tryz.prog 34=some (true,29):=by kernel_rfl
theorem ajK : qI Tryz.prog 3=some (false,1):=by kernel_rfl
theorem alK : qI Tryz.prog 5=some (false,1):=by kernel_rfl
theorem afK : rP Tryz.prog 57 0=some (0,true,1):=by kernel_rfl
theorem qO : rP Tryz.prog 57 1=some (1,false,1):=by kernel_rfl
theorem xE : rP Tryz.prog 57 2=some (2,true,29):=by kernel_rfl
theorem Uj : rP Tryz.prog 47 1=some (1,true,4):=by kernel_rfl
theorem LZ : rP Tryz.prog 47 2=some (5,false,1):=by kernel_rfl
theorem afL : rP Tryz.prog 34 0=some (0,false,1):=by kernel_rfl
theorem ZL : rP Tryz.prog 34 1=some (1,false,1):=by kernel_rfl
theorem Jv : rP Tryz.prog 34 2=some (2,true,2):=by kernel_rfl
theorem afM : rP Tryz.prog 34 3=some (4,true,16):=by kernel_rfl
theorem Uk : rP Tryz.prog 34 4=some (20,true,4):=by kernel_rfl
theorem yc : aoH Tryz.prog 39=some (zO.enc.set 23 (.sl [] true)):=by kernel_rfl
theorem FB : ao6 Tryz.prog 39=false:=by kernel_rfl
def adT (h:dK)(b k:Nat)(a:iK):List AV:=.sl (h.Objects.map dQ.enc) false::.op b 18 k 0::a.enc
structure FC (h:dK)(a:iK)(F:List (dQ×Nat))(o:dQ)(id b k bx:Nat)(ah:AH)(n0 nx:Nat):Prop where
 DK:vS F [] b ah n0 nx
 at':F[k]?=some (o,id)
 box:ah bx=some (.rows 31 [adT h b k a])
 bn:bx≠b
 bl:bx<nx
theorem FC.row {h:dK}{a:iK}{F:List (dQ×Nat)}{o:dQ}{id b k bx:Nat}{ah:AH}{n0 nx:Nat}(s:FC h a F o id b k bx ah n0 nx):(F.map uU++[].map dQ.enc)[k]?=some (zD o id):=by
 have h1:=s.at'
 simp only [List.map_nil,List.append_nil,List.getElem?_map,h1];rfl
def Ul (row:List AV)(out:gZ):Prop:=row.length=26/\∀ah,ny ah (.agg row)=some out.av
def P_ (out:gZ):List AV:=out.enc.set 23 (.sl [] true)
theorem Um {out:gZ}(h:out.Keys=[]):Ul (P_ out) out:=by
 refine ⟨rfl,fun ah=>?_⟩
 have e1:P_ out=out.enc.take 23++(.sl [] true::out.enc.drop 24):=rfl
 have hf:=gZ.jZ out
 have h1:kN ah (out.enc.take 23)=some (out.enc.take 23):=sV (vg.2 fun x hx=>vg.1 hf x (List.mem_of_mem_take hx))
 have h2:kN ah (out.enc.drop 24)=some (out.enc.drop 24):=sV (vg.2 fun x hx=>vg.1 hf x (List.mem_of_mem_drop hx))
 show (kN ah (P_ out)).map AV.agg=_
 rw [e1,He,h1]
 simp only [kN,ny,uX,h2,Option.bind_some,Option.map_some]
 have e2:out.av=.agg (out.enc.take 23++(.sl [] false::out.enc.drop 24)):=by
  unfold gZ.av
  have:out.enc=out.enc.take 23++(.sl (out.Keys.map dL.enc) false::out.enc.drop 24):=rfl
  rw [this,h];rfl
 rw [e2]
theorem Jw (out:gZ):Ul out.enc out:=⟨rfl,fun ah=>qg (gZ.fz out)⟩
def mK (F:List (dQ×Nat))(o':dQ)(out:gZ)(b k:Nat)(nX:AH)(n0 rH:Nat):CK:=fun r ah nx=>rH<=nx/\(∃row,r=.agg row/\Ul row out)/\(∀j,j<rH->j≠b->ah j=nX j)/\∃id,vS (F.set k (o',id)) [] b ah n0 nx
def mQ (F:List (dQ×Nat))(o':dQ)(out:gZ)(b k:Nat)(nX:AH)(n0 rH:Nat):MQ:=fun e M ah nx=>(e=.normal\/e=.ret)/\∃b2 row,fD M 2=some (.op b2 26 0 0)/\ah b2=some (.rows 26 [row])/\Ul row out/\rH<=nx/\(∀j,j<rH->j≠b->ah j=nX j)/\∃id,vS (F.set k (o',id)) [] b ah n0 nx
theorem WM {N:Nat}{F:List (dQ×Nat)}{o':dQ}{out:gZ}{b k:Nat}{nX:AH}{n0 rH:Nat}:∀e M fr ah nx,FA N M fr->mQ F o' out b k nX n0 rH e M ah nx->(e=.normal\/e=.ret)/\tX Tryz.prog fr ah [.cell 2 39] fun l=>mK F o' out b k nX n0 rH (one l) ah nx:=by
 intro e M fr eX nx' hf hq
 obtain ⟨he,b2,row,h2,hb2,hR,hnx,hlo,id,hF⟩:=hq
 refine ⟨he,dI.2 ⟨_,hf.get _ _ h2,dI.2 ⟨_,qW,?_⟩⟩⟩
 dsimp only
 rw [hb2]
 refine ⟨rfl,dI.2 ⟨_,rfl,by rw [hR.1];exact Nat.le_refl 26,hnx,⟨row,?_,hR⟩,hlo,id,hF⟩⟩
 have ev:((row.drop 0).take 26)=row:=by rw [List.drop_zero,List.take_of_length_le (by rw [hR.1];exact Nat.le_refl 26)]
 show AV.agg ((row.drop 0).take 26)=_
 rw [ev]
theorem ahZ : ∃pl,aoJ Tryz.prog 39=some pl/\∀p:dP,uV pl (zO.enc.set 23 (.sl [] true)) [(0,.p (.int .u8 1)),(1,p.av)]=some (P_ ⟨1,p,false,false,d0,[],0,[]⟩):=⟨_,rfl,fun p=>rfl⟩
theorem adU {h:dK}{a:iK}{F:List (dQ×Nat)}{o:dQ}{id b k bx:Nat}{ah:AH}{n0 nx:Nat}(s:FC h a F o id b k bx ah n0 nx) :
  CW Tryz.prog 14 [.op bx 31 0 0] ah nx (mK F o ⟨1,o.fB,false,false,d0,[],0,[]⟩ b k ah n0 nx):=by
 have hrow:=s.row
 have hb:=s.DK.hi
 obtain ⟨pl,hpl,haf⟩:=ahZ
 refine yj (M:=[(0,.op bx 31 0 0)]) (Q:=mQ F o ⟨1,o.fB,false,false,d0,[],0,[]⟩ b k ah n0 nx)
  Tryz.func14 rfl (by decide) (Nat.le_of_ble_eq_true rfl) ⟨rfl,trivial⟩ ?_ WM
 refine fA (dR ?_)
 refine pz rfl rfl rfl yc FB (dU rfl ?_)
 refine fA (dR ?_)
 refine iJ rfl rfl rfl rfl (pF rfl rfl rfl rfl (jJ rfl rfl rfl rfl qO rfl ?_))
 have hbx:∀{x:Option pI},upd ah nx x bx=some (.rows 31 [adT h b k a]):=by intro x;rw [aoE (by have:=s.bl;omega)];exact s.box
 refine iH rfl rfl rfl rfl zF hbx rfl (v:=.op b 18 k 0) rfl ?_
 refine pF rfl rfl rfl rfl (jJ rfl rfl rfl rfl Uj rfl ?_)
 have hbb:∀{x:Option pI},upd ah nx x b=some (.rows 18 (F.map uU++[].map dQ.enc)):=by intro x;rw [aoE (by omega)];exact s.DK.out
 refine iH rfl rfl rfl rfl QY hbb hrow (v:=o.fB.av) ⟨Nat.le_of_ble_eq_true rfl,rfl⟩ ?_
 refine xk rfl rfl rfl rfl yc hpl (haf o.fB) ?_
 refine kQ rfl rfl rfl rfl rfl qW (eY rfl) rfl rfl rfl (Nat.le_refl 26) (dU rfl ?_)
 refine mM ⟨.inr rfl,nx,P_ ⟨1,o.fB,false,false,d0,[],0,[]⟩,rfl,eY rfl,Um rfl,by omega,fun j hj hjb=>?_,id,?_⟩
 .rw [aoE (by omega),aoE (by omega)]
 .have e:F.set k (o,id)=F:=by
   have h1:=s.at'
   obtain ⟨hlt,he⟩:=List.getElem?_eq_some_iff.1 h1
   rw [<- he];simp
  rw [e]
  exact s.DK.frame (by omega) fun j hj hj'=>by rw [aoE (by omega),aoE (by omega)]
theorem BN {F:List (dQ×Nat)}{k:Nat}{x:dQ×Nat}(h:F[k]?=some x):F.set k x=F:=by
 obtain ⟨hlt,he⟩:=List.getElem?_eq_some_iff.1 h
 rw [<- he];simp
theorem vS.turn {F:List (dQ×Nat)}{b n0 nx nx' k id:Nat}{ah eX:AH}{o o':dQ}(h:vS F [] b ah n0 nx)(hk:F[k]?=some (o,id))(hn:nx<=nx')(hb:eX b=some (.rows 18 ((F.map uU).set k (zD o' id))))(ho:o'.Props=o.Props)
  (ha:∀j,n0<=j->j<nx->j≠b->eX j=ah j):vS (F.set k (o',id)) [] b eX n0 nx':=by
 have hmem:=List.mem_of_getElem? hk
 refine ⟨?_,h.lo,Nat.lt_of_lt_of_le h.hi hn,fun e he=>?_,?_⟩
 .rw [hb]
  have:(F.set k (o',id)).map uU=(F.map uU).set k (zD o' id):=by rw [List.map_set];rfl
  rw [this];simp
 .rcases List.mem_or_eq_of_mem_set he with he|rfl
  .have q:=h.blk e he
   exact ⟨by rw [ha _ q.2.1 q.2.2.1 q.2.2.2];exact q.1,q.2.1,Nat.lt_of_lt_of_le q.2.2.1 hn,q.2.2.2⟩
  .have q:=h.blk _ hmem
   exact ⟨by show eX id=some (.rows 18 (o'.Props.map dJ.enc));rw [ho,ha _ q.2.1 q.2.2.1 q.2.2.2];exact q.1,q.2.1,Nat.lt_of_lt_of_le q.2.2.1 hn,q.2.2.2⟩
 .have e:(F.set k (o',id)).map (·.2)=F.map (·.2):=by
   rw [List.map_set]
   have h2:(F.map (·.2))[k]?=some id:=by rw [List.getElem?_map,hk];rfl
   obtain ⟨hlt,he⟩:=List.getElem?_eq_some_iff.1 h2
   show (F.map (·.2)).set k id=_
   exact he▸List.set_getElem_self hlt
  rw [e];exact h.nd
theorem FC.bx' {h:dK}{a:iK}{F:List (dQ×Nat)}{o:dQ}{id b k bx:Nat}{ah:AH}{n0 nx:Nat}(s:FC h a F o id b k bx ah n0 nx){x:Option pI}:upd ah nx x bx=some (.rows 31 [adT h b k a]):=by rw [aoE (by have:=s.bl;omega)];exact s.box
theorem FC.bb' {h:dK}{a:iK}{F:List (dQ×Nat)}{o:dQ}{id b k bx:Nat}{ah:AH}{n0 nx:Nat}(s:FC h a F o id b k bx ah n0 nx){x:Option pI}:upd ah nx x b=some (.rows 18 (F.map uU++[].map dQ.enc)):=by rw [aoE (by have:=s.DK.hi;omega)];exact s.DK.out
theorem adV {h:dK}{a:iK}{F:List (dQ×Nat)}{o:dQ}{id b k bx:Nat}{ah:AH}{n0 nx:Nat}(s:FC h a F o id b k bx ah n0 nx) :
  CW Tryz.prog 16 [.op bx 31 0 0] ah nx (mK F o (dW o.Ext) b k ah n0 nx):=by
 have hrow:=s.row
 have hb:=s.DK.hi
 refine yj (M:=[(0,.op bx 31 0 0)]) (Q:=mQ F o (dW o.Ext) b k ah n0 nx) Tryz.func16 rfl (by decide) (Nat.le_of_ble_eq_true rfl) ⟨rfl,trivial⟩ ?_ WM
 refine fA (dR ?_)
 refine pz rfl rfl rfl yc FB (dU rfl ?_)
 refine fA (dR ?_)
 refine iJ rfl rfl rfl rfl (pF rfl rfl rfl rfl (jJ rfl rfl rfl rfl qO rfl ?_))
 refine iH rfl rfl rfl rfl zF s.bx' rfl (v:=.op b 18 k 0) rfl ?_
 refine pF rfl rfl rfl rfl (jJ rfl rfl rfl rfl LZ rfl ?_)
 refine iH rfl rfl rfl rfl adS s.bb' hrow (v:=eB o.Ext) rfl ?_
 refine rF rfl rfl rfl rfl (Vd:=[eB o.Ext]) rfl (fun _ _ _ h=>h) (kL o.Ext) (.inl rfl) ?_
 refine kQ rfl rfl rfl rfl rfl qW (eY rfl) rfl rfl rfl (Nat.le_refl 26) (dU rfl ?_)
 refine mM ⟨.inr rfl,nx,(dW o.Ext).enc,rfl,eY rfl,Jw _,by omega,fun j hj hjb=>?_,id,?_⟩
 .rw [aoE (by omega),aoE (by omega)]
 .rw [BN s.at']
  exact s.DK.frame (by omega) fun j hj hj'=>by rw [aoE (by omega),aoE (by omega)]
theorem aa_ {h:dK}{a:iK}{F:List (dQ×Nat)}{o:dQ}{id b k bx:Nat}{ah:AH}{n0 nx:Nat}(s:FC h a F o id b k bx ah n0 nx) :
  CW Tryz.prog 17 [.op bx 31 0 0] ah nx (mK F {o with Ext:=false} (dW true) b k ah n0 nx):=by
 have hrow:=s.row
 have hb:=s.DK.hi
 refine yj (M:=[(0,.op bx 31 0 0)]) (Q:=mQ F {o with Ext:=false} (dW true) b k ah n0 nx) Tryz.func17 rfl (by decide) (Nat.le_of_ble_eq_true rfl) ⟨rfl,trivial⟩ ?_ WM
 refine fA (dR ?_)
 refine pz rfl rfl rfl yc FB (dU rfl ?_)
 refine fA (dR ?_)
 refine iJ rfl rfl rfl rfl (pF rfl rfl rfl rfl (jJ rfl rfl rfl rfl qO rfl ?_))
 refine iH rfl rfl rfl rfl zF s.bx' rfl (v:=.op b 18 k 0) rfl ?_
 refine pF rfl rfl rfl rfl (jJ rfl rfl rfl rfl LZ rfl ?_)
 refine kQ rfl rfl rfl rfl rfl adS s.bb' rfl rfl hrow (Nat.le_of_ble_eq_true rfl) (dU rfl ?_)
 refine fA (dR ?_)
 refine rF rfl rfl rfl rfl (Vd:=[eB true]) rfl (fun _ _ _ h=>h) (kL true) (.inl rfl) ?_
 refine kQ rfl rfl rfl rfl rfl qW (rs:=[zO.enc.set 23 (.sl [] true)]) (by rw [aoE (by omega)];exact eY rfl) rfl rfl rfl (Nat.le_refl 26) (dU rfl ?_)
 refine mM ⟨.inr rfl,nx,(dW true).enc,rfl,eY rfl,Jw _,by omega,fun j hj hjb=>?_,id,?_⟩
 .rw [aoE (by omega),aoE hjb,aoE (by omega)]
 .refine s.DK.turn s.at' (by omega) ?_ rfl fun j hj hj' hjb=>by rw [aoE (by omega),aoE hjb,aoE (by omega)]
  rw [aoE (by omega),eY rfl]
  simp only [List.map_nil,List.append_nil]
  rfl
theorem Kz : ∀l:List dJ,jI (l.map dJ.enc)=[]
 |[]=>rfl
 |_::r=>by simp only [List.map_cons,jI,Kz r];rfl
theorem Yr {ah:AH}{id:Nat}{l:List dJ}(h:ah id=some (.rows 18 (l.map dJ.enc))):∀b∈rch ah aoK [id],b=id:=by
 have e:pR ah id=[]:=by unfold pR;rw [h];exact Kz l
 intro b hb
 show b=id
 have:rch ah aoK [id]=[id]:=by
  show rch ah 3 [id]=[id]
  simp [rch,e]
 rw [this] at hb
 simpa using hb
theorem zf {ah:AH}{id:Nat}{l:List dJ}(h:ah id=some (.rows 18 (l.map dJ.enc))):ny (vP ah aoK) (.os id 18 0 (l.map dJ.enc).length)=some (.sl (l.map dJ.enc) false):=
 yH h (rZ (zk dJ.jZ)) rfl
theorem ZM : aoH Tryz.prog 31=some d0.enc:=by kernel_rfl
theorem ZN : ao6 Tryz.prog 31=false:=by kernel_rfl
theorem afN : ∃pl,aoJ Tryz.prog 39=some pl/\∀(f:Bool) (d:dM),uV pl (zO.enc.set 23 (.sl [] true)) [(0,.p (.int .u8 1)),(3,.p (.bool f)),(4,d.av)]=some (P_ ⟨1,WZ,false,f,d,[],0,[]⟩):=⟨_,rfl,fun f d=>rfl⟩
theorem adW {h:dK}{a:iK}{F:List (dQ×Nat)}{o:dQ}{id b k bx:Nat}{ah:AH}{n0 nx:Nat}(s:FC h a F o id b k bx ah n0 nx) :
  CW Tryz.prog 18 [.op bx 31 0 0] ah nx (mK F o ⟨1,WZ,false,(dZ o.Props a.Key).2.1,(dZ o.Props a.Key).1,[],0,[]⟩ b k ah n0 nx):=by
 have hrow:=s.row
 have hb:=s.DK.hi
 have hbl:=s.bl
 have hid:=s.DK.blk _ (List.mem_of_getElem? s.at')
 have ah6:=hid.2.2.1
 have LC:∀{x:Option pI},upd ah nx x id=some (.rows 18 (o.Props.map dJ.enc)):=by intro x;rw [aoE (by omega)];exact hid.1
 obtain ⟨pl,hpl,haf⟩:=afN
 refine yj (M:=[(0,.op bx 31 0 0)]) (Q:=mQ F o ⟨1,WZ,false,(dZ o.Props a.Key).2.1,(dZ o.Props a.Key).1,[],0,[]⟩ b k ah n0 nx) Tryz.func18 rfl (by decide) (Nat.le_of_ble_eq_true rfl) ⟨rfl,trivial⟩ ?_ WM
 refine fA (dR ?_)
 refine pz rfl rfl rfl yc FB (dU rfl ?_)
 refine fA (qA NR _ rfl (by kernel_rfl) (by kernel_rfl) ?_)
 refine oP rfl rfl rfl rfl (lS rfl rfl rfl rfl (jv rfl rfl rfl rfl qO rfl ?_))
 refine jU rfl rfl rfl rfl (by omega) rfl zF s.bx' rfl (v:=.op b 18 k 0) rfl ?_
 refine lS rfl rfl rfl rfl (jv rfl rfl rfl rfl uG rfl ?_)
 refine jU rfl rfl rfl rfl (by omega) rfl D7 s.bb' hrow (v:=.os id 18 0 (o.Props.map dJ.enc).length) rfl ?_
 refine oP rfl rfl rfl rfl (lS rfl rfl rfl rfl (jv rfl rfl rfl rfl xE rfl (jv rfl rfl rfl rfl Jv rfl ?_)))
 refine jU rfl rfl rfl rfl (by omega) rfl WJ s.bx' rfl (v:=a.Key.av) ⟨Nat.le_of_ble_eq_true rfl,rfl⟩ ?_
 refine JZ rfl rfl rfl (fun c hc=>by have:=Yr LC c hc;omega) rfl rfl (Ui (zf LC) (qg (dL.fz a.Key))) (fun _ _ _ h=>h) (AP o.Props a.Key) (.inr rfl) ?_
 refine oP rfl rfl rfl rfl (uz rfl rfl rfl rfl rfl (uz rfl rfl rfl rfl rfl (uz rfl rfl rfl rfl rfl ?_)))
 refine LK rfl rfl rfl ZM ZN ?_
 refine JY rfl rfl rfl (by omega) rfl rfl rfl Ld (eY rfl) rfl rfl rfl (Nat.le_refl 16) ?_
 refine Aj rfl rfl rfl rfl (Aj rfl rfl rfl rfl (xq rfl ?_))
 refine fA (dR ?_)
 refine iJ rfl rfl rfl rfl ?_
 refine iH rfl rfl rfl rfl Ld (eY rfl) rfl (v:=(dZ o.Props a.Key).1.av) ⟨Nat.le_of_ble_eq_true rfl,rfl⟩ ?_
 refine xk rfl rfl rfl rfl yc hpl (haf _ _) ?_
 refine kQ rfl rfl rfl rfl rfl qW (rs:=[zO.enc.set 23 (.sl [] true)]) (by rw [aoE (by omega),aoE (by omega)];exact eY rfl) rfl rfl rfl (Nat.le_refl 26) (dU rfl ?_)
 refine mM ⟨.inr rfl,nx,P_ ⟨1,WZ,false,(dZ o.Props a.Key).2.1,(dZ o.Props a.Key).1,[],0,[]⟩,rfl,eY rfl,Um rfl,by omega,fun j hj hjb=>?_,id,?_⟩
 .rw [aoE (by omega),aoE (by omega),aoE (by omega),aoE (by omega)]
 .rw [BN s.at']
  exact s.DK.frame (by omega) fun j hj hj'=>by rw [aoE (by omega),aoE (by omega),aoE (by omega),aoE (by omega)]
theorem Un {h:dK}{a:iK}{F:List (dQ×Nat)}{o:dQ}{id b k bx:Nat}{ah:AH}{n0 nx:Nat}(s:FC h a F o id b k bx ah n0 nx){M:MT}{v:Bool}{n:Nat}(hM:fD M 2=some (.op nx 26 0 0))(hn:nx<=n){rs:Option pI} :
  mQ F o (dW v) b k ah n0 nx .ret M (upd (upd ah nx rs) nx (some (.rows 26 [(dW v).enc]))) n:=by
 have hb:=s.DK.hi
 refine ⟨.inr rfl,nx,(dW v).enc,hM,eY rfl,Jw _,hn,fun j hj hjb=>?_,id,?_⟩
 .rw [aoE (by omega),aoE (by omega)]
 .rw [BN s.at']
  exact s.DK.frame hn fun j hj hj'=>by rw [aoE (by omega),aoE (by omega)]
theorem WO : ∀l:List dQ,jI (l.map dQ.enc)=[]
 |[]=>rfl
 |o::r=>by
  simp only [List.map_cons,jI,WO r,List.append_nil]
  show jR o.enc=[]
  simp [dQ.enc,jR,AV.refs,Kz]
theorem Yt {ah:AH}{h:dK}{n:Int}{v:dP}:rch ah aoK (jR [h.av,eI n,v.av])=[]:=by
 have:jR [h.av,eI n,v.av]=[]:=by simp [jR,AV.refs,dK.av,dK.enc,dP.av,dP.enc,WO]
 rw [this];rfl
def Yu (h:dK)(a:iK)(o:dQ):dQ×gZ:=bif jQ a.Value o.fB||!o.Ext||iD h a.Object a.Value then (o,dW (jQ a.Value o.fB)) else ({o with fB:=a.Value},dW true)
theorem abb {h:dK}{a:iK}{F:List (dQ×Nat)}{o:dQ}{id b k bx:Nat}{ah:AH}{n0 nx:Nat}(s:FC h a F o id b k bx ah n0 nx)(hC:iR h=0)(hI:hIn h a.Value) :
  CW Tryz.prog 15 [.op bx 31 0 0] ah nx (mK F (Yu h a o).1 (Yu h a o).2 b k ah n0 nx):=by
 have hrow:=s.row
 have hb:=s.DK.hi
 have hbl:=s.bl
 refine yj (M:=[(0,.op bx 31 0 0)]) (Q:=mQ F (Yu h a o).1 (Yu h a o).2 b k ah n0 nx) Tryz.func15 rfl (by decide) (Nat.le_of_ble_eq_true rfl) ⟨rfl,trivial⟩ ?_ WM
 refine fA (dR ?_)
 refine pz rfl rfl rfl yc FB (dU rfl ?_)
 refine fA (fA (qA NR _ rfl (by kernel_rfl) (by kernel_rfl) ?_))
 refine oP rfl rfl rfl rfl (lS rfl rfl rfl rfl (jv rfl rfl rfl rfl xE rfl (jv rfl rfl rfl rfl Uk rfl ?_)))
 refine jU rfl rfl rfl rfl (by omega) rfl QY s.bx' rfl (v:=a.Value.av) ⟨Nat.le_of_ble_eq_true rfl,rfl⟩ ?_
 refine oP rfl rfl rfl rfl (lS rfl rfl rfl rfl (jv rfl rfl rfl rfl qO rfl ?_))
 refine jU rfl rfl rfl rfl (by omega) rfl zF s.bx' rfl (v:=.op b 18 k 0) rfl ?_
 refine lS rfl rfl rfl rfl (jv rfl rfl rfl rfl Uj rfl ?_)
 refine jU rfl rfl rfl rfl (by omega) rfl QY s.bb' hrow (v:=o.fB.av) ⟨Nat.le_of_ble_eq_true rfl,rfl⟩ ?_
 refine JZ rfl rfl rfl (fun c hc=>by simp [jR,AV.refs,dP.av,dP.enc,rch] at hc) rfl rfl (Ui (qg (dP.fz a.Value)) (qg (dP.fz o.fB))) (fun _ _ _ h=>h) (PZ a.Value o.fB) (.inr rfl) (xq rfl ?_)
 unfold Yu
 refine jT rfl (fun hs=>?_) fun hs=>nJ ?_
 .refine fA (dR ?_)
  refine rF rfl rfl rfl rfl (Vd:=[eB true]) rfl (fun _ _ _ h=>h) (kL true) (.inl rfl) ?_
  refine kQ rfl rfl rfl rfl rfl qW (eY rfl) rfl rfl rfl (Nat.le_refl 26) (dU rfl ?_)
  rw [hs]
  exact mM (Un s rfl (by omega))
 rw [hs]
 refine nY [(0,.op bx 31 0 0),(2,.op nx 26 0 0)] ⟨rfl,rfl,trivial⟩ ?_
 refine fA (fA (qA NR _ rfl (by kernel_rfl) (by kernel_rfl) ?_))
 refine oP rfl rfl rfl rfl (lS rfl rfl rfl rfl (jv rfl rfl rfl rfl qO rfl ?_))
 refine jU rfl rfl rfl rfl (by omega) rfl zF s.bx' rfl (v:=.op b 18 k 0) rfl ?_
 refine lS rfl rfl rfl rfl (jv rfl rfl rfl rfl LZ rfl ?_)
 refine jU rfl rfl rfl rfl (by omega) rfl adS s.bb' hrow (v:=eB o.Ext) rfl ?_
 refine ag_ rfl rfl rfl rfl (fun K h=>h) ?_
 cases he:o.Ext with
 |false=>
  refine oP rfl rfl rfl rfl ?_
  refine uK rfl rfl rfl (uK rfl rfl rfl (uK rfl rfl rfl (uK rfl rfl rfl (uK rfl rfl rfl ?_))))
  refine uK rfl rfl rfl (uK rfl rfl rfl (uK rfl rfl rfl (uK rfl rfl rfl (uK rfl rfl rfl ?_))))
  refine uK rfl rfl rfl (uK rfl rfl rfl (uK rfl rfl rfl (uK rfl rfl rfl (uK rfl rfl rfl ?_))))
  refine Vg rfl rfl rfl rfl rfl (xq rfl ?_)
  refine jT rfl (fun _=>?_) fun h=>by cases h
  refine fA (dR ?_)
  refine rF rfl rfl rfl rfl (Vd:=[eB false]) rfl (fun _ _ _ h=>h) (kL false) (.inl rfl) ?_
  refine kQ rfl rfl rfl rfl rfl qW (eY rfl) rfl rfl rfl (Nat.le_refl 26) (dU rfl ?_)
  exact mM (Un s rfl (by omega))
 |true=>
 refine oP rfl rfl rfl rfl ?_
 refine oP rfl rfl rfl rfl (lS rfl rfl rfl rfl (jv rfl rfl rfl rfl afK rfl ?_))
 refine jU rfl rfl rfl rfl (by omega) rfl sQ s.bx' rfl (v:=h.av) ⟨Nat.le_of_ble_eq_true rfl,rfl⟩ ?_
 refine oP rfl rfl rfl rfl (lS rfl rfl rfl rfl (jv rfl rfl rfl rfl xE rfl (jv rfl rfl rfl rfl ZL rfl ?_)))
 refine jU rfl rfl rfl rfl (by omega) rfl ajK s.bx' rfl (v:=eI a.Object) rfl ?_
 refine oP rfl rfl rfl rfl (lS rfl rfl rfl rfl (jv rfl rfl rfl rfl xE rfl (jv rfl rfl rfl rfl Uk rfl ?_)))
 refine jU rfl rfl rfl rfl (by omega) rfl QY s.bx' rfl (v:=a.Value.av) ⟨Nat.le_of_ble_eq_true rfl,rfl⟩ ?_
 refine JZ rfl rfl rfl (fun c hc=>by rw [Yt] at hc;cases hc) rfl rfl (ajI (QX h) rfl (qg (dP.fz a.Value))) (fun _ _ _ h=>h) (H8 h a.Object a.Value hC hI) (.inr rfl) ?_
 refine Vg rfl rfl rfl rfl rfl (xq rfl ?_)
 refine jT rfl (fun hbh=>?_) fun hbh=>nJ ?_
 .refine fA (dR ?_)
  refine rF rfl rfl rfl rfl (Vd:=[eB false]) rfl (fun _ _ _ h=>h) (kL false) (.inl rfl) ?_
  refine kQ rfl rfl rfl rfl rfl qW (eY rfl) rfl rfl rfl (Nat.le_refl 26) (dU rfl ?_)
  rw [hbh]
  exact mM (Un s rfl (by omega))
 rw [hbh]
 refine nY [(0,.op bx 31 0 0),(2,.op nx 26 0 0)] ⟨rfl,rfl,trivial⟩ ?_
 refine fA (qA NR _ rfl (by kernel_rfl) (by kernel_rfl) ?_)
 refine oP rfl rfl rfl rfl (lS rfl rfl rfl rfl (jv rfl rfl rfl rfl qO rfl ?_))
 refine jU rfl rfl rfl rfl (by omega) rfl zF s.bx' rfl (v:=.op b 18 k 0) rfl ?_
 refine oP rfl rfl rfl rfl (lS rfl rfl rfl rfl (jv rfl rfl rfl rfl xE rfl (jv rfl rfl rfl rfl Uk rfl ?_)))
 refine jU rfl rfl rfl rfl (by omega) rfl QY s.bx' rfl (v:=a.Value.av) ⟨Nat.le_of_ble_eq_true rfl,rfl⟩ ?_
 refine lS rfl rfl rfl rfl (jv rfl rfl rfl rfl Uj rfl ?_)
 refine JY rfl rfl rfl (by omega) rfl rfl rfl QY s.bb' rfl rfl hrow (Nat.le_of_ble_eq_true rfl) (xq rfl ?_)
 refine fA (dR ?_)
 refine rF rfl rfl rfl rfl (Vd:=[eB true]) rfl (fun _ _ _ h=>h) (kL true) (.inl rfl) ?_
 refine kQ rfl rfl rfl rfl rfl qW (rs:=[zO.enc.set 23 (.sl [] true)]) (by rw [aoE (by omega)];exact eY rfl) rfl rfl rfl (Nat.le_refl 26) (dU rfl ?_)
 refine mM ⟨.inr rfl,nx,(dW true).enc,rfl,eY rfl,Jw _,by omega,fun j hj hjb=>?_,id,?_⟩
 .rw [aoE (by omega),aoE hjb,aoE (by omega)]
 .refine s.DK.turn s.at' (by omega) ?_ rfl fun j hj hj' hjb=>by rw [aoE (by omega),aoE hjb,aoE (by omega)]
  rw [aoE (by omega),eY rfl]
  simp only [List.map_nil,List.append_nil]
  have e:zD {o with fB:=a.Value,Ext:=true} id=zD {o with fB:=a.Value} id:=by rw [<- he]
  show some (pI.rows 18 ((F.map uU).set k (lay (zD o id) 1 a.Value.av.cells)))=some (pI.rows 18 ((F.map uU).set k (zD {o with fB:=a.Value,Ext:=true} id)))
  rw [e];rfl
end Go.Fw
end
section
namespace Go.Fw
open Go.Proofs
set_option maxRecDepth 100000
theorem QZ (l:List dJ):∀row∈l.map dJ.enc,KA row=true:=by
 intro row h
 obtain ⟨x,-,rfl⟩:=List.mem_map.1 h
 rfl
theorem ah7 {ah:AH}{nx id:Nat}{l:List dJ}(h:ah id=some (.rows 18 (l.map dJ.enc)))(k:dL)(d:dM) :
  CW Tryz.prog 43 [.os id 18 0 (l.map dJ.enc).length,k.av,d.av] ah nx (fun r eX nx'=>r=.kS [.os nx 18 0 ((fC l k d).1.map dJ.enc).length,eI (fC l k d).2]/\eX=upd ah nx (some (.rows 18 ((fC l k d).1.map dJ.enc)))/\nx'=nx+1):=
 Hr (ajI (zf h) (qg (dL.fz k)) (qg (dM.fz d))) rfl rfl rfl (QZ _) rfl (Uf l k d) ⟨rfl,rfl,rfl⟩
theorem afO {ah:AH}{nx id:Nat}{l:List dJ}(h:ah id=some (.rows 18 (l.map dJ.enc)))(k:dL) :
  CW Tryz.prog 44 [.os id 18 0 (l.map dJ.enc).length,k.av] ah nx (fun r eX nx'=>r=.kS [.os nx 18 0 ((fK l k).1.map dJ.enc).length,eI (fK l k).2]/\eX=upd ah nx (some (.rows 18 ((fK l k).1.map dJ.enc)))/\nx'=nx+1):=
 Hr (Ui (zf h) (qg (dL.fz k))) rfl rfl rfl (QZ _) rfl (P8 l k) ⟨rfl,rfl,rfl⟩
end Go.Fw
end
section
namespace Go.Fw
open Go.Proofs
set_option maxRecDepth 100000
theorem ajM {M:MT}{t u v:Nat}{a b c:AV}(h:fD M t=some a)(h2:fD M u=some b)(h3:fD M v=some c):qw M [.tmp t,.tmp u,.tmp v]=some [a,b,c]:=by simp only [qw,lI,h,h2,h3]
def dfT (bx b k id b6 rH:Nat)(o:dQ)(a:iK)(d:dM)(M0:MT)(nX:AH)(C C14 C15 C16 C17 C18:Bool)(M:MT)(ah:AH)(nx:Nat):Prop:=
 (C=false/\C14=false/\C15=false/\C16=false/\C17=false/\C18=false)\/
 (C=true/\∃m,rH<=m/\m<nx/\ah m=some (.rows 18 ((fC o.Props a.Key d).1.map dJ.enc))/\fD M 64=some (.kS [.os m 18 0 ((fC o.Props a.Key d).1.map dJ.enc).length,eI (fC o.Props a.Key d).2])/\(C14=true->fD M 50=some (.kS [.os m 18 0 ((fC o.Props a.Key d).1.map dJ.enc).length,eI (fC o.Props a.Key d).2]))/\(C15=true->fD M 65=some (.os m 18 0 ((fC o.Props a.Key d).1.map dJ.enc).length))/\(C16=true->fD M 66=some (eI (fC o.Props a.Key d).2))/\(C17=true->fD M 9=some (.os m 18 0 ((fC o.Props a.Key d).1.map dJ.enc).length))/\(C18=true->fD M 10=some (eI (fC o.Props a.Key d).2)))
theorem dfT.keep {bx b k id b6 rH:Nat}{o:dQ}{a:iK}{d:dM}{M0:MT}{nX:AH}{C C14 C15 C16 C17 C18:Bool}{M M':MT}{ah:AH}{nx nx':Nat}(h:dfT bx b k id b6 rH o a d M0 nX C C14 C15 C16 C17 C18 M ah nx)(e64:fD M' 64=fD M 64)(e50:fD M' 50=fD M 50)(e65:fD M' 65=fD M 65)(e66:fD M' 66=fD M 66)(e9:fD M' 9=fD M 9)(e10:fD M' 10=fD M 10)(hn:nx<=nx'):dfT bx b k id b6 rH o a d M0 nX C C14 C15 C16 C17 C18 M' ah nx':=by
 unfold dfT at h ⊢
 rw [e64,e50,e65,e66,e9,e10]
 rcases h with h|⟨h1,m,h2,h3,h4⟩
 .exact .inl h
 .exact .inr ⟨h1,m,h2,by omega,h4⟩
def dfS (bx b k id b6 rH:Nat)(o:dQ)(a:iK)(d:dM)(M0:MT)(nX:AH):(Nat->Bool)->MT->AH->Nat->Prop:=fun L M ah nx=>
 ML M M0/\(L 0=true->fD M 51=some (.op bx 31 0 0))/\(L 1=true->fD M 52=some (.op bx 31 0 0))/\(L 2=true->fD M 53=some (.op bx 31 0 1))/\(L 3=true->fD M 54=some (.op b 18 k 0))/\(L 4=true->fD M 55=some (.op b 18 k 0))/\(L 5=true->fD M 56=some (.op b 18 k 6))/\(L 6=true->fD M 57=some (.os id 18 0 (o.Props.map dJ.enc).length))/\(L 7=true->fD M 58=some (.op bx 31 0 0))/\(L 8=true->fD M 59=some (.op bx 31 0 0))/\(L 9=true->fD M 60=some (.op bx 31 0 2))/\(L 10=true->fD M 61=some (.op bx 31 0 4))/\(L 11=true->fD M 62=some (a.Key.av))/\(L 12=true->fD M 63=some (d.av))/\rH<=nx/\(∀j,j<rH->ah j=nX j)/\dfT bx b k id b6 rH o a d M0 nX (L 13) (L 14) (L 15) (L 16) (L 17) (L 18) M ah nx
end Go.Fw
end
