/- Machinery of this seat's proofs (LKW, ZKW): lemmas that the last text uses; no statement of its own. -/
import Derived.Test.YtadimeiflddpcaaDoorFwF
import Derived.Test.YtadimeiflddpcaaDoorCards
import Derived.Test.YtadimeiflddpcaaDoorTie
import Derived.Lib.LaidIn
import Derived.Deep.DeepHandedRow
import Derived.SevenTiedAt
section
set_option linter.unusedVariables false
set_option linter.unusedSimpArgs false
set_option linter.unusedSectionVars false
namespace Go.Fw
set_option linter.unusedVariables false
set_option linter.unusedSimpArgs false
theorem third_eq (k:GKey):law08_third k=(key_place k).1:=by
 unfold law08_third key_place
 dsimp only
 cases (key_Index k).2
 ·by_cases h:k.Sym > 0<;>simp [h]
 ·rfl
theorem place_pair (k:GKey):(∃n,key_place k=(0,n)∧n=(key_Index k).1)∨key_place k=(2,0)∨key_place k=(1,0):=by
 rw [place_eq]
 by_cases h:isI k=true
 ·rw [if_pos h];exact Or.inl ⟨_,rfl,rfl⟩
 ·rw [if_neg h]
  by_cases h2:k.Sym > 0
  ·rw [if_pos h2];exact Or.inr (Or.inl rfl)
  ·rw [if_neg h2];exact Or.inr (Or.inr rfl)
theorem third_one (k:GKey):iNe (law08_third k) 1=!decide (key_place k=(1,0)):=by
 rw [third_eq,qiNe]
 congr 1
 rcases place_pair k with ⟨n,h,-⟩|h|h<;>rw [h]<;>simp
theorem times_l2 {x0:List GKey}{k:GKey}(hl:x0.length≤4294967296):∀(n j c:Nat),j≤x0.length→x0.length-j<n→c≤j→law08_times_l2 x0 k n c j=((c+((x0.drop j).filter (fun q=>decide (q=k))).length:Nat):Int)
 |0,j,c,hj,hn,hc=>by omega
 |n+1,j,c,hj,hn,hc=>by
  simp only [law08_times_l2,q_lt,key_eq,qAdd (show j≤4294967296 by omega),qAdd (show c≤4294967296 by omega),Int.toNat_natCast]
  by_cases hlt:j<x0.length
  ·rw [q_drop x0 j hlt]
   simp only [hlt,decide_true,Bool.not_true,cond_false]
   by_cases hk:x0.getD j default=k
   ·simp only [hk,decide_true,cond_true,List.filter_cons,if_true,List.length_cons]
    rw [times_l2 hl n (j+1) (c+1) (by omega) (by omega) (by omega)]
    congr 1;omega
   ·simp only [hk,decide_false,cond_false,List.filter_cons,Bool.false_eq_true,if_false]
    rw [times_l2 hl n (j+1) c (by omega) (by omega) (by omega)]
  ·simp only [hlt,decide_false,Bool.not_false,cond_true]
   rw [List.drop_eq_nil_iff.2 (by omega)];simp
theorem times_eq {x0:List GKey}{k:GKey}(hl:x0.length≤4294967296):law08_times x0 k=((x0.filter (fun q=>decide (q=k))).length:Nat):=by
 unfold law08_times
 have:=times_l2 (k:=k) hl (x0.length+1) 0 0 (by omega) (by omega) (by omega)
 simpa using this
theorem Eqp.count {a b:List GKey}(h:Eqp a b)(k:GKey):a.filter (fun q=>decide (q=k))=b.filter (fun q=>decide (q=k)):=by
 have e:∀l:List GKey,l.filter (fun q=>decide (q=k))=(l.filter (fun q=>decide (key_place q=key_place k))).filter (fun q=>decide (q=k)):=by
  intro l
  rw [List.filter_filter]
  congr 1
  funext q
  by_cases hq:q=k
  ·simp [hq]
  ·simp [hq]
 rw [e a,e b,h]
theorem kr_l4_ok {x0 m:List GKey}(hl:x0.length≤4294967296)(hm:m.length≤4294967296)(hs:Srt m)(he:Eqp m x0):∀(n j:Nat) (u:Bool),j≤m.length→m.length-j<n→law08_KeyRow_l4 x0 m m n u j=(true,u,default)
 |0,j,u,hj,hn=>by omega
 |n+1,j,u,hj,hn=>by
  have hz:iEq ((j:Nat):Int) 0=decide (j=0):=by rw [qiEq];exact decide_eq_decide.2 (by omega)
  simp only [law08_KeyRow_l4,q_lt,key_eq,qAdd (show j≤4294967296 by omega),Int.toNat_natCast,times_eq hl,times_eq hm,he.count,qiNe_self,decide_true,Bool.not_true,Bool.or_false,cond_false,hz]
  by_cases hlt:j<m.length
  ·simp only [hlt,decide_true,Bool.not_true,cond_false]
   cases j with
   |zero=>simpa using kr_l4_ok hl hm hs he n 1 u (by omega) (by omega)
   |succ i=>
    have e:(iSub .i64 (((i+1:Nat)):Int) 1).toNat=i:=by rw [iSubC (by omega) (by omega)];omega
    have hp:ltK (m.getD (i+1) default) (m.getD i default)=false:=by
     have h1:i<m.length:=by omega
     have:=List.pairwise_iff_getElem.1 hs i (i+1) h1 hlt (by omega)
     rw [List.getD_eq_getElem?_getD,List.getD_eq_getElem?_getD,List.getElem?_eq_getElem h1,List.getElem?_eq_getElem hlt]
     exact this
    simp only [e]
    generalize m.getD (i+1) default=b at hp
    generalize m.getD i default=a at hp
    have hc:(decide (law08_third a > law08_third b)||((iEq (law08_third a) 0&&iEq (law08_third b) 0)&&decide ((key_Index a).1 > (key_Index b).1)))=false:=by
     rw [third_eq,third_eq,qiEq,qiEq]
     rw [ltK_f] at hp
     rcases place_pair a with ⟨x,ha,hx⟩|ha|ha<;>rcases place_pair b with ⟨y,hb,hy⟩|hb|hb<;>rw [ha,hb] at hp ⊢<;>simp at hp ⊢<;>first|omega|skip
    simp only [show decide (i+1=0)=false from by simp,cond_false]
    rw [hc]
    exact kr_l4_ok hl hm hs he n (i+1+1) u (by omega) (by omega)
  ·simp only [hlt,decide_false,Bool.not_false,cond_true]
def isS (k:GKey):Bool:=decide (key_place k=(1,0))
theorem kr_l12_ok {m:List GKey}(hm:m.length≤4294967296):∀(n t:Nat),t≤m.length→m.length-t<n→∃r:Nat,law08_KeyRow_l12 m n t=r∧t≤r∧r≤m.length∧(m.drop t).filter isS=(m.drop r).filter isS∧(r<m.length→isS (m.getD r default)=true)
 |0,t,ht,hn=>by omega
 |n+1,t,ht,hn=>by
  have hlt':decide (((t:Nat):Int)<(mLen GKey.enc m:Int))=decide (t<m.length):=by rw [mLen_eq];exact decide_eq_decide.2 (by omega)
  simp only [law08_KeyRow_l12,hlt',third_one,qAdd (show t≤4294967296 by omega),Int.toNat_natCast]
  by_cases hlt:t<m.length
  ·by_cases hk:key_place (m.getD t default)=(1,0)
   ·refine ⟨t,?_,Nat.le_refl _,ht,rfl,fun _=>decide_eq_true hk⟩
    simp only [hlt,hk,decide_true,Bool.not_true,Bool.and_false,Bool.not_false,cond_true]
   ·obtain ⟨r,h1,h2,h3,h4,h5⟩:=kr_l12_ok hm n (t+1) (by omega) (by omega)
    refine ⟨r,?_,by omega,h3,?_,h5⟩
    ·simp only [hlt,hk,decide_true,decide_false,Bool.not_false,Bool.and_self,Bool.not_true,cond_false]
     exact h1
    ·rw [q_drop m t hlt,List.filter_cons]
     have:isS (m.getD t default)=false:=decide_eq_false hk
     rw [this];exact h4
  ·refine ⟨t,?_,Nat.le_refl _,ht,rfl,fun h=>absurd h hlt⟩
   simp [hlt]
theorem kr_l7_ok {x0 m:List GKey}(hl:x0.length≤4294967296)(hm:m.length≤4294967296):∀(n j t:Nat) (u:Bool),j≤x0.length→x0.length-j<n→t≤m.length→(x0.drop j).filter isS=(m.drop t).filter isS→law08_KeyRow_l7 x0 m n u t j=(true,u,default)
 |0,j,t,u,hj,hn,ht,he=>by omega
 |n+1,j,t,u,hj,hn,ht,he=>by
  obtain ⟨r,h1,h2,h3,h4,h5⟩:=kr_l12_ok hm (m.length+1) t ht (by omega)
  have hge:decide (((r:Nat):Int)≥(mLen GKey.enc m:Int))=decide (m.length≤r):=by rw [mLen_eq];exact decide_eq_decide.2 (by omega)
  simp only [law08_KeyRow_l7,q_lt,key_eq,third_one,h1,hge,qAdd (show j≤4294967296 by omega),qAdd (show r≤4294967296 by omega),Int.toNat_natCast]
  by_cases hlt:j<x0.length
  ·rw [q_drop x0 j hlt,List.filter_cons] at he
   simp only [hlt,decide_true,Bool.not_true,cond_false]
   generalize x0.getD j default=p at he
   by_cases hk:key_place p=(1,0)
   ·have hs:isS p=true:=decide_eq_true hk
    rw [hs,if_pos rfl,h4] at he
    have hr:r<m.length:=by
     rcases Nat.lt_or_ge r m.length with q|q
     ·exact q
     ·rw [List.drop_eq_nil_iff.2 q] at he;cases he
    rw [q_drop m r hr,List.filter_cons,h5 hr,if_pos rfl] at he
    obtain ⟨e1,e2⟩:=List.cons.inj he
    have hnr:¬m.length≤r:=by omega
    simp only [hk,decide_true,Bool.not_true,Bool.not_false,hnr,decide_false,Bool.false_or,Bool.true_and,← e1,cond_false]
    exact kr_l7_ok hl hm n (j+1) (r+1) u (by omega) (by omega) (by omega) e2
   ·have hs:isS p=false:=decide_eq_false hk
    rw [hs] at he
    simp only [hk,decide_false,Bool.not_false,Bool.not_true,Bool.false_and,cond_false,cond_true]
    exact kr_l7_ok hl hm n (j+1) t u (by omega) (by omega) ht he
  ·simp only [hlt,decide_false,Bool.not_false,cond_true]
theorem keyRow_true {x0:List GKey}:law08_KeyRow x0=true:=by
 unfold law08_KeyRow
 dsimp only
 rw [mLen_eq]
 by_cases hl:(x0.length:Int) > 200
 ·simp [hl,law08_alive]
 ·have h1:=Order_ok (l:=x0) (by omega)
  have hlen:(key_Order x0).length=x0.length:=by
   unfold key_Order
   dsimp only
   rw [Bool.cond_eq_ite]
   split
   ·rfl
   ·rw [mLen_eq,List.drop_zero,List.length_take]
    have:(sort_stable_func_w3_2 x0 (x0.length:Int)).length=x0.length:=stable_len
    rw [this];simp
  have h2:=Order_ok (l:=key_Order x0) (by omega)
  have e3:key_Order (key_Order x0)=key_Order x0:=Srt.uniq h2.1 h1.1 h2.2
  rw [e3]
  have a1:=kr_l4_ok (x0:=x0) (m:=key_Order x0) (by omega) (by omega) h1.1 h1.2 ((key_Order x0).length+1) 0 false (by omega) (by omega)
  have a2:=fun u=>kr_l7_ok (x0:=x0) (m:=key_Order x0) (by omega) (by omega) (x0.length+1) 0 0 u (by omega) (by omega) (by omega) (by
   rw [List.drop_zero,List.drop_zero]
   exact (h1.2 (1,0)).symm)
  simp only [show (((0:Nat):Int))=0 from rfl] at a1 a2
  rw [a1,a2,mLen_eq,hlen]
  have hlf:decide ((x0.length:Int) > 200)=false:=decide_eq_false hl
  simp [hlf,law08_alive,qsel,qiNe_self]
end Go.Fw
end
section
set_option linter.unusedVariables false
set_option linter.unusedSimpArgs false
set_option linter.unusedSectionVars false
namespace Go.Proofs.YtadimeiflddpcaaDoor.FwZ3
open Go.Fw
open Go.Proofs Go.Proofs.YtadimeiflddpcaaDoor Go.RowKit Go.ChangeShapes
set_option maxRecDepth 100000
set_option linter.unusedVariables false
theorem bulkA {H:Type}:Bulk (H:=H) Rows.uptoBulk Rows.uptoBulkAll where
 str:=fun b=>by simp [Rows.uptoBulk]
 sl:=fun e s=>by simp [Rows.uptoBulk]
 agg:=fun p=>by simp [Rows.uptoBulk]
 nil:=by simp [Rows.uptoBulkAll]
 cons:=fun d r=>by simp [Rows.uptoBulkAll]
 one:=fun d=>by
  cases d with
  |lit l=>cases l<;>simp [Rows.uptoBulk]
  |_=>simp [Rows.uptoBulk]
theorem own : ownKnob Tryd.prog.godebug=none:=by kernel_rfl
theorem args : RdA Tryd.prog [22] (fun x:(List GKey)×Unit=>[(.sl (List.map GKey.enc x.1) false)]) (fun x=>allWf GKey.wf x.1∧True):=
 rdA_cons (rdV_slice (m:=2) Tryd.underlying22 (by kernel_rfl) (by decide) (fun _=>rfl) rd_GKey) (rdA_nil)
theorem contract (H:Type)(enc:TypeId×Value→H)(W:World)(base:Nat)(args':Array Value)(ds gs:List (DataW H))(before:List MemPlace)
  (hval:∀(j:Nat) t v,Tryd.f3.params[j]?=some t→args'[j]?=some v→Value.okWide Tryd.prog W .any base t v)
  (hW:DataW.Whole enc Tryd.prog Tryd.f3.params.toList Rows.keyRowSpec.vars false W args'.toList ds gs before) (hk:Rows.uptoSmall H (ds++gs)=true) :
  Calls Tryd.prog 3 args' W fun e W'=>∃v,e=.returned v∧Rows.keyRowSpec.post enc Tryd.prog Tryd.f3 false true false false W args' v W':=
 law_contract (fid:=3) (fn:=Tryd.f3) (s:=Rows.keyRowSpec) (tb:=4) (wf:=fun x:(List GKey)×Unit=>allWf GKey.wf x.1∧True)
  (avs:=fun x=>[(.sl (List.map GKey.enc x.1) false)])
  Tryd.func3 (by kernel_rfl) (by kernel_rfl) (by rw [Tryd.params3];intro t ht;simp only [List.mem_cons,List.not_mem_nil,or_false] at ht;rcases ht with rfl<;>exact ⟨by kernel_rfl,of_decide_eq_true (by kernel_rfl)⟩)
  (by kernel_rfl) Tryd.underlying4 rfl
  (fun H ds h=>by
   rw [Tryd.params3] at h
   match ds,h with
   |[d1],_=>rfl)
  (by rw [Tryd.params3];exact args)
  (fun x h=>by
   have e:law08_KeyRow x.1=true:=keyRow_true
   have:=pc_law08_KeyRow x.1
   rw [e] at this
   exact this)
  bulkA hval hW (of_decide_eq_true hk) (fun _ _ h=>by cases h)
def cellsOfD : DataW Unit→Array Value
 | .agg l=>(l.map fun | .lit (.int k n)=>Value.int k n|_=>.int .u8 0).toArray
 |_=>#[]
noncomputable def laidWorld (os:Os):World:=
 let w0:=World.holding Tryd.prog os ⟨#[],#[],[]⟩
 let put (h:Array Obj) (g:Nat) (cs:Array Value):Array Obj:=h.modify g fun
  | .cells _ t frozen=>.cells cs t frozen
  |o=>o
 let h1:=put w0.heap ((Tryd.prog.globalNamed "math/bits.deBruijn32tab").getD 0) (cellsOfD Rows.laid_math_bits_deBruijn32tab)
 let h2:=put h1 ((Tryd.prog.globalNamed "math/bits.deBruijn64tab").getD 0) (cellsOfD Rows.laid_math_bits_deBruijn64tab)
 let h3:=put h2 ((Tryd.prog.globalNamed "internal/strconv.uint64pow10").getD 0) (cellsOfD Rows.laid_internal_strconv_uint64pow10)
 {w0 with heap:=h3}
theorem laid_met (os:Os)(args:Array Value):laidMet Tryd.prog Rows.keyRowUptoRow.laid ((laidWorld os).forCall (fun _ _=>0) ⟨#[],args,[]⟩).memory:=
 (LaidIn.of_run (l:=[("math/bits.deBruijn32tab",Rows.laid_math_bits_deBruijn32tab),("math/bits.deBruijn64tab",Rows.laid_math_bits_deBruijn64tab),("internal/strconv.uint64pow10",Rows.laid_internal_strconv_uint64pow10)])
  [(Tryd.prog.globalNamed "math/bits.deBruijn32tab").getD 0,(Tryd.prog.globalNamed "math/bits.deBruijn64tab").getD 0,(Tryd.prog.globalNamed "internal/strconv.uint64pow10").getD 0] 8 (by kernel_rfl) (by kernel_rfl) (by kernel_rfl) (by kernel_rfl)).met
theorem witness_row (os:Os){H:Type}(enc:TypeId×Value→H) :
  (Rows.OpenSpec.upto Rows.keyRowSpec).preRow enc Tryd.prog Tryd.f3 Rows.keyRowUptoRow.domain false Rows.keyRowUptoRow.laid ((laidWorld os).forCall (fun _ _=>0) ⟨#[],#[.slice none 0 0],[]⟩).memory #[.slice none 0 0]:=by
 have hw:(DataW.whole enc Tryd.prog ((laidWorld os).forCall (fun _ _=>0) ⟨#[],#[.slice none 0 0],[]⟩).memory Tryd.f3.params.toList (Rows.OpenSpec.upto Rows.keyRowSpec).vars false (#[.slice none 0 0]:Array Value).toList 8).map (fun x=>(x.1,x.2.1)) =
   some ([.nil],[]):=by kernel_rfl
 obtain ⟨⟨x1,x2,x3⟩,hx,hx1⟩:=Option.map_eq_some_iff.1 hw
 simp only [Prod.mk.injEq] at hx1
 obtain ⟨rfl,rfl⟩:=hx1
 exact OpenSpec.preRow_of_cond 8 hx (by kernel_rfl) (fun k hk=>by cases hk;rfl) (by kernel_rfl) (laid_met os _)
theorem lifted (os:Os)(started:os.Started)(H:Type)(enc:TypeId×Value→H)(F:Stop.Interp) :
  ReturnsInHanded {} Tryd.checked os 3 .any ((Rows.OpenSpec.upto Rows.keyRowSpec).preRow enc Tryd.prog Tryd.f3 Rows.keyRowUptoRow.domain false Rows.keyRowUptoRow.laid) (((Rows.OpenSpec.upto Rows.keyRowSpec).at F).post enc Tryd.prog Tryd.f3 false true false false):=by
 refine returnsInHanded_of_row (C:=Tryd.checked) (s:=Rows.OpenSpec.upto Rows.keyRowSpec) own started (by kernel_rfl) Tryd.func3
  (witness_row_at (enc:=enc) (C:=Tryd.checked) false (laidWorld os) #[.slice none 0 0] rfl (by kernel_rfl) (by kernel_rfl) (by kernel_rfl) (witness_row os enc)) ?_
 intro W base args' ds gs before hval hW _ hk _ _ _ _
 exact contract H enc W base args' ds gs before hval hW (hk _ rfl)
end Go.Proofs.YtadimeiflddpcaaDoor.FwZ3
end
