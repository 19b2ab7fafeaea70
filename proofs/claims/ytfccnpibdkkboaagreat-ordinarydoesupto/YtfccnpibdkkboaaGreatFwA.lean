
import Derived.WalkKit
import Derived.ProofKit
import Derived.Orders
set_option linter.unusedVariables false
set_option linter.unusedSimpArgs false
set_option linter.unusedSectionVars false
set_option linter.unnecessarySimpa false
section
namespace Go.Fw
abbrev au:=@Option.some.injEq
abbrev ay:=@Bool.and_eq_true
abbrev aA:=@Nat.eq_of_beq_eq_true
abbrev aB:=@Option.map_eq_some_iff
abbrev aG:=@List.getElem?_eq_some_iff
abbrev aH:=@List.getD_eq_getElem?_getD
abbrev aI:=@Nat.le_of_ble_eq_true
abbrev aJ:=@List.all_eq_true
abbrev aK:=@List.mem_of_getElem?
abbrev aN:=@List.mem_append
abbrev aO:=@Prod.mk.injEq
abbrev aP:=@Bool.not_true
abbrev aQ:=@List.mem_cons_of_mem
abbrev aU:=@Bool.or_eq_false_iff
abbrev aV:=@Bool.false_eq_true
abbrev aW:=@Option.bind_eq_some_iff
abbrev aX:=@List.mem_map
abbrev aY:=@Int.toNat_natCast
abbrev bf:=@List.getElem?_eq_getElem
abbrev bg:=@List.map_cons
abbrev bC:=@Bool.or_eq_true
abbrev bD:=@List.mem_cons_self
abbrev bF:=@List.getElem?_append_left
abbrev bG:=@Bool.not_false
abbrev bH:=@List.mem_cons
abbrev bI:=@Array.getElem?_eq_some_iff
abbrev bJ:=@List.mem_iff_getElem?
abbrev bK:=@List.length_append
abbrev bM:=@List.getElem?_take
abbrev bP:=@List.getElem?_append_right
abbrev bQ:=@List.mem_of_mem_take
abbrev bT:=@List.getElem?_eq_none
abbrev bU:=@List.getElem?_set_self
abbrev bV:=@List.getElem?_map
abbrev bW:=@Nat.add_mul
abbrev bZ:=@List.mem_singleton
abbrev b_:=@Nat.mul_le_mul_right
abbrev cu:=@List.cons_append
abbrev cO:=@Nat.le_trans
abbrev cZ:=@Nat.lt_of_lt_of_le
abbrev dh:=@List.mem_append_left
abbrev dn:=@List.append_nil
abbrev dw:=@List.mem_append_right
abbrev dA:=@List.append_assoc
abbrev dB:=@List.length_map
abbrev dD:=@List.length_cons
abbrev dF:=@Nat.lt_irrefl
abbrev dG:=@Nat.zero_le
abbrev dH:=@Nat.le_refl
inductive AV where
 |p (v:Value)
 |str (s:List UInt8)
 |agg (cs:List AV)
 |kS (vs:List AV)
 |sl (rows:List (List AV)) (full:Bool)
 |vp (row:List AV) (off:Nat)
 |os (b sz off len:Nat)
 |op (b sz row off:Nat)
 |fn (f:Fn) (first captured:List AV)
 |wI (t:TypeId) (v:AV)
 |mp (b:Nat)
 
 |nan
instance : Inhabited AV:=⟨.p undef⟩
def Ef : Value->Bool
 | .bool _ | .int _ _ | .float _ _ | .nilFunc | .nilIface | .pointer none | .map none=>true
 | .tuple vs=>vs.isEmpty
 | .pointer (some _)=>true
 |_=>false
def AV.cells : AV->List AV
 | .agg cs=>cs
 |a=>[a]
def AV.mP : AV->Bool
 | .agg _ | .kS _ | .p (.tuple _)=>false
 |_=>true
def AV.Eh : AV->Bool
 | .kS _ | .p (.tuple _)=>false
 |_=>true
 mutual
def AV.clean : AV->Bool
  | .p _ | .str _ | .nan=>true
  | .agg cs=>jY cs
  | .kS cs=>jY cs
  | .sl rows _=>iM rows
  | .vp row _=>jY row
  | .fn _ first captured=>jY first&&jY captured
  | .wI _ v=>v.clean
  | .os .. | .op .. | .mp _=>false
def jY : List AV->Bool
  |[]=>true
  |a::r=>a.clean&&jY r
def iM : List (List AV)->Bool
  |[]=>true
  |a::r=>jY a&&iM r
end
 mutual
def AV.flat : AV->Bool
  | .p _ | .str _ | .nan=>true
  | .agg cs=>KA cs
  | .kS cs=>KA cs
  | .sl rows _=>rows.isEmpty
  | .wI _ v=>v.flat
  |_=>false
def KA : List AV->Bool
  |[]=>true
  |a::r=>a.flat&&KA r
end
inductive Own where
 |free
 |empty
 |at (c o:Nat)
structure Env where
 fix:Nat->Nat->Prop
 own:Nat->Own
def agI (n:Nat):Prop:=∀m:Nat,FloatKind.f64.format.order n m=none/\FloatKind.f64.format.order m n=none
inductive Rep (w:World)(E:Env):AV->Value->Prop
 |p {v:Value} (h:Ef v=true):Rep w E (.p v) v
 |str (s:ByteArray) (l:List UInt8) (h:s.data.toList=l):Rep w E (.str l) (.string s)
 |agg (cs:List AV) (vs:Array Value) (hl:cs.length=vs.size) (hs:∀c∈cs,c.mP=true)
  (h:∀(i:Nat) (c:AV) (v:Value),cs[i]?=some c->vs[i]?=some v->Rep w E c v):Rep w E (.agg cs) (.agg vs)
 |kS (cs:List AV) (vs:Array Value) (hl:cs.length=vs.size)
  (h:∀(i:Nat) (c:AV) (v:Value),cs[i]?=some c->vs[i]?=some v->Rep w E c v):Rep w E (.kS cs) (.tuple vs)
 |slnil (full:Bool) (a:Option Addr):Rep w E (.sl [] full) (.slice a 0 0)
 |sl (rows:List (List AV)) (full:Bool) (sz c o cap:Nat) (g:Nat->Nat->Value)
  (hcap:rows.length<=cap/\rows.length<=4294967296) (hfull:full=true->cap=rows.length)
  (hsz:∀(i:Nat) (row:List AV),rows[i]?=some row->row.length=sz)
  (hfix:∀(i:Nat) (row:List AV) (j:Nat) (x:AV),rows[i]?=some row->row[j]?=some x->E.fix c (o+i*sz+j))
  (hcell:∀(i:Nat) (row:List AV) (j:Nat) (x:AV),rows[i]?=some row->row[j]?=some x->w.cell? ⟨c,o+i*sz+j,none⟩=some (g i j))
  (kE:∀row∈rows,∀x∈row,x.mP=true)
  (hrep:∀(i:Nat) (row:List AV) (j:Nat) (x:AV),rows[i]?=some row->row[j]?=some x->Rep w E x (g i j)) :
  Rep w E (.sl rows full) (.slice (some ⟨c,o,none⟩) rows.length cap)
 |vp (row:List AV) (off:Nat) (c o:Nat) (g:Nat->Value)
  (hfix:∀(j:Nat) (x:AV),row[j]?=some x->E.fix c (o+j))
  (hcell:∀(j:Nat) (x:AV),row[j]?=some x->w.cell? ⟨c,o+j,none⟩=some (g j))
  (kE:∀x∈row,x.mP=true)
  (hrep:∀(j:Nat) (x:AV),row[j]?=some x->Rep w E x (g j)) :
  Rep w E (.vp row off) (.pointer (some ⟨c,o+off,none⟩))
 |lg (b sz off:Nat) (a:Option Addr) (hb:E.own b≠.free):Rep w E (.os b sz off 0) (.slice a 0 0)
 |os (b sz off len c o cap:Nat) (hb:E.own b=.at c o) (hcap:len<=cap/\len<=4294967296)
  (hsize:∃(arr:Array Value) (ty:TypeId) (fz:Nat×Nat),w.heap[c]?=some (.cells arr ty fz)/\o+(off+cap)*sz<=arr.size) :
  Rep w E (.os b sz off len) (.slice (some ⟨c,o+off*sz,none⟩) len cap)
 |op (b sz row off c o:Nat) (hb:E.own b=.at c o):Rep w E (.op b sz row off) (.pointer (some ⟨c,o+row*sz+off,none⟩))
 |fn (f:Fn) (first captured:List AV) (vs us:Array Value) (hl:first.length=vs.size) (hl':captured.length=us.size)
  (h:∀(i:Nat) (c:AV) (v:Value),first[i]?=some c->vs[i]?=some v->Rep w E c v)
  (h':∀(i:Nat) (c:AV) (v:Value),captured[i]?=some c->us[i]?=some v->Rep w E c v):Rep w E (.fn f first captured) (.func f vs us)
 |wI (t:TypeId) (a:AV) (v:Value) (h:Rep w E a v):Rep w E (.wI t a) (.iface t v)
 |mp (b c:Nat) (hb:E.own b=.at c 0):Rep w E (.mp b) (.map (some c))
 |nan (n:Nat) (hn:agI n):Rep w E .nan (.float .f64 n)
structure Ext (w:World)(E:Env)(w':World)(E':Env):Prop where
 fix:∀c o,E.fix c o->E'.fix c o
 cell:∀c o,E.fix c o->w'.cell? ⟨c,o,none⟩=w.cell? ⟨c,o,none⟩
 own:∀b:Nat,E.own b≠.free->E'.own b=E.own b
 arr:∀(c:Nat) (arr:Array Value) (ty:TypeId) (fz:Nat×Nat),w.heap[c]?=some (.cells arr ty fz)->∃(arr':Array Value) (fz':Nat×Nat),w'.heap[c]?=some (.cells arr' ty fz')/\arr'.size=arr.size
theorem Ext.refl (w:World)(E:Env):Ext w E w E:=
 ⟨fun _ _ h=>h,fun _ _ _=>rfl,fun _ _=>rfl,fun _ arr _ fz h=>⟨arr,fz,h,rfl⟩⟩
theorem Ext.trans {w E w' E' w'' E''}(h:Ext w E w' E')(k:Ext w' E' w'' E''):Ext w E w'' E'' where
 fix:=fun c o h0=>k.fix c o (h.fix c o h0)
 cell:=fun c o h0=>(k.cell c o (h.fix c o h0)).trans (h.cell c o h0)
 own:=fun b h0=>by
  have e:=h.own b h0
  rw [k.own b (by rw [e];exact h0),e]
 arr:=fun c arr ty fz h0=>by
  obtain ⟨a1,f1,h1,e1⟩:=h.arr c arr ty fz h0
  obtain ⟨a2,f2,h2,e2⟩:=k.arr c a1 ty f1 h1
  exact ⟨a2,f2,h2,e2.trans e1⟩
theorem Rep.mono {w E w' E'}(hx:Ext w E w' E'){a v}(h:Rep w E a v):Rep w' E' a v:=by
 induction h with
 |p h=>exact .p h
 |str s l h=>exact .str s l h
 |agg cs vs hl hs _ ih=>exact .agg cs vs hl hs ih
 |kS cs vs hl _ ih=>exact .kS cs vs hl ih
 |slnil full a=>exact .slnil full a
 |sl rows full sz c o cap g hcap hfull hsz hfix hcell kE _ ih=>
  exact .sl rows full sz c o cap g hcap hfull hsz (fun i row j x h1 h2=>hx.fix _ _ (hfix i row j x h1 h2))
   (fun i row j x h1 h2=>(hx.cell _ _ (hfix i row j x h1 h2)).trans (hcell i row j x h1 h2)) kE ih
 |vp row off c o g hfix hcell kE _ ih=>
  exact .vp row off c o g (fun j x h=>hx.fix _ _ (hfix j x h)) (fun j x h=>(hx.cell _ _ (hfix j x h)).trans (hcell j x h)) kE ih
 |lg b sz off a hb=>exact .lg b sz off a (by rw [hx.own b hb];exact hb)
 |os b sz off len c o cap hb hcap hsize=>
  obtain ⟨arr,ty,fz,h1,h2⟩:=hsize
  obtain ⟨arr',fz',h3,h4⟩:=hx.arr c arr ty fz h1
  exact .os b sz off len c o cap (by rw [hx.own b (by rw [hb];simp),hb]) hcap ⟨arr',ty,fz',h3,by rw [h4];exact h2⟩
 |op b sz row off c o hb=>exact .op b sz row off c o (by rw [hx.own b (by rw [hb];simp),hb])
 |fn f first captured vs us hl hl' _ _ ih ih'=>exact .fn f first captured vs us hl hl' ih ih'
 |wI t a v _ ih=>exact .wI t a v ih
 |mp b c hb=>exact .mp b c (by rw [hx.own b (by rw [hb];simp),hb])
 |nan n hn=>exact .nan n hn
def iT (w:World)(E:Env)(az:List AV)(vs:List Value):Prop:=
 az.length=vs.length/\∀(i:Nat) (a:AV) (v:Value),az[i]?=some a->vs[i]?=some v->Rep w E a v
inductive pI where
 |rows (sz:Nat) (rs:List (List AV))
 |map (es:List (AV×AV))
 |it (m n k:Nat)
 
 |tC (ty:TypeId) (sz:Nat) (rs:List (List AV))
def KC (b:UInt8):List AV:=[.p (.int .u8 b.toNat)]
abbrev AH :=Nat->Option pI
def RowsIn (w:World)(E:Env)(arr:Array Value)(o sz:Nat)(rs:List (List AV)):Prop:=
 o+rs.length*sz<=arr.size/\
 (∀(i:Nat) (row:List AV),rs[i]?=some row->row.length=sz)/\
 (∀row∈rs,∀x∈row,x.mP=true)/\
 ∀(i:Nat) (row:List AV) (j:Nat) (x:AV),rs[i]?=some row->row[j]?=some x->∃v,arr[o+i*sz+j]?=some v/\Rep w E x v
def H_ (w:World)(E:Env)(es:List (AV×AV))(lG:Array MapEntry)(clock:Nat):Prop:=
 es.length=lG.size/\
 (∀(i:Nat) (e:AV×AV) (ce:MapEntry),es[i]?=some e->lG[i]?=some ce->Rep w E e.1 ce.key/\Rep w E e.2 ce.val/\ce.born<clock)/\
 (clock=lG.size/\∀(i:Nat) (a:MapEntry),lG[i]?=some a->a.born=i)
def rO (base:Nat)(w:World)(E:Env)(b:Nat):pI->Prop
 | .rows sz rs=>(E.own b=.empty/\rs=[])\/
  ∃(c o:Nat) (arr:Array Value) (ty:TypeId),E.own b=.at c o/\base<=c/\(∀off,¬E.fix c off)/\w.heap[c]?=some (.cells arr ty (0,0))/\RowsIn w E arr o sz rs
 | .map es=>∃(c:Nat) (lG:Array MapEntry) (clock:Nat),E.own b=.at c 0/\base<=c/\(∀off,¬E.fix c off)/\w.heap[c]?=some (.map lG clock)/\H_ w E es lG clock
 | .it m n k=>∃(c cm:Nat),E.own b=.at c 0/\base<=c/\(∀off,¬E.fix c off)/\w.heap[c]?=some (.mapIter (some cm) n (Array.range k) n)/\E.own m=.at cm 0
 | .tC ty sz rs=>(E.own b=.empty/\rs=[])\/
  ∃(c o:Nat) (arr:Array Value),E.own b=.at c o/\base<=c/\(∀off,¬E.fix c off)/\w.heap[c]?=some (.cells arr ty (0,0))/\RowsIn w E arr o sz rs/\o=0/\(sz=1\/arr.size=rs.length*sz)
structure eH (base:Nat)(w:World)(E:Env)(ah:AH)(F:Nat->Prop):Prop where
 blk:∀b k,ah b=some k->rO base w E b k
 sep:∀b b' k k' c o c' o',b≠b'->ah b=some k->ah b'=some k'->E.own b=.at c o->E.own b'=.at c' o'->c≠c'
 fresh:∀b,F b->E.own b=.free
 jO:∀c o,E.fix c o->c<w.heap.size
 bs:base<=w.heap.size
 lH:∀b c o,E.own b=.at c o->base<=c/\c<w.heap.size
theorem rO.own {base w E b k}(h:rO base w E b k):E.own b≠.free:=by
 cases k with
 |rows sz rs=>
  rcases h with ⟨h,_⟩|⟨c,o,_,_,h,_⟩
  .rw [h];simp
  .rw [h];simp
 |map es=>
  obtain ⟨c,_,_,h,_⟩:=h
  rw [h];simp
 |it m n k=>
  obtain ⟨c,_,h,_⟩:=h
  rw [h];simp
 |tC ty sz rs=>
  rcases h with ⟨h,_⟩|⟨c,o,_,h,_⟩
  .rw [h];simp
  .rw [h];simp
theorem eH.aef {base w E ah F}(h:eH base w E ah F){b}(hb:F b):ah b=none:=by
 cases e:ah b with
 |none=>rfl
 |some k=>exact absurd (h.fresh b hb) (h.blk b k e).own
def upd (ah:AH)(b:Nat)(k:Option pI):AH:=fun j=>if j=b then k else ah j
theorem eY {ah:AH}{b k j}(h:j=b):upd ah b k j=k:=by simp [upd,h]
theorem aoE {ah:AH}{b k j}(h:j≠b):upd ah b k j=ah j:=by simp [upd,h]
structure Step (base:Nat)(w:World)(E:Env)(w':World)(E':Env):Prop where
 ext:Ext w E w' E'
 below:RowKit.Below base w w'
 Ei:∀c o,c<base->E'.fix c o->E.fix c o
 keep:∀c,c<w.heap.size->(∀b o,E.own b≠.at c o)->w'.heap[c]?=w.heap[c]?
 Ej:∀b c o,E'.own b=.at c o->c<w.heap.size->∃b' o',E.own b'=.at c o'
 GN:∀c o,E'.fix c o->c<w.heap.size->E.fix c o\/∃b' o',E.own b'=.at c o'
theorem Step.refl (base:Nat)(w:World)(E:Env):Step base w E w E:=⟨Ext.refl w E,RowKit.Below.refl base w,fun _ _ _ h=>h,fun _ _ _=>rfl,fun b c o h _=>⟨b,o,h⟩,fun _ _ h _=>.inl h⟩
theorem Step.trans {base w E w' E' w'' E''}(h:Step base w E w' E')(k:Step base w' E' w'' E''):Step base w E w'' E'':=by
 refine ⟨h.ext.trans k.ext,h.below.trans k.below,fun c o hc h0=>h.Ei c o hc (k.Ei c o hc h0),fun c hc hno=>?_,fun b c o h0 hc=>?_,fun c o h0 hc=>?_⟩
 .refine (k.keep c (cZ hc h.below.size) fun b o h0=>?_).trans (h.keep c hc hno)
  obtain ⟨b',o',h1⟩:=h.Ej b c o h0 hc
  exact hno b' o' h1
 .obtain ⟨b',o',h1⟩:=k.Ej b c o h0 (cZ hc h.below.size)
  exact h.Ej b' c o' h1 hc
 .rcases k.GN c o h0 (cZ hc h.below.size) with h1|⟨b',o',h1⟩
  .exact h.GN c o h1 hc
  .exact .inr (h.Ej b' c o' h1 hc)
theorem Rep.one {w E a v}(h:Rep w E a v)(hs:a.mP=true):v.oneCell'=true:=by
 cases h with
 |p h=>cases v<;>simp_all [AV.mP,Value.oneCell',Ef]
 |agg=>simp [AV.mP] at hs
 |kS=>simp [AV.mP] at hs
 |_=>rfl
theorem Rep.cells {w E a v}(h:Rep w E a v)(hb:a.Eh=true) :
  iT w E a.cells v.cells.toList/\∀c∈a.cells,c.mP=true:=by
 have single:∀(a:AV) (v:Value),a.mP=true->Rep w E a v->v.cells=#[v]->iT w E [a] v.cells.toList/\∀c∈[a],c.mP=true:=by
  intro a v hs h e
  rw [e]
  refine ⟨⟨rfl,fun i x y hx hy=>?_⟩,by simpa using hs⟩
  cases i with
  |zero=>simp at hx hy;subst hx;subst hy;exact h
  |succ i=>simp at hx
 cases h with
 |p h=>
  cases v with
  |tuple vs=>simp [AV.Eh] at hb
  |agg cs=>simp [Ef] at h
  |_=>exact single _ _ rfl (.p h) rfl
 |agg cs vs hl hs h=>exact ⟨⟨by simpa [Value.cells,AV.cells] using hl,fun i x y hx hy=>h i x y (by simpa [AV.cells] using hx) (by simpa [Value.cells] using hy)⟩,by simpa [AV.cells] using hs⟩
 |kS=>simp [AV.Eh] at hb
 |str s l h=>exact single _ _ rfl (.str s l h) rfl
 |slnil f a=>exact single _ _ rfl (.slnil f a) rfl
 |sl rows full sz c o cap g h1 h2 h3 h4 h5 h6 h7=>exact single _ _ rfl (.sl rows full sz c o cap g h1 h2 h3 h4 h5 h6 h7) rfl
 |vp row off c o g h1 h2 h3 h4=>exact single _ _ rfl (.vp row off c o g h1 h2 h3 h4) rfl
 |lg b sz off a hb'=>exact single _ _ rfl (.lg b sz off a hb') rfl
 |os b sz off len c o cap h1 h2 h3=>exact single _ _ rfl (.os b sz off len c o cap h1 h2 h3) rfl
 |op b sz row off c o h1=>exact single _ _ rfl (.op b sz row off c o h1) rfl
 |fn f first captured vs us h1 h2 h3 h4=>exact single _ _ rfl (.fn f first captured vs us h1 h2 h3 h4) rfl
 |wI t a v h=>exact single _ _ rfl (.wI t a v h) rfl
 |mp b c h=>exact single _ _ rfl (.mp b c h) rfl
 |nan n hn=>exact single _ _ rfl (.nan n hn) rfl
end Go.Fw
end
section
namespace Go.Fw
class iZ where
 tab:List (Nat×List Value)
instance (priority :=low) ait:iZ:=⟨[]⟩
variable [iZ]
abbrev nP :=List (Option AV)
def ji : nP->Nat->Option AV
 |[],_=>none
 |x::_,0=>x
 |_::r,n+1=>ji r n
def pG : nP->Nat->AV->nP
 |[],_,_=>[]
 |_::r,0,a=>some a::r
 |x::r,n+1,a=>x::pG r n a
def vT (fr:nP)(dst:Option Tmp)(a:AV):nP:=match dst with|some d=>pG fr d a|none=>fr
def gG {α:Type}(o:Option α)(k:α->Prop):Prop:=match o with|some a=>k a|none=>False
def aIf (t:Bool)(A B:Prop):Prop:=match t with|true=>A|false=>B
theorem qH {t:Bool}{A B:Prop}:aIf t A B↔if t=true then A else B:=by cases t<;>simp [aIf]
def ofC : Value->Option AV
 | .string s=>some (.str s.data.toList)
 | .slice none 0 0=>some (.sl [] true)
 | .bool b=>some (.p (.bool b))
 | .int k n=>some (.p (.int k n))
 | .float k n=>some (.p (.float k n))
 | .nilFunc=>some (.p .nilFunc)
 | .nilIface=>some (.p .nilIface)
 | .pointer none=>some (.p (.pointer none))
 | .map none=>some (.p (.map none))
 |_=>none
def ofV : Value->Option AV
 | .agg cs=>(cs.toList.mapM ofC).map .agg
 | .tuple vs=>if vs.isEmpty=true then some (.p (.tuple vs)) else none
 |v=>ofC v
def abo (g:Nat):List (Nat×List Value)->Option (List Value)
 |[]=>none
 |x::r=>bif Nat.beq x.1 g then some x.2 else abo g r
def ZR (w:World)(fix:Nat->Nat->Prop):Prop:=∀g row,abo g iZ.tab=some row->(∃arr ty fz,w.heap[g]?=some (.cells arr ty fz)/\arr.size=row.length)/\∀(j:Nat) (v:Value),row[j]?=some v->fix g j/\w.cell? ⟨g,j,none⟩=some v
def ev (fr:nP):Operand->Option AV
 | .tmp t=>ji fr t
 | .const v=>ofV v
 | .func f=>some (.fn (.func f) [] [])
 | .global g=>(abo g iZ.tab).bind fun row=>(row.mapM ofC).map fun r=>.vp r 0
def L6 : TypeDesc->Bool
 | .struct _ | .array _ _=>true
 |_=>false
def qI (P:Program)(t:TypeId):Option (Bool×Nat):=(P.underlying t).bind fun d=>(P.info? t).map fun i=>(L6 d,i.size)
def rP (P:Program)(s:TypeId)(k:Nat):Option (Nat×Bool×Nat):=
 match P.underlying s with
 |some (.struct fs)=>(fs[k]?).bind fun f=>(qI P f.type).map fun t=>(f.offset,t.1,t.2)
 |_=>none
def kU (P:Program)(t:TypeId):Option (Nat×Nat):=
 match P.underlying t with
 |some (.slice e)=>(P.info? e).map fun i=>(i.size,i.bytes)
 |_=>none
def BU (P:Program)(t:TypeId):Option (Nat×Nat×Bool):=
 match P.underlying t with
 |some (.array n e)=>(qI P e).map fun i=>(n,i.2,i.1)
 |_=>none
structure nT where
 v:AV
 wr:List (Nat×Option pI)
 rd:List Nat
def lJ (ah:AH):List (Nat×Option pI)->AH
 |[]=>ah
 |(b,k)::r=>lJ (upd ah b k) r
abbrev nT.val (a:AV):nT:=⟨a,[],[]⟩
def apart (t:Bool×Nat)(row:List AV)(off:Nat)(k:AV->Prop):Prop:=
 if t.1=true then off+t.2<=row.length/\k (.agg ((row.drop off).take t.2)) else gG row[off]? k
def Ia (P:Program)(ah:AH)(t:TypeId)(a:AV)(K:nT->Prop):Prop:=
 gG (qI P t) fun ty=>
 match a with
 | .vp row off=>apart ty row off fun x=>K (.val x)
 | .op b sz i off=>match ah b with
  |some (.rows sz' rs)=>sz=sz'/\gG rs[i]? fun row=>apart ty row off fun x=>K ⟨x,[],[b]⟩
  |some (.tC _ sz' rs)=>sz=sz'/\gG rs[i]? fun row=>apart ty row off fun x=>K ⟨x,[],[b]⟩
  |_=>False
 |_=>False
def lay (row:List AV)(off:Nat)(cs:List AV):List AV:=row.take off++cs++row.drop (off+cs.length)
def Ad (P:Program)(ah:AH)(t:TypeId)(a v:AV)(K:nT->Prop):Prop:=
 gG (qI P t) fun ty=>
 match a with
 | .op b sz i off=>match ah b with
  |some (.rows sz' rs)=>sz=sz'/\v.Eh=true/\v.cells.length=ty.2/\gG rs[i]? fun row=>off+ty.2<=row.length/\
   K ⟨.p undef,[(b,some (.rows sz (rs.set i (lay row off v.cells))))],[b]⟩
  |some (.tC te sz' rs)=>sz=sz'/\v.Eh=true/\v.cells.length=ty.2/\gG rs[i]? fun row=>off+ty.2<=row.length/\
   K ⟨.p undef,[(b,some (.tC te sz (rs.set i (lay row off v.cells))))],[b]⟩
  |_=>False
 |_=>False
def BZ (P:Program)(s:TypeId)(a:AV)(k:Nat)(K:nT->Prop):Prop:=
 gG (rP P s k) fun f=>f.2.2≠0/\
 match a with
 | .vp row off=>K (.val (.vp row (off+f.1)))
 | .op b sz i off=>K (.val (.op b sz i (off+f.1)))
 |_=>False
def Q5 (P:Program)(s:TypeId)(a:AV)(k:Nat)(K:nT->Prop):Prop:=
 gG (rP P s k) fun f=>
 match a with
 | .agg cs=>apart f.2 cs f.1 fun x=>K (.val x)
 |_=>False
def wM (P:Program)(t:TypeId)(x i:AV)(K:nT->Prop):Prop:=
 match i with
 | .p (.int _ n)=>
  match x with
  | .sl rows _=>gG (kU P t) fun e=>0<=n/\gG rows[n.toNat]? fun row=>row.length=e.1/\K (.val (.vp row 0))
  | .os b sz off len=>gG (kU P t) fun e=>0<=n/\n.toNat<len/\sz=e.1/\K (.val (.op b sz (off+n.toNat) 0))
  | .vp row off=>gG (BU P t) fun e=>0<=n/\n.toNat<e.1/\K (.val (.vp row (off+n.toNat*e.2.1)))
  | .op b sz j off=>gG (BU P t) fun e=>0<=n/\n.toNat<e.1/\K (.val (bif Nat.beq sz e.2.1 then .op b sz (j+n.toNat) off else .op b sz j (off+n.toNat*e.2.1)))
  |_=>False
 |_=>False
def JB (P:Program)(t:TypeId)(x i:AV)(K:nT->Prop):Prop:=
 match i with
 | .p (.int _ n)=>
  match x with
  | .str s=>(P.underlying t=some .string)/\0<=n/\gG s[n.toNat]? fun b=>K (.val (.p (.int .u8 b.toNat)))
  | .agg cs=>gG (BU P t) fun e=>0<=n/\n.toNat<e.1/\apart (e.2.2,e.2.1) cs (n.toNat*e.2.1) fun x=>K (.val x)
  |_=>False
 |_=>False
def xG (x:AV)(k:Nat)(K:nT->Prop):Prop:=
 match x with
 | .kS vs=>gG vs[k]? fun a=>K (.val a)
 |_=>False
def L8 (t:Bool×Nat)(row:List AV)(off:Nat):Option AV:=
 if t.1=true then (if off+t.2<=row.length then some (.agg ((row.drop off).take t.2)) else none) else row[off]?
def abp (P:Program)(eqv:TypeId->AV->AV->Option Bool)(xs ys:List AV):List Field->Option Bool
 |[]=>some true
 |f::fs=>if f.name≠ "_" then (qI P f.type).bind fun ty=>(L8 ty xs f.offset).bind fun a=>(L8 ty ys f.offset).bind fun b=>
   (eqv f.type a b).bind fun r=>(abp P eqv xs ys fs).map fun s=>r&&s
  else abp P eqv xs ys fs
def aeq (P:Program):Nat->TypeId->AV->AV->Option Bool
 |0,_,_,_=>none
 |d+1,t,x,y=>
  match P.underlying t,x,y with
  |some .bool,.p (.bool a),.p (.bool b)=>some (a == b)
  |some (.int _),.p (.int k a),.p (.int k' b)=>if k=k' then some (a == b) else none
  |some (.float _),.p (.float k a),.p (.float k' b)=>if k=k' then some (Op.floatEq k a b) else none
  |some .string,.str a,.str b=>some (decide (a=b))
  |some (.pointer _),.p (.pointer none),.p (.pointer none)=>some true
  |some (.pointer _),.p (.pointer none),.vp .. | some (.pointer _),.p (.pointer none),.op .. | some (.pointer _),.vp ..,.p (.pointer none)
  |some (.pointer _),.op ..,.p (.pointer none)=>some false
  |some (.interface _),.p .nilIface,.p .nilIface=>some true
  |some (.interface _),.p .nilIface,.wI .. | some (.interface _),.wI ..,.p .nilIface=>some false
  |some (.struct fs),.agg xs,.agg ys=>
   if P.stoodInHeld t=true then none else abp P (aeq P d) xs ys fs.toList
  |_,_,_=>none
def agJ (P:Program)(t:TypeId)(x:AV)(c:Bool):Prop:=
 match x with
 | .agg _=>P.eqGuardType P.depth t=false
 | .p .nilIface=>c=true
 |_=>True
def isC : Operand->Bool
 | .const _=>true
 |_=>false
def Q7 (P:Program)(op:BinOp)(t:TypeId)(c:Bool)(x y:AV)(K:AV->Prop):Prop:=
 match op,x,y with
 | .shl,.p (.int k a),.p (.int _ b)=>0<=b/\K (.p (.int k (k.wrap (a*2 ^ (min b.toNat k.bits)))))
 | .shr,.p (.int k a),.p (.int _ b)=>0<=b/\K (.p (.int k (a.fdiv (2 ^ (min b.toNat k.bits)))))
 |op,.p (.int k a),.p (.int k' b)=>k=k'/\
  match op with
  | .add=>K (.p (.int k (k.wrap (a+b))))
  | .sub=>K (.p (.int k (k.wrap (a-b))))
  | .mul=>K (.p (.int k (k.wrap (a*b))))
  | .quo=>b≠0/\K (.p (.int k (k.wrap (a.tdiv b))))
  | .rem=>b≠0/\K (.p (.int k (a.tmod b)))
  | .and=>K (.p (.int k (k.wrap (BitVec.ofInt k.bits a&&&BitVec.ofInt k.bits b).toNat)))
  | .or=>K (.p (.int k (k.wrap (BitVec.ofInt k.bits a |||BitVec.ofInt k.bits b).toNat)))
  | .xor=>K (.p (.int k (k.wrap (BitVec.ofInt k.bits a ^^^ BitVec.ofInt k.bits b).toNat)))
  | .andNot=>K (.p (.int k (k.wrap (BitVec.ofInt k.bits a&&&~~~ BitVec.ofInt k.bits b).toNat)))
  | .eql=>K (.p (.bool (a == b)))
  | .neq=>K (.p (.bool (a != b)))
  | .lss=>K (.p (.bool (decide (a<b))))
  | .leq=>K (.p (.bool (decide (a<=b))))
  | .gtr=>K (.p (.bool (decide (a > b))))
  | .geq=>K (.p (.bool (decide (a>=b))))
  |_=>False
 |op,.p (.float k a),.p (.float k' b)=>k=k'/\
  match op with
  | .add=>gG (k.format.add a b) fun r=>K (.p (.float k r))
  | .sub=>gG (k.format.sub a b) fun r=>K (.p (.float k r))
  | .mul=>gG (k.format.mul a b) fun r=>K (.p (.float k r))
  | .quo=>gG (k.format.div a b) fun r=>K (.p (.float k r))
  | .eql=>K (.p (.bool (k.format.order a b == some .eq)))
  | .neq=>K (.p (.bool (k.format.order a b != some .eq)))
  | .lss=>K (.p (.bool (k.format.order a b == some .lt)))
  | .leq=>K (.p (.bool (k.format.order a b == some .lt||k.format.order a b == some .eq)))
  | .gtr=>K (.p (.bool (k.format.order a b == some .gt)))
  | .geq=>K (.p (.bool (k.format.order a b == some .gt||k.format.order a b == some .eq)))
  |_=>False
 |op,.str a,.str b=>
  match op with
  | .add=>a.length+b.length<=4294967296/\K (.str (a++b))
  | .eql=>K (.p (.bool (decide (a=b))))
  | .neq=>K (.p (.bool (!decide (a=b))))
  | .lss=>K (.p (.bool (Op.bytesLess a b)))
  | .leq=>K (.p (.bool (Op.bytesLess a b||decide (a=b))))
  | .gtr=>K (.p (.bool (!(Op.bytesLess a b||decide (a=b)))))
  | .geq=>K (.p (.bool (!Op.bytesLess a b)))
  |_=>False
 | .eql,x,y=>agJ P t x c/\gG (aeq P 10000 t x y) fun r=>K (.p (.bool r))
 | .neq,x,y=>agJ P t x c/\gG (aeq P 10000 t x y) fun r=>K (.p (.bool (!r)))
 |_,_,_=>False
def isF : AV->Bool
 | .nan=>true
 | .p (.float .f64 _)=>true
 |_=>false
def agK : BinOp->Option Bool
 | .neq=>some true
 | .eql | .lss | .leq | .gtr | .geq=>some false
 |_=>none
def abq (op:BinOp)(x y:AV)(K:nT->Prop):Prop:=
 (op=.quo/\x=.p (.float .f64 0)/\y=.p (.float .f64 0)/\K (.val .nan))\/
 (∃b,agK op=some b/\(x=.nan\/y=.nan)/\isF x=true/\isF y=true/\K (.val (.p (.bool b))))
def aUn (op:UnOp)(x:AV)(K:AV->Prop):Prop:=
 match op,x with
 | .neg,.p (.int k n)=>K (.p (.int k (k.wrap (0-n))))
 | .xor,.p (.int k n)=>K (.p (.int k (k.wrap (BitVec.ofInt k.bits (if k.signed then -1 else k.max) ^^^ BitVec.ofInt k.bits n).toNat)))
 | .neg,.p (.float k b)=>K (.p (.float k (Op.negFloat k b)))
 | .not,.p (.bool b)=>K (.p (.bool (!b)))
 |_,_=>False
def AX (P:Program)(src dst:TypeId)(x:AV)(K:AV->Prop):Prop:=
 (P.underlying src).isSome=true/\
 match P.underlying dst,x with
 |some (.int k),.p (.int _ n)=>K (.p (.int k (k.wrap n)))
 |some (.float k),.p (.int _ n)=>K (.p (.float k (k.nearest n)))
 |some (.int k),.p (.float s b)=>gG ((s.decode b).toInt .zero) fun n=>k.min<=n/\n<=k.max/\K (.p (.int k n))
 |some .string,.str s=>K (.str s)
 |some .string,.p (.int _ n)=>0<=n/\n<128/\K (.str [UInt8.ofNat n.toNat])
 |_,_=>False
def Ae (n:Nat)(rows:List (List AV)):Prop:=∀row∈rows,row.length=n
def Gf : Option AV->Nat->(Nat->Prop)->Prop
 |none,d,k=>k d
 |some (.p (.int _ n)),_,k=>0<=n/\k n.toNat
 |_,_,_=>False
def JC (P:Program)(t:TypeId)(x:AV)(lo hi mx:Option AV)(K:nT->Prop):Prop:=
 match x with
 | .str s=>(P.underlying t=some .string)/\mx.isNone=true/\Gf lo 0 fun l=>Gf hi s.length fun h=>l<=h/\h<=s.length/\K (.val (.str ((s.drop l).take (h-l))))
 | .sl rows full=>gG (kU P t) fun e=>Ae e.1 rows/\(mx.isSome=true->hi.isSome=true)/\Gf lo 0 fun l=>Gf hi rows.length fun h=>Gf mx rows.length fun m=>
  l<=h/\h<=m/\m<=rows.length/\K (.val (.sl ((rows.drop l).take (h-l)) (if mx.isSome=true then decide (m=h) else full&&decide (h=rows.length))))
 | .os b sz off len=>gG (kU P t) fun e=>sz=e.1/\(mx.isSome=true->hi.isSome=true)/\Gf lo 0 fun l=>Gf hi len fun h=>Gf mx len fun m=>
  l<=h/\h<=m/\m<=len/\K (.val (.os b sz (off+l) (h-l)))
 |_=>False
def agL (P:Program)(t:TypeId):Option (Nat×Nat×Bool):=BU P t
def B_ (P:Program)(ah:AH)(t:TypeId)(x:AV)(lo hi mx:Option AV)(K:nT->Prop):Prop:=
 match x with
 | .op b sz i off=>gG (agL P t) fun e=>sz=e.2.1/\off=0/\e.1<=4294967296/\(match ah b with
  |some (.rows sz' rs)=>sz=sz'/\i+e.1<=rs.length/\(mx.isSome=true->hi.isSome=true)/\Gf lo 0 fun l=>Gf hi e.1 fun h=>Gf mx e.1 fun m=>
   l<=h/\h<=m/\m<=e.1/\K ⟨.os b sz (i+l) (h-l),[],[b]⟩
  |_=>False)
 |x=>JC P t x lo hi mx K
def uV (place:Nat->Option (Nat×Nat))(cells:List AV):List (Nat×AV)->Option (List AV)
 |[]=>some cells
 |(i,v)::rest=>
  match place i with
  |none=>none
  |some (off,size)=>if v.Eh=false||v.cells.length≠size||off+v.cells.length > cells.length then none else uV place (lay cells off v.cells) rest
def aoH (P:Program)(t:TypeId):Option (List AV):=((P.info? t).bind (·.zero)).bind fun z=>z.cells.toList.mapM ofC
def OV {α:Type}(fr:nP):List (α×Operand)->Option (List (α×AV))
 |[]=>some []
 |(i,x)::r=>(ev fr x).bind fun a=>(OV fr r).map fun l=>(i,a)::l
def Qa (fr:nP):List Operand->Option (List AV)
 |[]=>some []
 |x::r=>(ev fr x).bind fun a=>(Qa fr r).map fun l=>a::l
def aoJ (P:Program)(t:TypeId):Option (Nat->Option (Nat×Nat)):=
 match P.underlying t with
 |some (.struct fs)=>(fs.toList.mapM fun f=>(P.info? f.type).map fun i=>(f.offset,i.size)).map fun l=>fun k=>l[k]?
 |some (.array _ e)=>(P.info? e).map fun i=>fun k=>some (k*i.size,i.size)
 |_=>none
def Q8 (P:Program)(t:TypeId)(parts:List (Nat×AV))(K:nT->Prop):Prop:=
 gG (aoH P t) fun z=>gG (aoJ P t) fun pl=>gG (uV pl z parts) fun cs=>K (.val (.agg cs))
def aoS (n:Nat):Nat->List AV->List (List AV)
 |0,_=>[]
 |k+1,l=>l.take n::aoS n k (l.drop n)
def pO (P:Program)(t:TypeId)(id len:Nat)(parts:List (Nat×AV))(K:nT->Prop):Prop:=
 match P.underlying t with
 |some (.slice e)=>gG (P.info? e) fun i=>gG (aoH P e) fun z=>z.length=i.size/\len*i.size+len<=16777216/\
  gG (uV (fun k=>some (k*i.size,i.size)) (List.replicate len z).flatten parts) fun cs=>
   K ⟨.os id i.size 0 len,[(id,some (.rows i.size (aoS i.size len cs)))],[]⟩
 |_=>False
def aiu (id:Nat)(v:AV)(K:nT->Prop):Prop:=
 v.Eh=true/\K ⟨.op id v.cells.length 0 0,[(id,some (.rows v.cells.length [v.cells]))],[]⟩
def ao6 (P:Program)(t:TypeId):Bool:=match BU P t with
 |some e=>Nat.beq e.2.1 1
 |none=>false
def Q9 (P:Program)(t:TypeId)(id:Nat)(K:nT->Prop):Prop:=
 gG (aoH P t) fun z=>match ao6 P t with
  |true=>K ⟨.op id 1 0 0,[(id,some (.rows 1 (z.map fun x=>[x])))],[]⟩
  |false=>K ⟨.op id z.length 0 0,[(id,some (.rows z.length [z]))],[]⟩
def aeh (P:Program)(t:TypeId)(id:Nat)(K:nT->Prop):Prop:=
 gG (aoH P t) fun z=>ao6 P t=false/\K ⟨.op id z.length 0 0,[(id,some (.tC t z.length [z]))],[]⟩
def Q_ (P:Program)(t:TypeId)(id:Nat)(K:nT->Prop):Prop:=Q9 P t id K\/aeh P t id K
def GR : AV->AV
 | .sl [] _=>.sl [] false
 |a=>a
def rQ (P:Program)(t:TypeId)(id:Nat)(len cap:AV)(K:nT->Prop):Prop:=
 match P.underlying t,len,cap with
 |some (.slice e),.p (.int _ l),.p (.int _ c)=>gG (P.info? e) fun i=>gG (aoH P e) fun z=>z.length=i.size/\0<=l/\l<=c/\c<=4294967296/\i.bytes<=4096/\
  K ⟨.os id i.size 0 l.toNat,[(id,some (.rows i.size (List.replicate l.toNat (z.map GR))))],[]⟩
 |_,_,_=>False
def aoQ (ah:AH)(n:Nat)(x:AV)(k:List (List AV)->List Nat->Prop):Prop:=
 match x with
 | .sl rows _=>Ae n rows/\k rows []
 | .os b sz off len=>sz=n/\(match ah b with
  |some (.rows sz' rs)=>sz=sz'/\off+len<=rs.length/\k ((rs.drop off).take len) [b]
  |_=>False)
 | .str s=>n=1/\k (s.map fun b=>[.p (.int .u8 b.toNat)]) []
 |_=>False
def zI (P:Program)(id:Nat)(ah:AH)(t t2:TypeId)(x y:AV)(K:nT->Prop):Prop:=
 gG (kU P t) fun e=>e.2<=4096/\e.1≠0/\(match P.underlying t2 with|some (.int _)|none=>False|_=>True)/\
 (((P.underlying t).bind fun d=>match d with | .slice el=>aoH P el|_=>none).map List.length=some e.1)/\
 aoQ ah e.1 y fun ys rd=>
 match x with
 | .sl rows full=>Ae e.1 rows/\full=true/\(rows=[]\/ys≠[])/\rows.length+ys.length<=4294967296/\
   K ⟨.os id e.1 0 (rows.length+ys.length),[(id,some (.rows e.1 (rows++ys)))],rd⟩
 | .os b sz off len=>sz=e.1/\(match ah b with
  |some (.rows sz' rs)=>sz=sz'/\off+len<=rs.length/\len+ys.length<=4294967296/\
    K ⟨.os id e.1 0 (len+ys.length),[(b,none),(id,some (.rows e.1 ((rs.drop off).take len++ys)))],b::rd⟩
  |_=>False)
 |_=>False
def Yy (P:Program)(id:Nat)(ah:AH)(t t2:TypeId)(x y:AV)(K:nT->Prop):Prop:=
 ∃(el:TypeId) (m:List UInt8) (rd:List Nat),P.underlying t=some (.slice el)/\(match x with
  | .sl [] true=>zI P id ah t t2 (.sl [] true) y (fun r=>r=⟨.os id 1 0 m.length,[(id,some (.rows 1 (m.map KC)))],rd⟩)/\K ⟨.os id 1 0 m.length,[(id,some (.tC el 1 (m.map KC)))],rd⟩
  | .os b sz off len=>(match ah b with
   |some (.tC ty sz' rs)=>ty=el/\off=0/\b∈rd/\zI P id (upd ah b (some (.rows sz' rs))) t t2 (.os b sz off len) y (fun r=>r=⟨.os id 1 0 m.length,[(b,none),(id,some (.rows 1 (m.map KC)))],rd⟩)/\
    K ⟨.os id 1 0 m.length,[(b,none),(id,some (.tC el 1 (m.map KC)))],rd⟩
   |_=>False)
  |_=>False)
def Yz (P:Program)(id:Nat)(ah:AH)(t t2:TypeId)(x y:AV)(K:nT->Prop):Prop:=zI P id ah t t2 x y K\/Yy P id ah t t2 x y K
def JD (P:Program)(ah:AH)(t:TypeId)(x:AV)(K:nT->Prop):Prop:=
 match P.underlying t,x with
 |some .string,.str s=>K (.val (.p (.int .i64 s.length)))
 |some (.slice _),.sl rows _=>K (.val (.p (.int .i64 rows.length)))
 |some (.slice _),.os _ _ _ len=>K (.val (.p (.int .i64 len)))
 |some (.map _ _),.p (.map none)=>K (.val (.p (.int .i64 0)))
 |some (.map _ _),.mp b=>(match ah b with
  |some (.map es)=>K ⟨.p (.int .i64 es.length),[],[b]⟩
  |_=>False)
 |_,_=>False
def Cb (mx:Bool):List AV->(AV->Prop)->Prop
 |[.p (.int k a),.p (.int k' b)],K=>k=k'/\K (.p (.int k (if mx then (if a<b then b else a) else (if b<a then b else a))))
 |_,_=>False
def agM (P:Program)(kv:TypeId->AV->Bool)(cs:List AV):List Field->Bool
 |[]=>true
 |f::fs=>(if f.name≠ "_" then (match qI P f.type with|some ty=>(match L8 ty cs f.offset with|some a=>kv f.type a|none=>false)|none=>false) else true)&&agM P kv cs fs
def Cc (P:Program):Nat->TypeId->AV->Bool
 |0,_,_=>false
 |d+1,t,a=>match P.underlying t,a with
  |some .bool,.p (.bool _)=>true
  |some (.int _),.p (.int ..)=>true
  |some .string,.str _=>true
  |some (.struct fs),.agg cs=>agM P (Cc P d) cs fs.toList
  |_,_=>false
def zJ (P:Program)(kt:TypeId)(k:AV):List (AV×AV)->Option (Option (Nat×AV))
 |[]=>some none
 |e::r=>match aeq P 10000 kt k e.1 with
  |none=>none
  |some true=>some (some (0,e.2))
  |some false=>match zJ P kt k r with
   |none=>none
   |some none=>some none
   |some (some (i,v))=>some (some (i+1,v))
def aei : AV->Bool
 | .p (.bool _) | .p (.int ..) | .str _=>true
 |_=>false
def aej : AV->Bool
 | .agg cs=>cs.all aei
 |a=>aei a
def JE (P:Program)(t:TypeId):Option AV:=((P.info? t).bind (·.zero)).bind ofV
def AY (P:Program)(t:TypeId)(id:Nat)(r:Option AV)(K:nT->Prop):Prop:=
 (match r with
  |none=>True
  |some (.p (.int _ _))=>(match P.underlying t with|some (.map _ _)=>True|_=>False)
  |_=>False)/\K ⟨.mp id,[(id,some (.map []))],[]⟩
def DL (c:Bool)(v:AV)(ok:Bool):AV:=bif c then .kS [v,.p (.bool ok)] else v
def abr (P:Program)(ah:AH)(kt:TypeId)(z m k:AV)(c:Bool)(K:nT->Prop):Prop:=
 match m with
 | .p (.map none)=>K (.val (DL c z false))
 | .mp b=>(match ah b with
  |some (.map es)=>gG (zJ P kt k es) fun r=>K ⟨match r with|none=>DL c z false|some q=>DL c q.2 true,[],[b]⟩
  |_=>False)
 |_=>False
def Ce (P:Program)(ah:AH)(t:TypeId)(m k:AV)(c:Bool)(K:nT->Prop):Prop:=
 match P.underlying t with
 |some (.map kt et)=>Cc P 10000 kt k=true/\gG (JE P et) fun z=>abr P ah kt z m k c K
 |_=>False
def Uu (P:Program)(ah:AH)(kt:TypeId)(m k v:AV)(K:nT->Prop):Prop:=
 match m with
 | .mp b=>(match ah b with
  |some (.map es)=>gG (zJ P kt k es) fun r=>(∀q,r=some q->(es[q.1]?).map (·.1)=some k)/\
   K ⟨.p undef,[(b,some (.map (match r with|none=>es++[(k,v)]|some q=>es.set q.1 (k,v))))],[b]⟩
  |_=>False)
 |_=>False
def Ci (P:Program)(ah:AH)(t:TypeId)(m k v:AV)(K:nT->Prop):Prop:=
 match P.underlying t with
 |some (.map kt _)=>Cc P 10000 kt k=true/\aej k=true/\Uu P ah kt m k v K
 |_=>False
def GU (P:Program)(ah:AH)(id:Nat)(t:TypeId)(m:AV)(K:nT->Prop):Prop:=
 match P.underlying t with
 |some (.map _ _)=>(match m with
  | .mp b=>(match ah b with
   |some (.map es)=>K ⟨.op id 1 0 0,[(id,some (.it b es.length 0))],[b]⟩
   |_=>False)
  |_=>False)
 |_=>False
def L9 (ah:AH)(q b n k:Nat)(K:nT->Prop):Prop:=
 match ah b with
 |some (.map es)=>n=es.length/\(match Nat.beq k n with
  |true=>K ⟨.kS [.p (.bool false)],[],[q,b]⟩
  |false=>k+1=n/\gG es[k]? fun e=>K ⟨.kS [.p (.bool true),e.1,e.2],[(q,some (.it b n (k+1)))],[q,b]⟩)
 |_=>False
def Qb (ah:AH)(it:AV)(str:Bool)(K:nT->Prop):Prop:=
 match str with
 |false=>(match it with
  | .op q _ 0 0=>(match ah q with
   |some (.it b n k)=>L9 ah q b n k K
   |_=>False)
  |_=>False)
 |true=>False
def LD (ah:AH)(q b n k:Nat)(K:nT->Prop):Prop:=
 match ah b with
 |some (.map es)=>n=es.length/\gG es[k]? fun e=>K ⟨.kS [e.1,e.2],[],[q,b]⟩
 |_=>False
def JF (ah:AH)(it:AV)(K:nT->Prop):Prop:=
 match it with
 | .op q _ 0 0=>(match ah q with
  |some (.it b n (k+1))=>LD ah q b n k K
  |_=>False)
 |_=>False
def Uw (P:Program)(ah:AH)(t:TypeId)(x y:AV)(K:nT->Prop):Prop:=
 gG (kU P t) fun e=>e.1≠0/\aoQ ah e.1 y fun ys rd=>
 match x with
 | .sl [] _=>K ⟨.p (.int .i64 0),[],rd⟩
 | .os b sz off len=>sz=e.1/\(match ah b with
  |some (.rows sz' rs)=>sz=sz'/\off+len<=rs.length/\
   K ⟨.p (.int .i64 (min ys.length len:Nat)),[(b,some (.rows e.1 (rs.take off++ys.take len++rs.drop (off+min ys.length len))))],b::rd⟩
  |_=>False)
 |_=>False
def Rf (P:Program)(ah:AH)(t:TypeId)(x:AV)(K:nT->Prop):Prop:=
 gG (kU P t) fun e=>e.1≠0/\gG ((P.underlying t).bind fun d=>match d with | .slice el=>aoH P el|_=>none) fun z=>z.length=e.1/\
 match x with
 | .os b sz off len=>sz=e.1/\(match ah b with
  |some (.rows sz' rs)=>sz=sz'/\off+len<=rs.length/\
   K ⟨.kS [],[(b,some (.rows e.1 (rs.take off++List.replicate len z++rs.drop (off+len))))],[b]⟩
  |_=>False)
 |_=>False
def ao5 : List AV->Option UInt8
 |[.p (.int .u8 n)]=>bif decide (0<=n/\n<256) then some (UInt8.ofNat n.toNat) else none
 |_=>none
def abt (P:Program)(ah:AH)(s d:TypeId)(x:AV)(K:nT->Prop):Prop:=
 P.underlying d=some .string/\(match P.underlying s with|some (.slice e)=>P.underlying e=some (.int .u8)|_=>False)/\
 (match x with | .str _=>False|_=>True)/\aoQ ah 1 x fun ys rd=>gG (ys.mapM ao5) fun l=>K ⟨.str l,[],rd⟩
def Ib (P:Program)(t:TypeId)(x:AV)(K:nT->Prop):Prop:=
 (match P.underlying t with|some (.interface _)|none=>False|_=>True)/\K (.val (.wI t x))
def Ic : TypeDesc->Option (Array (String×TypeId))
 | .interface want=>some want
 |_=>none
def aAs (P:Program)(w?:Option (Array (String×TypeId)))(x:AV)(asserted:TypeId)(c:Bool)(K:nT->Prop):Prop:=
 match w?,x with
 |some want,.wI t v=>gG (P.info? t) fun i=>Instr.missingMethod want i.methods=none/\K (.val (DL c (.wI t v) true))
 |none,.wI t v=>(t=asserted/\K (.val (DL c v true)))\/(t≠asserted/\c=true/\gG (JE P asserted) fun z=>K (.val (DL c z false)))
 |_,.p .nilIface=>c=true/\gG (JE P asserted) fun z=>K (.val (DL c z false))
 |_,_=>False
def FD (P:Program)(x:AV)(asserted:TypeId)(c:Bool)(K:nT->Prop):Prop:=
 gG (P.underlying asserted) fun d=>aAs P (Ic d) x asserted c K
def yV (x:AV)(K:nT->Prop):Prop:=
 match x with
 | .vp _ _ | .op _ _ _ _ | .fn (.func _) _ _=>K (.val x)
 |_=>False
def Ie (P:Program)(ah:AH)(s d:TypeId)(x:AV)(K:nT->Prop):Prop:=
 match P.underlying s,P.underlying d with
 |some (.slice _),some .string=>abt P ah s d x K
 |_,_=>AX P s d x fun a=>K (.val a)
 mutual
def ny (ah:AH):AV->Option AV
  | .p v=>some (.p v)
  | .str s=>some (.str s)
  | .nan=>some .nan
  | .agg cs=>(kN ah cs).map .agg
  | .kS cs=>(kN ah cs).map .kS
  | .sl rows _=>(uX ah rows).map fun r=>.sl r false
  | .vp row off=>(kN ah row).map fun r=>.vp r off
  | .os b sz off len=>match ah b with
   |some (.rows sz' rs)=>if sz=sz'/\off+len<=rs.length/\iM rs=true then some (.sl ((rs.drop off).take len) false) else none
   |_=>none
  | .op b sz i off=>match ah b with
   |some (.rows sz' rs)=>if sz=sz'/\iM rs=true then (rs[i]?).map fun row=>.vp row off else none
   |_=>none
  | .fn f first captured=>(kN ah first).bind fun x=>(kN ah captured).map fun y=>.fn f x y
  | .wI t v=>(ny ah v).map (.wI t)
  | .mp _=>none
def kN (ah:AH):List AV->Option (List AV)
  |[]=>some []
  |a::r=>(ny ah a).bind fun x=>(kN ah r).map fun y=>x::y
def uX (ah:AH):List (List AV)->Option (List (List AV))
  |[]=>some []
  |a::r=>(kN ah a).bind fun x=>(uX ah r).map fun y=>x::y
end
 mutual
def AV.refs : AV->List Nat
  | .p _ | .str _ | .nan=>[]
  | .agg cs=>jR cs
  | .kS cs=>jR cs
  | .sl rows _=>jI rows
  | .vp row _=>jR row
  | .fn _ first captured=>jR first++jR captured
  | .wI _ v=>v.refs
  | .os b _ _ _=>[b]
  | .op b _ _ _=>[b]
  | .mp b=>[b]
def jR : List AV->List Nat
  |[]=>[]
  |a::r=>a.refs++jR r
def jI : List (List AV)->List Nat
  |[]=>[]
  |a::r=>jR a++jI r
end
def vP (ah:AH):Nat->AH
 |0=>ah
 |n+1=>fun b=>match ah b with
  |some (.rows sz rs)=>bif iM rs then some (.rows sz rs) else (uX (vP ah n) rs).map (pI.rows sz)
  |k=>k
def pR (ah:AH)(b:Nat):List Nat:=match ah b with
 |some (.rows _ rs)=>jI rs
 |_=>[]
def rch (ah:AH):Nat->List Nat->List Nat
 |0,l=>l
 |n+1,l=>l++rch ah n (l.flatMap (pR ah))
abbrev aoK : Nat:=3
def DN (rd:List Nat):List (Nat×Option pI):=rd.map fun b=>(b,none)
def iq (fix:Nat->Nat->Prop):Env:=⟨fix,fun _=>.free⟩
def PC (P:Program)(f:FuncId)(args:List AV)(r:AV):Prop:=
 ∀(w:World) (fix:Nat->Nat->Prop) (vs:List Value),(∀c o,fix c o->c<w.heap.size)->ZR w fix->iT w (iq fix) args vs->
  match P.funcs[f]? with
  |none=>False
  |some fn=>
   if fn.body.isNone=true then ∃v,(callFunc f vs.toArray).run P w=.ok (.value v) w/\Rep w (iq fix) r v
   else fn.name≠ "runtime.NumGoroutine" /\Calls P f vs.toArray w fun e w'=>∃v vU,e=.returned v/\Step w.heap.size w (iq fix) w' (iq vU)/\
    (∀c o,vU c o->c<w'.heap.size)/\Rep w' (iq vU) r v
def PCa (P:Program)(f:FuncId)(args:List AV)(r:AV):Prop:=
 ∀(w:World) (fix:Nat->Nat->Prop) (vs:List Value),(∀c o,fix c o->c<w.heap.size)->ZR w fix->iT w (iq fix) args vs->
  match P.funcs[f]? with
  |none=>False
  |some fn=>
   if fn.body.isNone=true then ∃v,(callFunc f vs.toArray).run P w=.ok (.value v) w/\Rep w (iq fun _ _=>False) r v
   else fn.name≠ "runtime.NumGoroutine" /\Calls P f vs.toArray w fun e w'=>∃v vU,e=.returned v/\Step w.heap.size w (iq fix) w' (iq vU)/\
    (∀c o,vU c o->c<w'.heap.size)/\Rep w' (iq fun c o=>vU c o/\w.heap.size<=c) r v
def YA (P:Program)(ah:AH)(f:FuncId)(args:List AV)(K:nT->Prop):Prop:=
 gG (kN (vP ah aoK) args) fun az=>∃as' r,(∀w E vs,iT w E az vs->iT w E as' vs)/\PC P f as' r/\(((jY args=true\/r.flat=true\/PCa P f as' r)/\K ⟨r,[],rch ah aoK (jR args)⟩)\/K ⟨r,DN (rch ah aoK (jR args)),rch ah aoK (jR args)⟩)
def JG (P:Program)(id:Nat)(fr:nP)(ah:AH)(op:Op)(K:nT->Prop):Prop:=
 let o (x:Operand) (k:AV->Prop):Prop:=gG (ev fr x) k
 match op with
 | .move x | .assign x=>o x fun a=>K (.val a)
 | .pick c a b=>o c fun | .p (.bool t)=>aIf t (o a fun x=>K (.val x)) (o b fun x=>K (.val x))|_=>False
 | .load t a=>o a fun a=>Ia P ah t a K
 | .store t a v=>o a fun a=>o v fun v=>Ad P ah t a v K
 | .fieldAddr s x k=>o x fun a=>BZ P s a k K
 | .field s x k=>o x fun a=>Q5 P s a k K
 | .indexAddr t x i=>o x fun x=>o i fun i=>wM P t x i K
 | .index t x i=>o x fun x=>o i fun i=>JB P t x i K
 | .extract x k=>o x fun x=>xG x k K
 | .binOp op t x y _=>o x fun x'=>o y fun y'=>(Q7 P op t (isC x||isC y) x' y' fun a=>K (.val a))\/abq op x' y' K
 | .unOp op _ x=>o x fun x=>aUn op x fun a=>K (.val a)
 | .convert s d x=>o x fun x=>Ie P ah s d x K
 | .makeMap t none=>AY P t id none K
 | .makeMap t (some r)=>o r fun r=>AY P t id (some r) K
 | .lookup t m k c=>o m fun m=>o k fun k=>Ce P ah t m k c K
 | .mapUpdate t m k v | .insert t m k v=>o m fun m=>o k fun k=>o v fun v=>Ci P ah t m k v K
 | .range t x=>o x fun x=>GU P ah id t x K
 | .next x str=>o x fun x=>Qb ah x str K
 | .entry x=>o x fun x=>JF ah x K
 | .makeInterface t x=>o x fun x=>Ib P t x K
 | .typeAssert x _ a c=>o x fun x=>FD P x a c K
 | .nilCheck x=>o x fun x=>yV x K
 | .slice t x lo hi mx=>o x fun x=>gG (OV fr (lo.toList.map (((),·)))) fun l=>gG (OV fr (hi.toList.map (((),·)))) fun h=>
  gG (OV fr (mx.toList.map (((),·)))) fun m=>B_ P ah t x (l.head?.map (·.2)) (h.head?.map (·.2)) (m.head?.map (·.2)) K
 | .build t parts=>gG (OV fr parts.toList) fun ps=>Q8 P t ps K
 | .buildSlice t len parts=>gG (OV fr parts.toList) fun ps=>pO P t id len ps K
 | .box _ v=>o v fun v=>aiu id v K
 | .alloc t=>Q_ P t id K
 | .makeSlice t l c=>o l fun l=>o c fun c=>rQ P t id l c K
 | .makeFunc fn first captured=>gG (Qa fr first.toList) fun a=>gG (Qa fr captured.toList) fun b=>K (.val (.fn fn a b))
 | .call ⟨.builtin .len,args,ts⟩=>gG (Qa fr args.toList) fun | [x]=>gG ts[0]? fun t=>JD P ah t x K|_=>False
 | .call ⟨.builtin .append,args,ts⟩=>gG (Qa fr args.toList) fun | [x,y]=>gG ts[0]? fun t=>gG ts[1]? fun t2=>Yz P id ah t t2 x y K|_=>False
 | .call ⟨.builtin .copy,args,ts⟩=>gG (Qa fr args.toList) fun | [x,y]=>gG ts[0]? fun t=>Uw P ah t x y K|_=>False
 | .call ⟨.builtin .clear,args,ts⟩=>gG (Qa fr args.toList) fun | [x]=>gG ts[0]? fun t=>Rf P ah t x K|_=>False
 | .call ⟨.builtin .min,args,_⟩=>gG (Qa fr args.toList) fun l=>Cb false l fun a=>K (.val a)
 | .call ⟨.builtin .max,args,_⟩=>gG (Qa fr args.toList) fun l=>Cb true l fun a=>K (.val a)
 | .call ⟨.value (.func f),args,_⟩=>gG (Qa fr args.toList) fun l=>YA P ah f l K
 |_=>False
end Go.Fw
end
section
namespace Go.Fw
variable [iZ]
def JH (w:World)(E:Env)(b:Nat)(el:TypeId):Prop:=∀c o,E.own b=.at c o->o=0/\∃(arr:Array Value) (fz:Nat×Nat),w.heap[c]?=some (.cells arr el fz)
theorem zK (ah:AH)(b:Nat)(x y:Option pI):upd (upd ah b x) b y=upd ah b y:=by
 funext j;unfold upd;split<;>rfl
def abu (w:World)(E:Env)(b n:Nat):Prop:=∀c o,E.own b=.at c o->∃(arr:Array Value) (ty:TypeId) (fz:Nat×Nat),w.heap[c]?=some (.cells arr ty fz)/\arr.size=n
theorem JH.ext {w w':World}{E E':Env}{b:Nat}{el:TypeId}(h:JH w E b el)(hx:Ext w E w' E')(ho:E'.own b=E.own b):JH w' E' b el:=fun c o hc=>by
 obtain ⟨h0,arr,fz,h1⟩:=h c o (ho▸hc)
 obtain ⟨arr',fz',h2,-⟩:=hx.arr c arr el fz h1
 exact ⟨h0,arr',fz',h2⟩
theorem abu.ext {w w':World}{E E':Env}{b n:Nat}(h:abu w E b n)(hx:Ext w E w' E')(ho:E'.own b=E.own b):abu w' E' b n:=fun c o hc=>by
 obtain ⟨arr,ty,fz,h1,h2⟩:=h c o (ho▸hc)
 obtain ⟨arr',fz',h3,h4⟩:=hx.arr c arr ty fz h1
 exact ⟨arr',ty,fz',h3,h4.trans h2⟩
theorem GV (base:Nat)(w:World)(E:Env)(b:Nat){ty:TypeId}{sz:Nat}{rs:List (List AV)}(h:rO base w E b (.tC ty sz rs)):rO base w E b (.rows sz rs)/\JH w E b ty/\(sz=1\/abu w E b (rs.length*sz)):=by
 rcases h with ⟨h1,h2⟩|⟨c,o,arr,h1,h2,h3,h4,h5,h60,h6⟩
 .exact ⟨.inl ⟨h1,h2⟩,(fun c o h=>by rw [h1] at h;cases h),.inr (fun c o h=>by rw [h1] at h;cases h)⟩
 .exact ⟨.inr ⟨c,o,arr,ty,h1,h2,h3,h4,h5⟩,(fun c' o' h=>by rw [h1] at h;cases h;exact ⟨h60,arr,_,h4⟩),h6.imp id (fun h6 c' o' h=>by rw [h1] at h;cases h;exact ⟨arr,ty,_,h4,h6⟩)⟩
theorem GX (base:Nat)(w:World)(E:Env)(b:Nat){ty:TypeId}{sz:Nat}{rs:List (List AV)}(h:rO base w E b (.rows sz rs))(ht:JH w E b ty)(hx:sz=1\/abu w E b (rs.length*sz)):rO base w E b (.tC ty sz rs):=by
 rcases h with ⟨h1,h2⟩|⟨c,o,arr,tt,h1,h2,h3,h4,h5⟩
 .exact .inl ⟨h1,h2⟩
 .obtain ⟨h60,a2,f2,h6⟩:=ht c o h1
  rw [h4] at h6
  simp only [au,Obj.cells.injEq] at h6
  obtain ⟨-,rfl,-⟩:=h6
  refine .inr ⟨c,o,arr,h1,h2,h3,h4,h5,h60,hx.imp id fun hx=>?_⟩
  obtain ⟨a3,t3,f3,h8,h9⟩:=hx c o h1
  rw [h4] at h8
  simp only [au,Obj.cells.injEq] at h8
  obtain ⟨rfl,-,-⟩:=h8
  exact h9
theorem eH.Em {base:Nat}{w:World}{E:Env}{ah:AH}{F:Nat->Prop}(hh:eH base w E ah F){b:Nat}{k k':pI}(hb:ah b=some k)(h:rO base w E b k'):eH base w E (upd ah b (some k')) F:=by
 have g:∀b' x,upd ah b (some k') b'=some x->∃y,ah b'=some y:=fun b' x hx=>by
  by_cases e:b'=b
  .exact ⟨k,e▸hb⟩
  .rw [aoE e] at hx;exact ⟨x,hx⟩
 refine ⟨fun b' x hx=>?_,fun b1 b2 k1 k2 c1 o1 c2 o2 hne h1 h2 h3 h4=>?_,hh.fresh,hh.jO,hh.bs,hh.lH⟩
 .by_cases e:b'=b
  .subst e;rw [eY rfl] at hx;cases hx;exact h
  .rw [aoE e] at hx;exact hh.blk b' x hx
 .obtain ⟨y1,g1⟩:=g b1 k1 h1
  obtain ⟨y2,g2⟩:=g b2 k2 h2
  exact hh.sep b1 b2 y1 y2 c1 o1 c2 o2 hne g1 g2 h3 h4
theorem dI {α:Type}{o:Option α}{k:α->Prop}:gG o k↔∃a,o=some a/\k a:=by
 cases o<;>simp [gG]
theorem oJ {a:AV}:∀{fr:nP} {n i:Nat},ji (pG fr n a) i=if i=n/\n<fr.length then some a else ji fr i
 |[],n,i=>by cases n<;>simp [pG,ji]
 |x::r,0,0=>by simp [pG,ji]
 |x::r,0,i+1=>by simp [pG,ji]
 |x::r,n+1,0=>by simp [pG,ji]
 |x::r,n+1,i+1=>by simp [pG,ji,oJ (fr:=r)]
theorem gQ {a:AV}:∀{fr:nP} {n:Nat},(pG fr n a).length=fr.length
 |[],n=>by cases n<;>rfl
 |x::r,0=>rfl
 |x::r,n+1=>by simp [pG,gQ (fr:=r)]
theorem Ig : ∀{fr:nP} {i:Nat} {a:AV},ji fr i=some a->i<fr.length
 |[],i,a,h=>by cases i<;>simp [ji] at h
 |x::r,0,a,h=>by simp
 |x::r,i+1,a,h=>by have:=Ig (fr:=r) (i:=i) (a:=a) h;simp;omega
structure yg (w:World)(E:Env)(fr:nP)(tmps:Array Value):Prop where
 size:fr.length<=tmps.size
 get:∀(i:Nat) (a:AV),ji fr i=some a->∃v,tmps[i]?=some v/\Rep w E a v
 GY:ZR w E.fix
theorem ZR.mono {w w':World}{fix vU:Nat->Nat->Prop}(h:ZR w fix)(hf:∀c o,fix c o->vU c o)(hc:∀c o,fix c o->w'.cell? ⟨c,o,none⟩=w.cell? ⟨c,o,none⟩)
  (ha:∀(c:Nat) (arr:Array Value) (ty:TypeId) (fz:Nat×Nat),w.heap[c]?=some (.cells arr ty fz)->∃(arr':Array Value) (fz':Nat×Nat),w'.heap[c]?=some (.cells arr' ty fz')/\arr'.size=arr.size):ZR w' vU:=
 fun g row hg=>⟨by
  obtain ⟨⟨arr,ty,fz,h1,h2⟩,_⟩:=h g row hg
  obtain ⟨arr',fz',h3,h4⟩:=ha g arr ty fz h1
  exact ⟨arr',ty,fz',h3,h4.trans h2⟩,fun j v hv=>let ⟨h1,h2⟩:=(h g row hg).2 j v hv;⟨hf _ _ h1,(hc _ _ h1).trans h2⟩⟩
theorem yg.mono {w E w' E' fr tmps}(h:yg w E fr tmps)(hx:Ext w E w' E'):yg w' E' fr tmps:=
 ⟨h.size,fun i a hi=>let ⟨v,h1,h2⟩:=h.get i a hi;⟨v,h1,h2.mono hx⟩,h.GY.mono hx.fix hx.cell hx.arr⟩
theorem yg.put {w E fr}{a:Act}(h:yg w E fr a.tmps)(dst:Option Tmp){x v}(hx:Rep w E x v):yg w E (vT fr dst x) (a.put dst v).tmps:=by
 cases dst with
 |none=>exact h
 |some d=>
  refine ⟨by simpa [vT,gQ,Act.put] using h.size,fun i y hy=>?_,h.GY⟩
  simp only [vT,oJ] at hy
  simp only [Act.put,Array.getElem?_setIfInBounds]
  split at hy
  .rename_i hc
   obtain ⟨rfl,hc⟩:=hc
   cases hy
   have hlt:i<a.tmps.size:=by have:=h.size;omega
   exact ⟨v,by simp [hlt],hx⟩
  .rename_i hc
   have hlt:=Ig hy
   have:d≠i:=fun e=>hc ⟨e.symm,by rw [e];exact hlt⟩
   simp only [this,if_false]
   exact h.get i y hy
theorem YB {w E v a}(h:ofC v=some a):Rep w E a v/\a.mP=true:=by
 unfold ofC at h
 split at h<;>first|(cases h;done)|(cases h;exact ⟨.str _ _ rfl,rfl⟩)|(cases h;exact ⟨.slnil _ _,rfl⟩)|(cases h;exact ⟨.p rfl,rfl⟩)
theorem L_ {w E}:∀{l:List Value} {cs:List AV},l.mapM ofC=some cs->iT w E cs l/\∀c∈cs,c.mP=true:=by
 intro l
 induction l with
 |nil=>intro cs h;simp at h;subst h;exact ⟨⟨rfl,fun i a v h=>by simp at h⟩,by simp⟩
 |cons v l ih=>
  intro cs h
  simp only [List.mapM_cons,Option.pure_def,Option.bind_eq_bind,aW] at h
  obtain ⟨a,ha,r,hr,he⟩:=h
  cases he
  obtain ⟨⟨h1,h2⟩,h3⟩:=ih hr
  obtain ⟨h4,h5⟩:=YB (w:=w) (E:=E) ha
  refine ⟨⟨by simp [h1],fun i x y hx hy=>?_⟩,fun c hc=>?_⟩
  .cases i with
   |zero=>simp at hx hy;subst hx;subst hy;exact h4
   |succ i=>simp at hx hy;exact h2 i x y hx hy
  .rcases bH.1 hc with rfl|hc
   .exact h5
   .exact h3 c hc
theorem YC {w E v a}(h:ofV v=some a):Rep w E a v:=by
 unfold ofV at h
 split at h
 .rename_i cs
  obtain ⟨l,hl,he⟩:=aB.1 h
  cases he
  obtain ⟨⟨h1,h2⟩,h3⟩:=L_ (w:=w) (E:=E) hl
  exact .agg l cs (by simpa using h1) h3 (fun i c v hc hv=>h2 i c v hc (by simpa using hv))
 .rename_i vs
  split at h
  .rename_i hv;cases h;exact .p hv
  .cases h
 .exact (YB h).1
theorem fH {w E fr}{a:Act}(h:yg w E fr a.tmps){x:Operand}{av:AV}(he:ev fr x=some av):Rep w E av (a.eval x):=by
 cases x with
 |tmp t=>
  obtain ⟨v,h1,h2⟩:=h.get t av he
  have e:a.eval (.tmp t)=v:=by simp [Act.eval,h1]
  rw [e];exact h2
 |const v=>exact YC he
 |func f=>cases he;exact .fn _ _ _ _ _ rfl rfl (fun i c v h=>by simp at h) (fun i c v h=>by simp at h)
 |global g=>
  simp only [ev,aW,aB] at he
  obtain ⟨row,hrow,r,hr,rfl⟩:=he
  obtain ⟨⟨hl,hrep⟩,hs⟩:=L_ (w:=w) (E:=E) hr
  have key:∀(j:Nat) (x:AV),r[j]?=some x->∃v,row[j]?=some v/\Rep w E x v:=fun j x hx=>by
   have hlt:=(aG.1 hx).1
   rw [hl] at hlt
   exact ⟨row[j],by simp [hlt],hrep j x _ hx (by simp [hlt])⟩
  refine .vp r 0 g 0 (fun j=>row.getD j undef) (fun j x hx=>?_) (fun j x hx=>?_) (fun x hx=>hs x hx) (fun j x hx=>?_)
  .obtain ⟨v,hv,-⟩:=key j x hx
   rw [Nat.zero_add];exact ((h.GY g row hrow).2 j v hv).1
  .obtain ⟨v,hv,-⟩:=key j x hx
   rw [Nat.zero_add,((h.GY g row hrow).2 j v hv).2];simp [hv]
  .obtain ⟨v,hv,hr⟩:=key j x hx
   have:row.getD j undef=v:=by simp [hv]
   rw [this];exact hr
theorem qJ {w E fr}{a:Act}(h:yg w E fr a.tmps):∀{l:List Operand} {az:List AV},Qa fr l=some az->iT w E az (l.map a.eval)
 |[],az,he=>by cases he;exact ⟨rfl,fun i x y hx=>by simp at hx⟩
 |x::r,az,he=>by
  simp only [Qa,aW,aB] at he
  obtain ⟨y,hy,l,hl,rfl⟩:=he
  have ih:=qJ h hl
  refine ⟨by simpa using ih.1,fun i x' v' hx hv=>?_⟩
  cases i with
  |zero=>simp at hx hv;subst hx;subst hv;exact fH h hy
  |succ i=>simp at hx hv;exact ih.2 i x' v' hx (by simpa using hv)
theorem LG {α:Type}{w E fr}{a:Act}(h:yg w E fr a.tmps):∀{l:List (α×Operand)} {az:List (α×AV)},OV fr l=some az->
  az.length=l.length/\∀(i:Nat) (p:α×AV) (q:α×Operand),az[i]?=some p->l[i]?=some q->p.1=q.1/\Rep w E p.2 (a.eval q.2)
 |[],az,he=>by cases he;exact ⟨rfl,fun i x y hx=>by simp at hx⟩
 |(k,x)::r,az,he=>by
  simp only [OV,aW,aB] at he
  obtain ⟨y,hy,l,hl,rfl⟩:=he
  have ih:=LG h hl
  refine ⟨by simpa using ih.1,fun i p q hx hv=>?_⟩
  cases i with
  |zero=>simp at hx hv;subst hx;subst hv;exact ⟨rfl,fH h hy⟩
  |succ i=>simp at hx hv;exact ih.2 i p q hx hv
section
variable {P : Program}
theorem xH {t ty}(h:qI P t=some ty)(w:World):(isAgg t).run P w=.ok ty.1 w/\(sizeOf t).run P w=.ok ty.2 w/\∃d i,P.underlying t=some d/\P.info? t=some i/\ty=(L6 d,i.size):=by
 unfold qI at h
 simp only [aW,aB] at h
 obtain ⟨d,hd,i,hi,rfl⟩:=h
 refine ⟨?_,?_,d,i,hd,hi,rfl⟩
 .unfold isAgg
  rw [Sem.run_bind,run_underlying hd w]
  cases d<;>simp [L6]
 .simp [sizeOf,typeInfo,hi]
def tK (P:Program)(w:World)(E:Env)(s:Sem Value)(K:nT->Prop):Prop:=∃r v,K r/\r.wr=[]/\s.run P w=.ok v w/\Rep w E r.v v
theorem Af {w E t ty row off}{K:AV->Prop}(hty:qI P t=some ty)(h:apart ty row off K){c o:Nat}{g:Nat->Value}
  (hcell:∀(j:Nat) (x:AV),row[j]?=some x->w.cell? ⟨c,o+j,none⟩=some (g j)) (hrep:∀(j:Nat) (x:AV),row[j]?=some x->Rep w E x (g j))
  (kE:∀x∈row,x.mP=true):∃x v,K x/\(loadVar t ⟨c,o+off,none⟩).run P w=.ok v w/\Rep w E x v:=by
 obtain ⟨h1,h2,-⟩:=xH hty w
 unfold apart at h
 split at h
 .rename_i hb
  obtain ⟨hle,hK⟩:=h
  have hx:∀j,j<ty.2->row[off+j]?=some row[off+j]!:=fun j hj=>by simp [bf (show off+j<row.length by omega),show off+j<row.length by omega]
  refine ⟨_,.agg ((List.range ty.2).map fun j=>g (off+j)).toArray,hK,?_,?_⟩
  .simp only [loadVar,Sem.run_bind,h1,Result.andThen_ok,hb,if_true,h2]
   rw [run_loadCells w _ ty.2 (fun j=>g (off+j)) (fun j hj=>by
    rw [Addr.add_lit,Nat.add_assoc]
    exact hcell _ _ (hx j hj))]
   rfl
  .refine .agg _ _ (by simp;omega) (fun x hx'=>kE x (List.mem_of_mem_drop (bQ hx'))) (fun i x v hx' hv=>?_)
   have hi:i<ty.2:=by
    rcases Nat.lt_or_ge i ty.2 with h|h
    .exact h
    .simp [h] at hv
   have hv':v=g (off+i):=by simpa [hi,eq_comm] using hv
   rw [hv']
   refine hrep _ _ ?_
   simpa [bM,hi] using hx'
 .rename_i hb
  obtain ⟨x,hx,hK⟩:=dI.1 h
  refine ⟨x,g off,hK,?_,hrep _ _ hx⟩
  have hb':ty.1=false:=by simpa using hb
  simp [loadVar,Sem.run_bind,h1,hb',hcell off x hx]
theorem GZ {w E t ty row off}{K:AV->Prop}(hty:qI P t=some ty)(h:apart ty row off K){cs:Array Value}(hr:Rep w E (.agg row) (.agg cs)) :
  ∃x v,K x/\(part t cs off).run P w=.ok v w/\Rep w E x v:=by
 obtain ⟨h1,h2,-⟩:=xH hty w
 cases hr with
 |agg _ _ hl kE hrep=>
 unfold apart at h
 split at h
 .rename_i hb
  obtain ⟨hle,hK⟩:=h
  refine ⟨_,.agg (cs.extract off (off+ty.2)),hK,by simp [part,Sem.run_bind,h1,hb,h2],?_⟩
  refine .agg _ _ (by simp;omega) (fun x hx'=>kE x (List.mem_of_mem_drop (bQ hx'))) (fun i x v hx' hv=>?_)
  have hi:i<ty.2:=by
   rcases Nat.lt_or_ge i ty.2 with h|h
   .exact h
   .simp [bM] at hx';omega
  refine hrep (off+i) x v (by simpa [bM,hi] using hx') ?_
  rw [Array.getElem?_extract] at hv
  split at hv
  .exact hv
  .cases hv
 .rename_i hb
  obtain ⟨x,hx,hK⟩:=dI.1 h
  have hb':ty.1=false:=by simpa using hb
  have hlt:off<cs.size:=by
   rw [<- hl]
   exact (aG.1 hx).1
  exact ⟨x,cs[off],hK,by simp [part,Sem.run_bind,h1,hb',hlt],hrep off x _ hx (by simp [hlt])⟩
variable {base : Nat} {w:World} {E:Env} {ah:AH} {F:Nat->Prop} {K:nT->Prop}
theorem eH.row (hh:eH base w E ah F){b sz rs i row c o}(hb:ah b=some (.rows sz rs))(hrow:rs[i]?=some row)(ho:E.own b=.at c o) :
  ∃(g:Nat->Value) (arr:Array Value) (ty:TypeId),w.heap[c]?=some (.cells arr ty (0,0))/\base<=c/\o+rs.length*sz<=arr.size/\row.length=sz/\(∀x∈row,x.mP=true)/\
   (∀(j:Nat) (x:AV),row[j]?=some x->w.cell? ⟨c,o+i*sz+j,none⟩=some (g j))/\(∀(j:Nat) (x:AV),row[j]?=some x->Rep w E x (g j)):=by
 rcases hh.blk b _ hb with ⟨_,h⟩|⟨c',o',arr,ty,h1,h2,h3,h4,h5,h6,h7,h8⟩
 .rw [h] at hrow;simp at hrow
 .rw [ho] at h1
  cases h1
  refine ⟨fun j=>arr.getD (o+i*sz+j) undef,arr,ty,h4,h2,h5,h6 i row hrow,h7 row (aK hrow),fun j x hx=>?_,fun j x hx=>?_⟩
  .obtain ⟨v,hv,_⟩:=h8 i row j x hrow hx
   rw [cell_of_row w c _ arr ty (0,0) h4,hv]
   simp [hv]
  .obtain ⟨v,hv,hr⟩:=h8 i row j x hrow hx
   simp [hv]
   exact hr
theorem En (hh:eH base w E ah F){t a va}(h:Ia P ah t a K)(hr:Rep w E a va):tK P w E (Instr.loadAt t va) K:=by
 obtain ⟨ty,hty,h⟩:=dI.1 h
 cases hr with
 |vp row off c o g hfix hcell kE hrep=>
  obtain ⟨x,v,hK,hrun,hx⟩:=Af hty h hcell hrep kE
  exact ⟨_,v,hK,rfl,by simp [Instr.loadAt,Instr.sureAddr,hrun],hx⟩
 |op b sz row off c o hb=>
  dsimp only at h
  split at h
  .rename_i sz' rs hab
   obtain ⟨rfl,h⟩:=h
   obtain ⟨rw_,hrow,h⟩:=dI.1 h
   obtain ⟨g,arr,tt,-,-,-,hl,kE,hcell,hrep⟩:=hh.row hab hrow hb
   obtain ⟨x,v,hK,hrun,hx⟩:=Af hty h hcell hrep kE
   exact ⟨_,v,hK,rfl,by simp [Instr.loadAt,Instr.sureAddr,hrun],hx⟩
  .rename_i te sz' rs hab
   obtain ⟨rfl,h⟩:=h
   obtain ⟨rw_,hrow,h⟩:=dI.1 h
   obtain ⟨g,arr,tt,-,-,-,hl,kE,hcell,hrep⟩:=(hh.Em hab (GV base w E b (hh.blk b _ hab)).1).row (eY rfl) hrow hb
   obtain ⟨x,v,hK,hrun,hx⟩:=Af hty h hcell hrep kE
   exact ⟨_,v,hK,rfl,by simp [Instr.loadAt,Instr.sureAddr,hrun],hx⟩
  .exact h.elim
 |_=>exact h.elim
theorem Qc {s k f}(h:rP P s k=some f):∃(fs:Array Field) (fl:Field),P.underlying s=some (.struct fs)/\fs[k]?=some fl/\fl.offset=f.1/\qI P fl.type=some f.2:=by
 unfold rP at h
 split at h
 .rename_i fs hu
  simp only [aW,aB] at h
  obtain ⟨fl,hfl,t,ht,rfl⟩:=h
  exact ⟨fs,fl,hu,hfl,rfl,ht⟩
 .cases h
theorem Gm {s a k va}(h:BZ P s a k K)(hr:Rep w E a va):tK P w E (Instr.fieldAt s va k) K:=by
 obtain ⟨f,hf,h0,h⟩:=dI.1 h
 obtain ⟨fs,fl,hu,hfl,hoff,hty⟩:=Qc hf
 obtain ⟨-,hsz,-⟩:=xH hty w
 have run:∀c o,(Instr.fieldAt s (.pointer (some ⟨c,o,none⟩)) k).run P w=.ok (.pointer (some ⟨c,o+f.1,none⟩)) w:=fun c o=>by
  simp [Instr.fieldAt,Instr.sureAddr,run_underlying hu,hfl,fieldPlace,hsz,h0,Addr.add_lit,hoff]
 cases hr with
 |vp row off c o g hfix hcell kE hrep=>exact ⟨_,_,h,rfl,run _ _,by rw [Nat.add_assoc];exact .vp row _ c o g hfix hcell kE hrep⟩
 |op b sz row off c o hb=>exact ⟨_,_,h,rfl,run _ _,by rw [Nat.add_assoc];exact .op b sz row _ c o hb⟩
 |_=>exact h.elim
theorem Qd {s a k va}(h:Q5 P s a k K)(hr:Rep w E a va):tK P w E (Instr.field s va k) K:=by
 obtain ⟨f,hf,h⟩:=dI.1 h
 obtain ⟨fs,fl,hu,hfl,hoff,hty⟩:=Qc hf
 cases a with
 |agg cs=>
  cases hr with
  |agg _ vs hl hs hrep=>
   obtain ⟨x,v,hK,hrun,hx⟩:=GZ hty h (.agg cs vs hl hs hrep)
   exact ⟨_,v,hK,rfl,by simp [Instr.field,run_underlying hu,hfl,asAgg,hoff,hrun],hx⟩
 |_=>exact h.elim
end
end Go.Fw
end
section
namespace Go.Fw
variable [iZ]
section
variable {P : Program} {base:Nat} {w:World} {E:Env} {ah:AH} {F:Nat->Prop} {K:nT->Prop}
theorem uH {t e}(h:kU P t=some e):∃(el:TypeId) (i:TypeInfo),P.underlying t=some (.slice el)/\P.info? el=some i/\e=(i.size,i.bytes):=by
 unfold kU at h
 split at h
 .rename_i el hu
  obtain ⟨i,hi,rfl⟩:=aB.1 h
  exact ⟨el,i,hu,hi,rfl⟩
 .cases h
theorem zL {t e}(h:BU P t=some e):∃(n:Nat) (el:TypeId) (ty:Bool×Nat),P.underlying t=some (.array n el)/\qI P el=some ty/\e=(n,ty.2,ty.1):=by
 unfold BU at h
 split at h
 .rename_i n el hu
  obtain ⟨i,hi,rfl⟩:=aB.1 h
  exact ⟨n,el,i,hu,hi,rfl⟩
 .cases h
theorem Rep.YD {k n v}(h:Rep w E (.p (.int k n)) v):v=.int k n:=by cases h;rfl
theorem Rep.gV {u v}(h:Rep w E (.p u) v):v=u:=by cases h;rfl
theorem Gn {t x i vx vi}(h:wM P t x i K)(hx:Rep w E x vx)(hi:Rep w E i vi):tK P w E (Instr.indexAt t vx vi) K:=by
 unfold wM at h
 split at h
 .rename_i k n
  obtain rfl:=hi.YD
  split at h
  .rename_i rows full
   obtain ⟨e,he,h0,h⟩:=dI.1 h
   obtain ⟨row,hrow,hlen,hK⟩:=dI.1 h
   obtain ⟨el,inf,hu,OX,rfl⟩:=uH he
   have hlt:n.toNat<rows.length:=(aG.1 hrow).1
   cases hx with
   |slnil=>simp at hlt
   |sl _ _ sz c o cap g hcap hfull hsz hfix hcell kE hrep=>
    have hsz':sz=inf.size:=by rw [<- hsz _ row hrow];exact hlen
    subst hsz'
    refine ⟨_,.pointer (some ⟨c,o+n.toNat*inf.size,none⟩),hK,rfl,?_,?_⟩
    .simp [Instr.indexAt,asIntOf,run_underlying hu,sizeOf,typeInfo,OX,Addr.add_lit,h0]
     intro;omega
    .have:=Rep.vp (w:=w) (E:=E) row 0 c (o+n.toNat*inf.size) (g n.toNat) (fun j x hx=>hfix _ row j x hrow hx) (fun j x hx=>hcell _ row j x hrow hx)
      (kE row (aK hrow)) (fun j x hx=>hrep _ row j x hrow hx)
     simpa using this
  .rename_i b sz off len
   obtain ⟨e,he,h0,hlt,hsz,hK⟩:=dI.1 h
   obtain ⟨el,inf,hu,OX,rfl⟩:=uH he
   dsimp only at hsz
   subst hsz
   cases hx with
   |lg=>omega
   |os _ _ _ _ c o cap hb hcap hsize=>
    refine ⟨_,.pointer (some ⟨c,o+off*inf.size+n.toNat*inf.size,none⟩),hK,rfl,?_,?_⟩
    .simp [Instr.indexAt,asIntOf,run_underlying hu,sizeOf,typeInfo,OX,Addr.add_lit,h0]
     intro;omega
    .have:=Rep.op (w:=w) (E:=E) b inf.size (off+n.toNat) 0 c o hb
     rw [bW,<- Nat.add_assoc] at this
     simpa using this
  .rename_i row off
   obtain ⟨e,he,h0,hlt,hK⟩:=dI.1 h
   obtain ⟨m,el,ty,hu,hty,rfl⟩:=zL he
   obtain ⟨-,hs,-⟩:=xH hty w
   cases hx with
   |vp _ _ c o g hfix hcell kE hrep=>
    refine ⟨_,.pointer (some ⟨c,o+(off+n.toNat*ty.2),none⟩),hK,rfl,?_,.vp row _ c o g hfix hcell kE hrep⟩
    have:n<(m:Int):=by dsimp only at hlt;omega
    simp [Instr.indexAt,Instr.sureAddr,asIntOf,run_underlying hu,hs,Addr.add_lit,h0,this,Nat.add_assoc]
  .rename_i b sz j off
   obtain ⟨e,he,h0,hlt,hK⟩:=dI.1 h
   obtain ⟨m,el,ty,hu,hty,rfl⟩:=zL he
   obtain ⟨-,hs,-⟩:=xH hty w
   cases hx with
   |op _ _ _ _ c o hb=>
    refine ⟨_,.pointer (some ⟨c,o+j*sz+(off+n.toNat*ty.2),none⟩),hK,by cases Nat.beq sz ty.2<;>rfl,?_,?_⟩
    rotate_left
    .cases hq:Nat.beq sz ty.2
     .exact .op b sz j _ c o hb
     .have e:=aA hq
      have:=Rep.op (w:=w) (E:=E) b sz (j+n.toNat) off c o hb
      rw [show o+(j+n.toNat)*sz+off=o+j*sz+(off+n.toNat*ty.2) by rw [<- e,bW];omega] at this
      exact this
    have:n<(m:Int):=by dsimp only at hlt;omega
    simp [Instr.indexAt,Instr.sureAddr,asIntOf,run_underlying hu,hs,Addr.add_lit,h0,this,Nat.add_assoc]
  .exact h.elim
 .exact h.elim
theorem Qe {t x i vx vi}(h:JB P t x i K)(hx:Rep w E x vx)(hi:Rep w E i vi):tK P w E (Instr.index t vx vi) K:=by
 unfold JB at h
 split at h
 .rename_i k n
  obtain rfl:=hi.YD
  split at h
  .rename_i s
   obtain ⟨hu,h0,h⟩:=h
   obtain ⟨b,hb,hK⟩:=dI.1 h
   cases hx with
   |str s l hs=>
    refine ⟨_,.int .u8 b.toNat,hK,rfl,?_,.p rfl⟩
    subst hs
    have hb':s[n.toNat]?=some b:=by
     have hlt:=(aG.1 hb).1
     have e:=(aG.1 hb).2
     have hlt':n.toNat<s.size:=by simpa using hlt
     rw [getElem?_pos s n.toNat hlt']
     simp at e
     rw [<- e]
     rfl
    simp [Instr.index,asIntOf,run_underlying hu,h0,hb']
  .rename_i cs
   obtain ⟨e,he,h0,hlt,h⟩:=dI.1 h
   obtain ⟨m,el,ty,hu,hty,rfl⟩:=zL he
   obtain ⟨-,hs,-⟩:=xH hty w
   cases hx with
   |agg _ vs hl hsc hrep=>
    obtain ⟨x,v,hK,hrun,hx⟩:=GZ (ty:=ty) hty h (.agg cs vs hl hsc hrep)
    have:n<(m:Int):=by dsimp only at hlt;omega
    exact ⟨_,v,hK,rfl,by simp [Instr.index,asIntOf,run_underlying hu,h0,this,hs,hrun],hx⟩
  .exact h.elim
 .exact h.elim
theorem KD {x k vx}(h:xG x k K)(hx:Rep w E x vx):tK P w E (Instr.extract vx k) K:=by
 unfold xG at h
 split at h
 .rename_i vs
  obtain ⟨a,ha,hK⟩:=dI.1 h
  cases hx with
  |kS _ us hl hrep=>
   have hlt:k<us.size:=by rw [<- hl];exact (aG.1 ha).1
   exact ⟨_,us[k],hK,rfl,by simp [Instr.extract,hlt],hrep k a _ ha (by simp [hlt])⟩
 .exact h.elim
theorem G5 {t ty row off x}(hty:qI P t=some ty)(h:L8 ty row off=some x){cs:Array Value}(hr:Rep w E (.agg row) (.agg cs)) :
  ∃v,(part t cs off).run P w=.ok v w/\Rep w E x v:=by
 have:apart ty row off (fun y=>y=x):=by
  unfold L8 at h
  unfold apart
  split at h
  .rename_i hb
   rw [if_pos hb]
   split at h
   .rename_i hle;cases h;exact ⟨hle,rfl⟩
   .cases h
  .rename_i hb
   rw [if_neg hb]
   exact dI.2 ⟨x,h,rfl⟩
 obtain ⟨y,v,rfl,h1,h2⟩:=GZ hty this hr
 exact ⟨v,h1,h2⟩
theorem YE : ∀{d t x y r vx vy},aeq P d t x y=some r->Rep w E x vx->Rep w E y vy->(Op.equalIn d t vx vy).run P w=.ok r w:=by
 intro d
 induction d with
 |zero=>intro t x y r vx vy h;simp [aeq] at h
 |succ d ih=>
  intro t x y r vx vy h hx hy
  unfold aeq at h
  split at h
  .rename_i a b hu;cases h;obtain rfl:=hx.gV;obtain rfl:=hy.gV;simp [Op.equalIn,run_underlying hu]
  .rename_i k a k' b hu
   obtain rfl:=hx.gV;obtain rfl:=hy.gV
   split at h
   .rename_i hk;subst hk;cases h;simp [Op.equalIn,run_underlying hu]
   .cases h
  .rename_i k a k' b hu
   obtain rfl:=hx.gV;obtain rfl:=hy.gV
   split at h
   .rename_i hk;subst hk;cases h;simp [Op.equalIn,run_underlying hu]
   .cases h
  .rename_i a b hu
   cases h
   cases hx with|str s _ hs=>
   cases hy with|str s' _ hs'=>
   subst hs;subst hs'
   simp [Op.equalIn,run_underlying hu,beq_toListBytes,ByteArray.toList_eq]
   rw [Bool.eq_iff_iff];simp
  .rename_i hu;cases h;obtain rfl:=hx.gV;obtain rfl:=hy.gV;simp [Op.equalIn,run_underlying hu]
  .rename_i hu;cases h;obtain rfl:=hx.gV;cases hy;simp [Op.equalIn,run_underlying hu]
  .rename_i hu;cases h;obtain rfl:=hx.gV;cases hy;simp [Op.equalIn,run_underlying hu]
  .rename_i hu;cases h;obtain rfl:=hy.gV;cases hx;simp [Op.equalIn,run_underlying hu]
  .rename_i hu;cases h;obtain rfl:=hy.gV;cases hx;simp [Op.equalIn,run_underlying hu]
  .rename_i hu;cases h;obtain rfl:=hx.gV;obtain rfl:=hy.gV;simp [Op.equalIn,run_underlying hu]
  .rename_i hu;cases h;obtain rfl:=hx.gV;cases hy;simp [Op.equalIn,run_underlying hu]
  .rename_i hu;cases h;obtain rfl:=hy.gV;cases hx;simp [Op.equalIn,run_underlying hu]
  .rename_i fs xs ys hu
   split at h
   .cases h
   .rename_i hst
    have hfo:P.fieldsOf t=fs:=by simp [Program.fieldsOf,hu]
    cases hx with|agg _ vs hl hs hrep=>
    cases hy with|agg _ us hl' hs' YF=>
    rw [run_equalIn_struct w d t vs us (by rw [hfo];exact hu) (by simpa using hst),hfo]
    have hX:Rep w E (.agg xs) (.agg vs):=.agg _ _ hl hs hrep
    have hY:Rep w E (.agg ys) (.agg us):=.agg _ _ hl' hs' YF
    clear hu hfo
    revert r
    generalize fs.toList=l
    induction l with
    |nil=>intro r h;simp [abp] at h;subst h;simp [Op.eqFields]
    |cons f l ihl=>
     intro r h
     simp only [abp] at h
     simp only [Op.eqFields]
     split at h
     .rename_i hn
      simp only [aW,aB] at h
      obtain ⟨ty,hty,a,ha,b,hb,q,hq,s,hs2,rfl⟩:=h
      obtain ⟨va,ra,hva⟩:=G5 hty ha hX
      obtain ⟨vb,rb,hvb⟩:=G5 hty hb hY
      have hq':=ih hq hva hvb
      have hl2:=ihl hs2
      rw [if_pos hn]
      simp only [Sem.run_bind,ra,rb,hq',Result.andThen_ok]
      cases q with
      |false=>simp
      |true=>simp [hl2]
     .rename_i hn
      rw [if_neg hn]
      exact ihl h
  .cases h
end
end Go.Fw
end
section
namespace Go.Fw
variable [iZ]
section
variable {P : Program} {base:Nat} {w:World} {E:Env} {ah:AH} {F:Nat->Prop} {K:nT->Prop}
theorem Ux (op:BinOp)(t:TypeId)(ox oy:Operand)(hc:(isC ox||isC oy)=true):(eqGuard op t ox oy .nilIface .nilIface).run P w=.ok () w:=by
 cases op<;>cases ox<;>cases oy<;>first|(simp [isC] at hc;done)|simp [eqGuard]
theorem Mc {t x y r vx vy}(op:BinOp)(ox oy:Operand)(hop:op=.eql\/op=.neq)(hok:agJ P t x (isC ox||isC oy))(h:aeq P 10000 t x y=some r)(hx:Rep w E x vx)(hy:Rep w E y vy) :
  (do eqGuard op t ox oy vx vy;binOp op t vx vy:Sem Value).run P w=.ok (.bool (if op=.eql then r else !r)) w:=by
 have hr:=YE h hx hy
 have e1:(Op.equal t vx vy).run P w=.ok r w:=hr
 unfold aeq at h
 split at h
 .obtain rfl:=hx.gV;obtain rfl:=hy.gV
  rcases hop with rfl|rfl<;>simp [eqGuard,binOp,e1]
 .rename_i k a k' b hu
  obtain rfl:=hx.gV;obtain rfl:=hy.gV
  split at h
  .rename_i hk;subst hk;cases h
   rcases hop with rfl|rfl<;>simp [eqGuard,binOp,Op.intCmp,bne]
  .cases h
 .rename_i k a k' b hu
  obtain rfl:=hx.gV;obtain rfl:=hy.gV
  split at h
  .rename_i hk;subst hk;cases h
   rcases hop with rfl|rfl<;>simp [eqGuard,binOp,Op.floatCmp,Op.floatEq,bne]
  .cases h
 .rename_i a b hu
  cases h
  cases hx with|str s _ hs=>
  cases hy with|str s' _ hs'=>
  subst hs;subst hs'
  have hq:(s.toList == s'.toList)=decide (s.data.toList=s'.data.toList):=by rw [ByteArray.toList_eq,ByteArray.toList_eq,Bool.eq_iff_iff];simp
  rcases hop with rfl|rfl<;>simp [eqGuard,binOp,Op.stringOp,hq]
 .obtain rfl:=hx.gV;obtain rfl:=hy.gV
  rcases hop with rfl|rfl<;>simp [eqGuard,binOp,e1]
 .obtain rfl:=hx.gV;cases hy
  rcases hop with rfl|rfl<;>simp [eqGuard,binOp,e1]
 .obtain rfl:=hx.gV;cases hy
  rcases hop with rfl|rfl<;>simp [eqGuard,binOp,e1]
 .obtain rfl:=hy.gV;cases hx
  rcases hop with rfl|rfl<;>simp [eqGuard,binOp,e1]
 .obtain rfl:=hy.gV;cases hx
  rcases hop with rfl|rfl<;>simp [eqGuard,binOp,e1]
 .obtain rfl:=hx.gV;obtain rfl:=hy.gV
  cases h
  have hc:(isC ox||isC oy)=true:=hok
  rcases hop with rfl|rfl<;>simp [Ux _ t ox oy hc,binOp,e1]
 .obtain rfl:=hx.gV;cases hy
  rcases hop with rfl|rfl<;>simp [eqGuard,binOp,e1]
 .obtain rfl:=hy.gV;cases hx
  rcases hop with rfl|rfl<;>simp [eqGuard,binOp,e1]
 .cases hx with|agg _ vs hl hs hrep=>
  cases hy with|agg _ us hl' hs' YF=>
  have hok':P.eqGuardType P.depth t=false:=hok
  rcases hop with rfl|rfl<;>simp [eqGuard,binOp,e1,hok']
 .cases h
def Qg (P:Program)(w:World)(E:Env)(s:Sem Value)(K:AV->Prop):Prop:=∃x v,K x/\s.run P w=.ok v w/\Rep w E x v
theorem Qg.rd {s K}(h:Qg P w E s fun a=>K (.val a)):tK P w E s K:=let ⟨x,v,h1,h2,h3⟩:=h;⟨_,v,h1,rfl,h2,h3⟩
theorem YG {x:AV}{v:Value}(h:isF x=true)(hx:Rep w E x v):∃n,v=.float .f64 n/\(x=.nan->agI n):=by
 cases hx with
 |nan n hn=>exact ⟨n,rfl,fun _=>hn⟩
 |p hp=>
  rename_i hv
  match v,h with
  | .float .f64 n,_=>exact ⟨n,rfl,fun e=>by cases e⟩
 |_=>simp [isF] at h
theorem YH {op t x y vx vy b}{K:nT->Prop}(ox oy:Operand)(h1:agK op=some b)(h2:x=.nan\/y=.nan)(h3:isF x=true)(h4:isF y=true)(hK:K (.val (.p (.bool b))))(hx:Rep w E x vx)(hy:Rep w E y vy) :
  tK P w E (do eqGuard op t ox oy vx vy;binOp op t vx vy) K:=by
 obtain ⟨n,rfl,hn⟩:=YG h3 hx
 obtain ⟨m,rfl,hm⟩:=YG h4 hy
 have ho:FloatKind.f64.format.order n m=none:=by
  rcases h2 with e|e
  .exact (hn e m).1
  .exact (hm e n).2
 refine ⟨_,.bool b,hK,rfl,?_,.p rfl⟩
 cases op<;>simp only [agK,au,reduceCtorEq] at h1<;>subst h1<;>simp [eqGuard,binOp,Op.floatCmp,ho]
theorem aek {op t x y vx vy}{K:nT->Prop}(ox oy:Operand)(h:abq op x y K)(hp:op≠.quo)(hx:Rep w E x vx)(hy:Rep w E y vy) :
  tK P w E (do eqGuard op t ox oy vx vy;binOp op t vx vy) K:=by
 rcases h with ⟨h1,h3,h4,hK⟩|⟨b,h1,h2,h3,h4,hK⟩
 .exact absurd h1 hp
 .exact YH ox oy h1 h2 h3 h4 hK hx hy
theorem YI {op t x y vx vy}{K:AV->Prop}(ox oy:Operand)(h:Q7 P op t (isC ox||isC oy) x y K)(hx:Rep w E x vx)(hy:Rep w E y vy) :
  Qg P w E (do eqGuard op t ox oy vx vy;binOp op t vx vy) K:=by
 unfold Q7 at h
 split at h
 .obtain rfl:=hx.gV;obtain rfl:=hy.gV
  obtain ⟨h0,hK⟩:=h
  refine ⟨_,_,hK,?_,.p rfl⟩
  simp [eqGuard,binOp,Op.shift];omega
 .obtain rfl:=hx.gV;obtain rfl:=hy.gV
  obtain ⟨h0,hK⟩:=h
  refine ⟨_,_,hK,?_,.p rfl⟩
  simp [eqGuard,binOp,Op.shift];omega
 .obtain rfl:=hx.gV;obtain rfl:=hy.gV
  obtain ⟨rfl,h⟩:=h
  split at h
  .exact ⟨_,_,h,by simp [eqGuard,binOp,Op.intArith],.p rfl⟩
  .exact ⟨_,_,h,by simp [eqGuard,binOp,Op.intArith],.p rfl⟩
  .exact ⟨_,_,h,by simp [eqGuard,binOp,Op.intArith],.p rfl⟩
  .exact ⟨_,_,h.2,by simp [eqGuard,binOp,Op.intDiv,h.1],.p rfl⟩
  .exact ⟨_,_,h.2,by simp [eqGuard,binOp,Op.intDiv,h.1],.p rfl⟩
  .exact ⟨_,_,h,by simp [eqGuard,binOp,Op.intBits],.p rfl⟩
  .exact ⟨_,_,h,by simp [eqGuard,binOp,Op.intBits],.p rfl⟩
  .exact ⟨_,_,h,by simp [eqGuard,binOp,Op.intBits],.p rfl⟩
  .exact ⟨_,_,h,by simp [eqGuard,binOp,Op.intBits],.p rfl⟩
  .exact ⟨_,_,h,by simp [eqGuard,binOp,Op.intCmp],.p rfl⟩
  .exact ⟨_,_,h,by simp [eqGuard,binOp,Op.intCmp],.p rfl⟩
  .exact ⟨_,_,h,by simp [eqGuard,binOp,Op.intCmp],.p rfl⟩
  .exact ⟨_,_,h,by simp [eqGuard,binOp,Op.intCmp],.p rfl⟩
  .exact ⟨_,_,h,by simp [eqGuard,binOp,Op.intCmp],.p rfl⟩
  .exact ⟨_,_,h,by simp [eqGuard,binOp,Op.intCmp],.p rfl⟩
  .exact h.elim
 .obtain rfl:=hx.gV;obtain rfl:=hy.gV
  obtain ⟨rfl,h⟩:=h
  split at h
  .obtain ⟨r,hr,h⟩:=dI.1 h;exact ⟨_,_,h,by simp [eqGuard,binOp,Op.floatArith,hr],.p rfl⟩
  .obtain ⟨r,hr,h⟩:=dI.1 h;exact ⟨_,_,h,by simp [eqGuard,binOp,Op.floatArith,hr],.p rfl⟩
  .obtain ⟨r,hr,h⟩:=dI.1 h;exact ⟨_,_,h,by simp [eqGuard,binOp,Op.floatArith,hr],.p rfl⟩
  .obtain ⟨r,hr,h⟩:=dI.1 h;exact ⟨_,_,h,by simp [eqGuard,binOp,Op.floatArith,hr],.p rfl⟩
  .exact ⟨_,_,h,by simp [eqGuard,binOp,Op.floatCmp],.p rfl⟩
  .exact ⟨_,_,h,by simp [eqGuard,binOp,Op.floatCmp],.p rfl⟩
  .exact ⟨_,_,h,by simp [eqGuard,binOp,Op.floatCmp],.p rfl⟩
  .exact ⟨_,_,h,by simp [eqGuard,binOp,Op.floatCmp],.p rfl⟩
  .exact ⟨_,_,h,by simp [eqGuard,binOp,Op.floatCmp],.p rfl⟩
  .exact ⟨_,_,h,by simp [eqGuard,binOp,Op.floatCmp],.p rfl⟩
  .exact h.elim
 .cases hx with|str s _ hs=>
  cases hy with|str s' _ hs'=>
  subst hs;subst hs'
  have hq:(s.toList == s'.toList)=decide (s.data.toList=s'.data.toList):=by rw [ByteArray.toList_eq,ByteArray.toList_eq,Bool.eq_iff_iff];simp
  have hd:(s.data == s'.data)=decide (s.data=s'.data):=by rw [Bool.eq_iff_iff];simp
  have ht:s.toList=s.data.toList:=ByteArray.toList_eq s
  have ht':s'.toList=s'.data.toList:=ByteArray.toList_eq s'
  split at h
  .obtain ⟨hl,hK⟩:=h
   refine ⟨_,_,hK,?_,.str (s++s') _ (by simp [ByteArray.data_append])⟩
   have h1:s.size=s.data.toList.length:=by simp
   have h2:s'.size=s'.data.toList.length:=by simp
   have:(s.size:Int)+s'.size<=9223372036854775807:=by omega
   simp [eqGuard,binOp,Op.stringOp,this]
  .exact ⟨_,_,h,by simp [eqGuard,binOp,Op.stringOp,hq],.p rfl⟩
  .exact ⟨_,_,h,by simp [eqGuard,binOp,Op.stringOp,hq],.p rfl⟩
  .exact ⟨_,_,h,by simp [eqGuard,binOp,Op.stringOp,ht,ht'],.p rfl⟩
  .exact ⟨_,_,h,by simp [eqGuard,binOp,Op.stringOp,hq,ht,ht',hd],.p rfl⟩
  .exact ⟨_,_,h,by simp [eqGuard,binOp,Op.stringOp,hq,ht,ht',hd],.p rfl⟩
  .exact ⟨_,_,h,by simp [eqGuard,binOp,Op.stringOp,ht,ht'],.p rfl⟩
  .exact h.elim
 .obtain ⟨hok,h⟩:=h
  obtain ⟨r,hr,hK⟩:=dI.1 h
  exact ⟨_,_,hK,by rw [Mc .eql ox oy (.inl rfl) hok hr hx hy];rfl,.p rfl⟩
 .obtain ⟨hok,h⟩:=h
  obtain ⟨r,hr,hK⟩:=dI.1 h
  exact ⟨_,_,hK,by rw [Mc .neq ox oy (.inr rfl) hok hr hx hy];rfl,.p rfl⟩
 .exact h.elim
theorem abv {op x vx}{K:AV->Prop}(h:aUn op x K)(hx:Rep w E x vx):Qg P w E (Op.unary op vx) K:=by
 unfold aUn at h
 split at h
 .obtain rfl:=hx.gV;exact ⟨_,_,h,by simp [Op.unary,Op.intArith],.p rfl⟩
 .obtain rfl:=hx.gV;exact ⟨_,_,h,by simp [Op.unary,Op.intBits],.p rfl⟩
 .obtain rfl:=hx.gV;exact ⟨_,_,h,by simp [Op.unary],.p rfl⟩
 .obtain rfl:=hx.gV;exact ⟨_,_,h,by simp [Op.unary],.p rfl⟩
 .exact h.elim
theorem Rh {n:Int}(h0:0<=n)(h1:n<128):(Utf8.encode n).data.toList=[UInt8.ofNat n.toNat]:=by
 have hv:Utf8.valid n=true:=by simp [Utf8.valid];omega
 have hc:n.toNat<0x80:=by omega
 unfold Utf8.encode
 simp only [hv,if_true,hc]
theorem Uy {s d x vx}{K:AV->Prop}(h:AX P s d x K)(hx:Rep w E x vx):Qg P w E (convert s d vx) K:=by
 obtain ⟨hs,h⟩:=h
 obtain ⟨sd,hs⟩:=Option.isSome_iff_exists.1 hs
 split at h
 .rename_i k _ n hu;obtain rfl:=hx.gV;exact ⟨_,_,h,by simp [convert,run_underlying hs,run_underlying hu,Conv.intToInt],.p rfl⟩
 .rename_i k _ n hu;obtain rfl:=hx.gV;exact ⟨_,_,h,by simp [convert,run_underlying hs,run_underlying hu,Conv.intToFloat],.p rfl⟩
 .rename_i k f b hu
  obtain rfl:=hx.gV
  obtain ⟨n,hn,h1,h2,hK⟩:=dI.1 h
  exact ⟨_,_,hK,by simp [convert,run_underlying hs,run_underlying hu,Conv.floatToInt,hn,h1,h2],.p rfl⟩
 .rename_i s' hu
  cases hx with|str b _ hb=>exact ⟨_,_,h,by simp [convert,run_underlying hs,run_underlying hu],.str b _ hb⟩
 .rename_i k n hu
  obtain rfl:=hx.gV
  obtain ⟨h0,h1,hK⟩:=h
  exact ⟨_,_,hK,by simp [convert,run_underlying hs,run_underlying hu,Conv.intToString],.str _ _ (Rh h0 h1)⟩
 .exact h.elim
theorem YJ (hh:eH base w E ah F){t ty x vx}(h:JD P ah t x K)(hx:Rep w E x vx):tK P w E (Builtin.len_ #[t] ty #[vx]) K:=by
 unfold JD at h
 split at h
 .rename_i s hu
  cases hx with|str b _ hb=>
  subst hb
  exact ⟨_,.int .i64 b.data.toList.length,h,rfl,by simp [Builtin.len_,run_underlying hu,goInt],.p rfl⟩
 .rename_i rows full el hu
  cases hx with
  |slnil=>exact ⟨_,_,h,rfl,by simp [Builtin.len_,run_underlying hu,goInt],.p rfl⟩
  |sl=>exact ⟨_,_,h,rfl,by simp [Builtin.len_,run_underlying hu,goInt],.p rfl⟩
 .rename_i hu
  cases hx with
  |lg=>exact ⟨_,_,h,rfl,by simp [Builtin.len_,run_underlying hu,goInt],.p rfl⟩
  |os=>exact ⟨_,_,h,rfl,by simp [Builtin.len_,run_underlying hu,goInt],.p rfl⟩
 .rename_i hu;obtain rfl:=hx.gV;exact ⟨_,_,h,rfl,by simp [Builtin.len_,run_underlying hu,goInt],.p rfl⟩
 .rename_i b hu
  split at h
  .rename_i es hb
   obtain ⟨c,lG,clock,h1,h2,h3,h4,h5,-⟩:=hh.blk b _ hb
   cases hx with|mp _ c' hc'=>
   rw [h1] at hc'
   cases hc'
   refine ⟨_,_,h,rfl,?_,.p rfl⟩
   simp [Builtin.len_,run_underlying hu,goInt,getObj,Sem.run,h4,h5]
  .exact h.elim
 .exact h.elim
theorem Md {mx l vs ts ty}{K:AV->Prop}(h:Cb mx l K)(hl:iT w E l vs):Qg P w E ((if mx then Builtin.max_ else Builtin.min_) ts ty vs.toArray) K:=by
 unfold Cb at h
 split at h
 .rename_i k a k' b
  obtain ⟨rfl,hK⟩:=h
  obtain ⟨h1,h2⟩:=hl
  match vs,h1 with
  |[v0,v1],_=>
   obtain rfl:=(h2 0 _ v0 rfl rfl).gV
   obtain rfl:=(h2 1 _ v1 rfl rfl).gV
   refine ⟨_,.int k (if mx then (if a<b then b else a) else (if b<a then b else a)),hK,?_,.p rfl⟩
   cases mx<;>simp [Builtin.min_,Builtin.max_,Builtin.min2,Builtin.max2]
 .exact h.elim
end
end Go.Fw
end
section
namespace Go.Fw
variable [iZ]
section
variable {P : Program} {base:Nat} {w:World} {E:Env} {ah:AH} {F:Nat->Prop} {K:nT->Prop}
inductive JI (w:World)(E:Env):Option AV->Option Value->Prop
 |none:JI w E none none
 |some {a v} (h:Rep w E a v):JI w E (some a) (some v)
theorem rU {o:Option AV}{ov:Option Value}{d:Nat}{k:Nat->Prop}(h:Gf o d k)(hr:JI w E o ov) :
  ∃n,k n/\(ov=none->n=d)/\∀v,ov=some v->∀(cap:Nat) (code:BoundsCode),n<=cap->(Instr.sliceBound v cap code).run P w=.ok n w:=by
 cases hr with
 |none=>exact ⟨d,h,fun _=>rfl,fun v hv=>by cases hv⟩
 |some hr=>
  unfold Gf at h
  split at h
  .rename_i e;cases e
  .rename_i q n e
   cases e
   obtain rfl:=hr.gV
   obtain ⟨h0,hk⟩:=h
   refine ⟨n.toNat,hk,fun e=>(by cases e),fun v hv cap code hle=>?_⟩
   cases hv
   have:n<=(cap:Int):=by omega
   simp [Instr.sliceBound,asIntOf,h0,this]
  .exact h.elim
theorem pK {isS:Bool}{len cap l h m:Nat}{lo hi mx:Option Value}(hlh:l<=h)(hhm:h<=m)(hmc:m<=cap)
  (hlo0:lo=none->l=0) (hlo:∀v,lo=some v->∀(cap:Nat) (code:BoundsCode),l<=cap->(Instr.sliceBound v cap code).run P w=.ok l w)
  (hhi0:hi=none->h=len) (hhi:∀v,hi=some v->∀(cap:Nat) (code:BoundsCode),h<=cap->(Instr.sliceBound v cap code).run P w=.ok h w)
  (hmx:∀v,mx=some v->∀(cap:Nat) (code:BoundsCode),m<=cap->(Instr.sliceBound v cap code).run P w=.ok m w)
  (hb:mx.isSome=true->hi.isSome=true) :
  (Instr.sliceBounds isS len cap lo hi mx).run P w=.ok (l,h,if mx.isSome=true then m else cap) w:=by
 unfold Instr.sliceBounds
 cases mx with
 |none=>
  cases hi with
  |none=>
   obtain rfl:=hhi0 rfl
   cases lo with
   |none=>obtain rfl:=hlo0 rfl;simp
   |some v=>simp [hlo v rfl _ _ hlh]
  |some u=>
   cases lo with
   |none=>obtain rfl:=hlo0 rfl;simp [hhi u rfl _ _ (cO hhm hmc)]
   |some v=>simp [hhi u rfl _ _ (cO hhm hmc),hlo v rfl _ _ hlh]
 |some x=>
  cases hi with
  |none=>simp at hb
  |some u=>
   cases lo with
   |none=>obtain rfl:=hlo0 rfl;simp [hmx x rfl _ _ hmc,hhi u rfl _ _ hhm]
   |some v=>simp [hmx x rfl _ _ hmc,hhi u rfl _ _ hhm,hlo v rfl _ _ hlh]
theorem uY {t:TypeId}{d:TypeDesc}(hu:P.underlying t=some d)(hd:L6 d=false)(x:Value)(lo hi mx:Option Value) :
  (Instr.sliceAt t x lo hi mx).run P w=(Instr.slice t x lo hi mx).run P w:=by
 unfold Instr.sliceAt
 rw [Sem.run_bind,run_underlying hu]
 cases d<;>simp_all [L6]
theorem JI.isSome {o ov}(h:JI w E o ov):o.isSome=ov.isSome:=by cases h<;>rfl
theorem ZT {t x lo hi mx vx vlo ZU Jz}(h:JC P t x lo hi mx K)(hx:Rep w E x vx)(hlo:JI w E lo vlo)(hhi:JI w E hi ZU)(hmx:JI w E mx Jz) :
  tK P w E (Instr.sliceAt t vx vlo ZU Jz) K:=by
 unfold JC at h
 split at h
 .rename_i s
  obtain ⟨hu,hm,h⟩:=h
  obtain ⟨l,h,hl0,hl⟩:=rU (P:=P) h hlo
  obtain ⟨j,h,hj0,hj⟩:=rU (P:=P) h hhi
  obtain ⟨hlj,hjs,hK⟩:=h
  cases hx with|str b _ hb=>
  subst hb
  have hvm:Jz=none:=by cases hmx with|none=>rfl|some=>simp at hm
  subst hvm
  have hb:=pK (P:=P) (w:=w) (isS:=false) (len:=b.size) (cap:=b.size) (mx:=none) (m:=b.size) hlj (by simpa using hjs) (dH _) hl0 hl (by simpa using hj0) hj (fun v hv=>by cases hv) (by simp)
  refine ⟨_,.string (b.extract l j),hK,rfl,?_,.str _ _ (by simp [List.extract_eq_take_drop])⟩
  rw [uY hu rfl]
  simp [Instr.slice,run_underlying hu,hb]
 .rename_i rows full
  obtain ⟨e,he,hrows,hb,h⟩:=dI.1 h
  obtain ⟨el,inf,hu,OX,rfl⟩:=uH he
  obtain ⟨l,h,hl0,hl⟩:=rU (P:=P) h hlo
  obtain ⟨j,h,hj0,hj⟩:=rU (P:=P) h hhi
  obtain ⟨m,h,hm0,hm⟩:=rU (P:=P) h hmx
  obtain ⟨hlj,hjm,hml,hK⟩:=h
  have hbb:Jz.isSome=true->ZU.isSome=true:=by rw [<- hmx.isSome,<- hhi.isSome];exact hb
  cases hx with
  |slnil _ a=>
   obtain rfl:m=0:=by simpa using hml
   obtain rfl:j=0:=by omega
   obtain rfl:l=0:=by omega
   have hs:=pK (P:=P) (w:=w) (isS:=true) (len:=0) (cap:=0) (l:=0) (h:=0) (m:=0) (lo:=vlo) (hi:=ZU) (mx:=Jz) (dH _) (dH _) (dH _) hl0 hl (by simp) hj hm hbb
   refine ⟨_,.slice a 0 0,hK,rfl,?_,by simp;exact .slnil _ _⟩
   rw [uY hu rfl]
   simp [Instr.slice,run_underlying hu,hs,sizeOf,typeInfo,OX]
  |sl _ _ sz c o cap g hcap hfull hsz hfix hcell kE hrep=>
   have hs:=pK (P:=P) (w:=w) (isS:=true) (len:=rows.length) (cap:=cap) (l:=l) (h:=j) (m:=m) (lo:=vlo) (hi:=ZU) (mx:=Jz) hlj hjm (by omega) hl0 hl hj0 hj hm hbb
   have hlen:((rows.drop l).take (j-l)).length=j-l:=by simp;omega
   have hmm:(if Jz.isSome=true then m else cap)>=j:=by split<;>omega
   refine ⟨_,.slice (some (if (if Jz.isSome=true then m else cap)=l then (⟨c,o,none⟩:Addr) else (⟨c,o,none⟩:Addr).add (l*inf.size))) (j-l) ((if Jz.isSome=true then m else cap)-l),hK,rfl,?_,?_⟩
   .rw [uY hu rfl]
    simp only [Instr.slice,Sem.run_bind,run_underlying hu,Result.andThen_ok,hs,sizeOf,typeInfo,run_program,OX,Sem.run_pure]
    by_cases e:(if Jz.isSome=true then m else cap)=l<;>simp [e]
   .have hfl:(if mx.isSome=true then decide (m=j) else full&&decide (j=rows.length))=true->(if Jz.isSome=true then m else cap)-l=j-l:=by
     rw [hmx.isSome]
     intro hf
     split at hf
     . rename_i hv;rw [if_pos hv,of_decide_eq_true hf]
     . rename_i hv
       rw [if_neg hv]
       simp only [ay,decide_eq_true_eq] at hf
       rw [hfull hf.1,hf.2]
    have hget:∀(i:Nat) (row:List AV),((rows.drop l).take (j-l))[i]?=some row->rows[l+i]?=some row:=fun i row hr=>by
     rw [bM] at hr
     split at hr
     . simpa using hr
     . cases hr
    by_cases e:(if Jz.isSome=true then m else cap)=l
    .have hjl:j=l:=by omega
     have hnil:(rows.drop l).take (j-l)=[]:=by simp [hjl]
     rw [if_pos e,hnil]
     simp only [hjl,Nat.sub_self,e]
     exact .sl [] _ sz c o 0 g ⟨dH _,by simp⟩ (fun _=>rfl) (fun i row h=>by simp at h) (fun i row j x h=>by simp at h) (fun i row j x h=>by simp at h) (by simp) (fun i row j x h=>by simp at h)
    .rw [if_neg e,Addr.add_lit]
     have hsz':∀(i:Nat) (row:List AV),((rows.drop l).take (j-l))[i]?=some row->inf.size=sz:=fun i row hr=>by
       rw [<- hsz _ row (hget i row hr)]
       exact (hrows row (aK (hget i row hr))).symm
     have ha:∀i:Nat,o+l*inf.size+i*inf.size=o+(l+i)*inf.size:=fun i=>by rw [bW];omega
     have hr:Rep w E (.sl ((rows.drop l).take (j-l)) (if mx.isSome=true then decide (m=j) else full&&decide (j=rows.length))) (.slice (some ⟨c,o+l*inf.size,none⟩) ((rows.drop l).take (j-l)).length ((if Jz.isSome=true then m else cap)-l)):=by
      refine .sl _ _ inf.size c _ _ (fun i j=>g (l+i) j) (by rw [hlen];omega) (fun hf=>by rw [hlen];exact hfl hf) (fun i row hr=>hrows row (aK (hget i row hr))) (fun i row q x hr hx=>?_) (fun i row q x hr hx=>?_)
       (fun row hr x hx=>kE row (List.mem_of_mem_drop (bQ hr)) x hx) (fun i row q x hr hx=>hrep _ row q x (hget i row hr) hx)
      . rw [ha,hsz' i row hr];exact hfix _ row q x (hget i row hr) hx
      . rw [ha,hsz' i row hr];exact hcell _ row q x (hget i row hr) hx
     rw [hlen] at hr
     exact hr
 .rename_i b sz off len
  obtain ⟨e,he,hsz,hb,h⟩:=dI.1 h
  obtain ⟨el,inf,hu,OX,rfl⟩:=uH he
  dsimp only at hsz
  subst hsz
  obtain ⟨l,h,hl0,hl⟩:=rU (P:=P) h hlo
  obtain ⟨j,h,hj0,hj⟩:=rU (P:=P) h hhi
  obtain ⟨m,h,hm0,hm⟩:=rU (P:=P) h hmx
  obtain ⟨hlj,hjm,hml,hK⟩:=h
  have hbb:Jz.isSome=true->ZU.isSome=true:=by rw [<- hmx.isSome,<- hhi.isSome];exact hb
  cases hx with
  |lg _ _ _ a hbo=>
   obtain rfl:m=0:=by omega
   obtain rfl:j=0:=by omega
   obtain rfl:l=0:=by omega
   have hs:=pK (P:=P) (w:=w) (isS:=true) (len:=0) (cap:=0) (l:=0) (h:=0) (m:=0) (lo:=vlo) (hi:=ZU) (mx:=Jz) (dH _) (dH _) (dH _) hl0 hl (by simp) hj hm hbb
   refine ⟨_,.slice a 0 0,hK,rfl,?_,.lg b _ _ a hbo⟩
   rw [uY hu rfl]
   simp [Instr.slice,run_underlying hu,hs,sizeOf,typeInfo,OX]
  |os _ _ _ _ c o cap hbo hcap hsize=>
   have hs:=pK (P:=P) (w:=w) (isS:=true) (len:=len) (cap:=cap) (l:=l) (h:=j) (m:=m) (lo:=vlo) (hi:=ZU) (mx:=Jz) hlj hjm (by omega) hl0 hl hj0 hj hm hbb
   have hmm:(if Jz.isSome=true then m else cap)>=j:=by split<;>omega
   have hmc:(if Jz.isSome=true then m else cap)<=cap:=by split<;>omega
   by_cases e:(if Jz.isSome=true then m else cap)=l
   .have hjl:j=l:=by omega
    refine ⟨_,.slice (some ⟨c,o+off*inf.size,none⟩) 0 0,hK,rfl,?_,by rw [hjl,Nat.sub_self];exact .lg b _ _ _ (by rw [hbo];simp)⟩
    rw [uY hu rfl]
    simp only [Instr.slice,Sem.run_bind,run_underlying hu,Result.andThen_ok,hs,sizeOf,typeInfo,run_program,OX,Sem.run_pure]
    rw [if_pos e]
    simp [e,hjl]
   .refine ⟨_,.slice (some ⟨c,o+(off+l)*inf.size,none⟩) (j-l) ((if Jz.isSome=true then m else cap)-l),hK,rfl,?_,?_⟩
    .rw [uY hu rfl]
     simp only [Instr.slice,Sem.run_bind,run_underlying hu,Result.andThen_ok,hs,sizeOf,typeInfo,run_program,OX,Sem.run_pure]
     rw [if_neg e]
     simp [Addr.add_lit,bW,Nat.add_assoc]
    .obtain ⟨arr,ty,fz,h1,h2⟩:=hsize
     refine .os b _ _ _ c o _ hbo (by omega) ⟨arr,ty,fz,h1,cO (Nat.add_le_add_left (b_ _ (by omega)) o) h2⟩
 .exact h.elim
end
end Go.Fw
end
section
namespace Go.Fw
variable [iZ]
section
variable {P : Program} {base:Nat} {w:World} {E:Env} {ah:AH} {F:Nat->Prop} {K:nT->Prop}
theorem aoY (off:Nat):∀(l:List Value) (k:Nat) (arr:Array Value),off+k+l.length<=arr.size->
  ((l.zipIdx k).foldl (fun (cs:Array Value) p=>cs.setIfInBounds (off+p.2) p.1) arr).toList=arr.toList.take (off+k)++l++arr.toList.drop (off+k+l.length)
 |[],k,arr,h=>by simp
 |v::l,k,arr,h=>by
  simp only [List.zipIdx_cons,List.foldl_cons]
  rw [aoY off l (k+1) (arr.setIfInBounds (off+k) v) (by simp at h ⊢;omega)]
  simp at h
  apply List.ext_getElem?
  intro i
  simp only [Array.toList_setIfInBounds,dA,cu,List.nil_append,dD]
  have e1:(arr.toList.set (off+k) v).take (off+(k+1))=arr.toList.take (off+k)++[v]:=by
   apply List.ext_getElem?
   intro j
   rw [bM,List.getElem?_set,List.getElem?_append]
   simp only [List.length_take,Array.length_toList,bM]
   by_cases h1:j<off+k
   .have:off+k≠j:=by omega
    simp [this,h1,show j<off+(k+1) by omega,show j<min (off+k) arr.size by omega]
   .by_cases h2:j=off+k
    .subst h2
     simp [show off+k<off+(k+1) by omega,show ¬(off+k<min (off+k) arr.size) by omega,show min (off+k) arr.size=off+k by omega]
     omega
    .have:¬j<off+(k+1):=by omega
     have h3:([v]:List Value)[j-(off+k)]?=none:=by rw [bT];simp;omega
     simp [this,show ¬(j<min (off+k) arr.size) by omega,show min (off+k) arr.size=off+k by omega,h3]
     intro h4;exact absurd h4 h1
  rw [e1]
  have e2:(arr.toList.set (off+k) v).drop (off+(k+1)+l.length)=arr.toList.drop (off+k+(l.length+1)):=by
   rw [List.drop_set_of_lt (by omega)]
   congr 1;omega
  rw [e2]
  simp
theorem iT.append {az bs vs us}(h:iT w E az vs)(k:iT w E bs us):iT w E (az++bs) (vs++us):=by
 refine ⟨by simp [h.1,k.1],fun i a v ha hv=>?_⟩
 rw [List.getElem?_append] at ha hv
 rw [h.1] at ha
 split at ha
 .rename_i hlt;rw [if_pos hlt] at hv;exact h.2 i a v ha hv
 .rename_i hlt;rw [if_neg hlt] at hv;exact k.2 _ a v ha hv
theorem iT.take {az vs}(h:iT w E az vs)(n:Nat):iT w E (az.take n) (vs.take n):=by
 refine ⟨by simp [h.1],fun i a v ha hv=>?_⟩
 rw [bM] at ha hv
 split at ha
 .rename_i hlt;rw [if_pos hlt] at hv;exact h.2 i a v ha hv
 .cases ha
theorem iT.drop {az vs}(h:iT w E az vs)(n:Nat):iT w E (az.drop n) (vs.drop n):=by
 refine ⟨by simp [h.1],fun i a v ha hv=>?_⟩
 rw [List.getElem?_drop] at ha hv
 exact h.2 _ a v ha hv
theorem iT.nil : iT w E [] []:=⟨rfl,fun i a v h=>by simp at h⟩
theorem iT.cons {a v az vs}(h:Rep w E a v)(k:iT w E az vs):iT w E (a::az) (v::vs):=by
 refine ⟨by simp [k.1],fun i x y hx hy=>?_⟩
 cases i with
 |zero=>simp at hx hy;subst hx;subst hy;exact h
 |succ i=>simp at hx hy;exact k.2 i x y hx hy
theorem iT.agg {cs vs}(h:iT w E cs vs.toList)(hs:∀c∈cs,c.mP=true):Rep w E (.agg cs) (.agg vs):=
 .agg cs vs (by simpa using h.1) hs (fun i c v hc hv=>h.2 i c v hc (by simpa using hv))
theorem iT.lay {row cells cs vs:_}{off:Nat}(h:iT w E row cells)(k:iT w E cs vs):iT w E (lay row off cs) (cells.take off++vs++cells.drop (off+vs.length)):=by
 unfold Go.Fw.lay
 rw [k.1]
 exact ((h.take off).append k).append (h.drop _)
theorem JJ {place:Nat->Option (Nat×Nat)}:∀{parts:List (Nat×AV)} {rE:List (Nat×Value)} {cells:List AV} {wO:Array Value} {cs:List AV},
  uV place cells parts=some cs->parts.length=rE.length->(∀(i:Nat) (p:Nat×AV) (q:Nat×Value),parts[i]?=some p->rE[i]?=some q->p.1=q.1/\Rep w E p.2 q.2)->
  iT w E cells wO.toList->(∀c∈cells,c.mP=true)->∃vcs,Instr.fill place wO rE=some vcs/\iT w E cs vcs.toList/\∀c∈cs,c.mP=true
 |[],rE,cells,wO,cs,h,hl,hp,hc,hs=>by
  obtain rfl:rE=[]:=by cases rE<;>simp_all
  cases h
  exact ⟨wO,rfl,hc,hs⟩
 |(k,a)::parts,[],cells,wO,cs,h,hl,hp,hc,hs=>by simp at hl
 |(k,a)::parts,(k',v)::rE,cells,wO,cs,h,hl,hp,hc,hs=>by
  obtain ⟨e,hav⟩:=hp 0 _ _ rfl rfl
  dsimp only at e hav
  subst e
  simp only [uV] at h
  split at h
  .cases h
  .rename_i off size hpl
   split at h
   .cases h
   .rename_i hcond
    simp only [bC,decide_eq_true_eq,not_or,Nat.not_lt,ne_eq,Decidable.not_not,Bool.not_eq_false] at hcond
    obtain ⟨⟨hb,hsz⟩,hle⟩:=hcond
    obtain ⟨hca,hsa⟩:=hav.cells hb
    have hvs:v.cells.size=size:=by rw [<- hsz,hca.1];simp
    have hcs:cells.length=wO.size:=by simpa using hc.1
    have hfold:(v.cells.zipIdx.foldl (fun cs (c,j)=>cs.setIfInBounds (off+j) c) wO).toList=wO.toList.take off++v.cells.toList++wO.toList.drop (off+v.cells.toList.length):=by
     rw [<- Array.foldl_toList,Array.toList_zipIdx]
     have:=aoY off v.cells.toList 0 wO (by simp;omega)
     simpa using this
    obtain ⟨vcs,h1,h2,h3⟩:=JJ (wO:=v.cells.zipIdx.foldl (fun cs (c,j)=>cs.setIfInBounds (off+j) c) wO) h (by simpa using hl) (fun i p q hp' hq'=>hp (i+1) p q (by simpa using hp') (by simpa using hq'))
     (by rw [hfold];exact hc.lay hca) (fun c hc'=>by
      unfold lay at hc'
      rcases aN.1 hc' with hc' | hc'
      .rcases aN.1 hc' with hc' | hc'
       .exact hs c (bQ hc')
       .exact hsa c hc'
      .exact hs c (List.mem_of_mem_drop hc'))
    refine ⟨vcs,?_,h2,h3⟩
    simp only [Instr.fill,hpl]
    rw [if_neg]
    .exact h1
    .simp only [bC,decide_eq_true_eq,not_or,Nat.not_lt,ne_eq,Decidable.not_not]
     omega
theorem rV {t z}(h:aoH P t=some z):∃v,(zeroValue t).run P w=.ok v w/\iT w E z v.cells.toList/\∀c∈z,c.mP=true:=by
 unfold aoH at h
 simp only [aW] at h
 obtain ⟨v,⟨i,hi,hv⟩,hz⟩:=h
 obtain ⟨h1,h2⟩:=L_ (w:=w) (E:=E) hz
 exact ⟨v,by simp [zeroValue,typeInfo,hi,hv],h1,h2⟩
theorem Uz {l:List Field}{ps:List (Nat×Nat)}(h:(l.mapM fun f=>(P.info? f.type).map fun i=>(f.offset,i.size))=some ps) :
  (l.mapM fun f=>(do pure (f.offset,<- sizeOf f.type):Sem (Nat×Nat))).run P w=.ok ps w:=by
 induction l generalizing ps with
 |nil=>simp at h;subst h;simp
 |cons f l ih=>
  simp only [List.mapM_cons,Option.pure_def,Option.bind_eq_bind,aW,aB] at h
  obtain ⟨a,⟨i,hi,rfl⟩,r,hr,he⟩:=h
  cases he
  have ih':=ih hr
  simp only [sizeOf,typeInfo] at ih'
  simp [sizeOf,typeInfo,hi] at ih' ⊢
  simp [ih']
theorem Qh {t:TypeId}{parts:List (Nat×AV)}{rE:List (Nat×Value)}(h:Q8 P t parts K)(hl:parts.length=rE.length)
  (hp:∀(i:Nat) (p:Nat×AV) (q:Nat×Value),parts[i]?=some p->rE[i]?=some q->p.1=q.1/\Rep w E p.2 q.2) :
  tK P w E (Instr.build t rE.toArray) K:=by
 obtain ⟨z,hz,h⟩:=dI.1 h
 obtain ⟨pl,hpl,h⟩:=dI.1 h
 obtain ⟨cs,hcs,hK⟩:=dI.1 h
 obtain ⟨zv,UA,hzc,hzs⟩:=rV (w:=w) (E:=E) hz
 obtain ⟨vcs,hf,h1,h2⟩:=JJ hcs hl hp hzc hzs
 refine ⟨_,.agg vcs,hK,rfl,?_,h1.agg h2⟩
 unfold aoJ at hpl
 split at hpl
 .rename_i fs hu
  obtain ⟨ps,hps,rfl⟩:=aB.1 hpl
  have hm:=Uz (P:=P) (w:=w) hps
  have hm':(fs.mapM fun f=>(do pure (f.offset,<- sizeOf f.type):Sem (Nat×Nat))).run P w=.ok ps.toArray w:=by
   rw [Array.mapM_eq_mapM_toList,Sem.run_map,hm]
   rfl
  simp only [Instr.build,Sem.run_bind,UA,Result.andThen_ok,run_underlying hu,hm']
  have:(fun x:Nat=>ps.toArray[x]?)=fun k:Nat=>ps[k]?:=by funext k;simp
  simp [this,hf]
 .rename_i n e hu
  obtain ⟨i,hi,rfl⟩:=aB.1 hpl
  simp [Instr.build,UA,run_underlying hu,sizeOf,typeInfo,hi,hf]
 .cases hpl
end
end Go.Fw
end
section
namespace Go.Fw
variable [iZ]
section
variable {P : Program} {base:Nat} {w w':World} {E E':Env} {ah:AH} {F:Nat->Prop} {K:nT->Prop}
theorem RowsIn.mono {arr o sz rs}(h:RowsIn w E arr o sz rs)(hx:Ext w E w' E'):RowsIn w' E' arr o sz rs:=
 ⟨h.1,h.2.1,h.2.2.1,fun i row j x hr hj=>let ⟨v,h1,h2⟩:=h.2.2.2 i row j x hr hj;⟨v,h1,h2.mono hx⟩⟩
theorem H_.mono {es lG clock}(h:H_ w E es lG clock)(hx:Ext w E w' E'):H_ w' E' es lG clock:=
 ⟨h.1,fun i e ce h1 h2=>let ⟨a,b,c⟩:=h.2.1 i e ce h1 h2;⟨a.mono hx,b.mono hx,c⟩,h.2.2⟩
theorem rO.keep {b k}(hb:rO base w E b k)(hx:Ext w E w' E')(hheap:∀c o,E.own b=.at c o->w'.heap[c]?=w.heap[c]?)
  (hfix:∀c o off,E.own b=.at c o->E'.fix c off->E.fix c off):rO base w' E' b k:=by
 cases k with
 |rows sz rs=>
  rcases hb with ⟨h1,h2⟩|⟨c,o,arr,ty,h1,h2,h3,h4,h5⟩
  .exact .inl ⟨by rw [hx.own b (by rw [h1];simp),h1],h2⟩
  .exact .inr ⟨c,o,arr,ty,by rw [hx.own b (by rw [h1];simp),h1],h2,fun off hf=>h3 off (hfix c o off h1 hf),by rw [hheap c o h1];exact h4,h5.mono hx⟩
 |map es=>
  obtain ⟨c,lG,clock,h1,h2,h3,h4,h5⟩:=hb
  exact ⟨c,lG,clock,by rw [hx.own b (by rw [h1];simp),h1],h2,fun off hf=>h3 off (hfix c 0 off h1 hf),by rw [hheap c 0 h1];exact h4,h5.mono hx⟩
 |it m n k=>
  obtain ⟨c,cm,h1,h2,h3,h4,h5⟩:=hb
  exact ⟨c,cm,by rw [hx.own b (by rw [h1];simp),h1],h2,fun off hf=>h3 off (hfix c 0 off h1 hf),by rw [hheap c 0 h1];exact h4,by rw [hx.own m (by rw [h5];simp),h5]⟩
 |tC ty sz rs=>
  rcases hb with ⟨h1,h2⟩|⟨c,o,arr,h1,h2,h3,h4,h5⟩
  .exact .inl ⟨by rw [hx.own b (by rw [h1];simp),h1],h2⟩
  .exact .inr ⟨c,o,arr,by rw [hx.own b (by rw [h1];simp),h1],h2,fun off hf=>h3 off (hfix c o off h1 hf),by rw [hheap c o h1];exact h4,h5.1.mono hx,h5.2⟩
theorem rO.lt {b k c o}(hb:rO base w E b k)(ho:E.own b=.at c o):c<w.heap.size/\base<=c/\∀off,¬E.fix c off:=by
 cases k with
 |rows sz rs=>
  rcases hb with ⟨h1,h2⟩|⟨c',o',arr,ty,h1,h2,h3,h4,h5⟩
  .rw [h1] at ho;cases ho
  .rw [h1] at ho;cases ho;exact ⟨(bI.1 h4).1,h2,h3⟩
 |map es=>
  obtain ⟨c',lG,clock,h1,h2,h3,h4,h5⟩:=hb
  rw [h1] at ho;cases ho;exact ⟨(bI.1 h4).1,h2,h3⟩
 |it m n k=>
  obtain ⟨c',cm,h1,h2,h3,h4,h5⟩:=hb
  rw [h1] at ho;cases ho;exact ⟨(bI.1 h4).1,h2,h3⟩
 |tC ty sz rs=>
  rcases hb with ⟨h1,h2⟩|⟨c',o',arr,h1,h2,h3,h4,h5⟩
  .rw [h1] at ho;cases ho
  .rw [h1] at ho;cases ho;exact ⟨(bI.1 h4).1,h2,h3⟩
def Env.set (E:Env)(id:Nat)(o:Own):Env:={E with own:=fun b=>if b=id then o else E.own b}
theorem eH.weaken {F':Nat->Prop}(h:eH base w E ah F)(hF:∀b,F' b->F b):eH base w E ah F':=
 ⟨h.blk,h.sep,fun b hb=>h.fresh b (hF b hb),h.jO,h.bs,h.lH⟩
theorem Ag (o:Obj)(c:Nat)(h:c<w.heap.size):(w.alloc o).heap[c]?=w.heap[c]?:=RowKit.Below.heap_alloc w o c h
theorem uZ (hh:eH base w E ah F){id:Nat}(hid:F id)(o:Obj)(k:pI)
  (hk:∀w' E',Ext w E w' E'->(∀c off,E'.fix c off->E.fix c off)->E'.own id=.at w.heap.size 0->w'.heap[w.heap.size]?=some o->rO base w' E' id k) :
  Step base w E (w.alloc o) (E.set id (.at w.heap.size 0))/\eH base (w.alloc o) (E.set id (.at w.heap.size 0)) (upd ah id (some k)) (fun b=>F b/\b≠id):=by
 have hfree:=hh.fresh id hid
 have hx:Ext w E (w.alloc o) (E.set id (.at w.heap.size 0)):=by
  refine ⟨fun _ _ h=>h,fun c off h=>World.cell?_alloc_lt w o _ (hh.jO c off h),fun b hb=>?_,fun c arr ty fz h=>⟨arr,fz,?_,rfl⟩⟩
  .have:b≠id:=fun e=>hb (by rw [e];exact hfree)
   simp [Env.set,this]
  .rw [Ag o c (bI.1 h).1];exact h
 have rW:(E.set id (.at w.heap.size 0)).own id=.at w.heap.size 0:=by simp [Env.set]
 have own_ne:∀b,b≠id->(E.set id (.at w.heap.size 0)).own b=E.own b:=fun b hb=>by simp [Env.set,hb]
 refine ⟨⟨hx,(RowKit.Below.refl base w).alloc hh.bs o,fun c o' _ h=>h,fun c hc _=>Ag o c hc,fun b c o' h hc=>?_,fun _ _ h _=>.inl h⟩,?_⟩
 .by_cases e:b=id
  .subst e;rw [rW] at h;cases h;omega
  .rw [own_ne b e] at h;exact ⟨b,o',h⟩
 refine ⟨fun b k' hb=>?_,fun b b' k1 k2 c o1 c' o2 hne h1 h2 h3 h4=>?_,fun b hb=>?_,fun c off h=>?_,?_,fun b c o h=>?_⟩
 .by_cases e:b=id
  .subst e
   rw [eY rfl] at hb
   cases hb
   exact hk _ _ hx (fun _ _ h=>h) rW (heap_alloc_new w o)
  .rw [aoE e] at hb
   have hb':=hh.blk b k' hb
   exact hb'.keep hx (fun c o' ho=>Ag o c (hb'.lt ho).1) (fun _ _ _ _ h=>h)
 .by_cases e:b=id
  .subst e
   rw [aoE hne.symm] at h2
   rw [rW] at h3
   cases h3
   rw [own_ne b' hne.symm] at h4
   have:=((hh.blk b' k2 h2).lt h4).1
   omega
  .rw [aoE e] at h1
   rw [own_ne b e] at h3
   by_cases e':b'=id
   .subst e'
    rw [rW] at h4
    cases h4
    have:=((hh.blk b k1 h1).lt h3).1
    omega
   .rw [aoE e'] at h2
    rw [own_ne b' e'] at h4
    exact hh.sep b b' k1 k2 c o1 c' o2 hne h1 h2 h3 h4
 .rw [own_ne b hb.2];exact hh.fresh b hb.1
 .have:=hh.jO c off h;simp;omega
 .have:=hh.bs;simp;omega
 .by_cases e:b=id
  .subst e;rw [rW] at h;cases h;simp;exact hh.bs
  .rw [own_ne b e] at h;have:=hh.lH b c o h;simp;omega
theorem AZ (hh:eH base w E ah F){id:Nat}(hid:F id)(sz:Nat) :
  Step base w E w (E.set id .empty)/\eH base w (E.set id .empty) (upd ah id (some (.rows sz []))) (fun b=>F b/\b≠id):=by
 have hfree:=hh.fresh id hid
 have hx:Ext w E w (E.set id .empty):=by
  refine ⟨fun _ _ h=>h,fun c off h=>rfl,fun b hb=>?_,fun c arr ty fz h=>⟨arr,fz,h,rfl⟩⟩
  have:b≠id:=fun e=>hb (by rw [e];exact hfree)
  simp [Env.set,this]
 have rW:(E.set id .empty).own id=.empty:=by simp [Env.set]
 have own_ne:∀b,b≠id->(E.set id .empty).own b=E.own b:=fun b hb=>by simp [Env.set,hb]
 refine ⟨⟨hx,RowKit.Below.refl base w,fun c o' _ h=>h,fun _ _ _=>rfl,fun b c o h _=>?_,fun _ _ h _=>.inl h⟩,fun b k' hb=>?_,fun b b' k1 k2 c o1 c' o2 hne h1 h2 h3 h4=>?_,fun b hb=>?_,hh.jO,hh.bs,fun b c o h=>?_⟩
 .by_cases e:b=id
  .subst e;rw [rW] at h;cases h
  .rw [own_ne b e] at h;exact ⟨b,o,h⟩
 .by_cases e:b=id
  .subst e
   rw [eY rfl] at hb
   cases hb
   exact .inl ⟨rW,rfl⟩
  .rw [aoE e] at hb
   exact (hh.blk b k' hb).keep hx (fun _ _ _=>rfl) (fun _ _ _ _ h=>h)
 .by_cases e:b=id
  .subst e;rw [rW] at h3;cases h3
  .by_cases e':b'=id
   .subst e';rw [rW] at h4;cases h4
   .rw [aoE e] at h1;rw [own_ne b e] at h3;rw [aoE e'] at h2;rw [own_ne b' e'] at h4
    exact hh.sep b b' k1 k2 c o1 c' o2 hne h1 h2 h3 h4
 .rw [own_ne b hb.2];exact hh.fresh b hb.1
 .by_cases e:b=id
  .subst e;rw [rW] at h;cases h
  .rw [own_ne b e] at h;exact hh.lH b c o h
theorem Cj (hh:eH base w E ah F){b k c o}(hb:ah b=some k)(ho:E.own b=.at c o){arr arr':Array Value}{ty:TypeId}
  (hc:w.heap[c]?=some (.cells arr ty (0,0))) (hs:arr'.size=arr.size):Step base w E (w.setRow c arr') E:=by
 obtain ⟨hlt,hbase,hnf⟩:=(hh.blk b k hb).lt ho
 refine ⟨⟨fun _ _ h=>h,fun c' off h=>?_,fun _ _=>rfl,fun c' ar t fz h=>?_⟩,⟨rfl,rfl,rfl,by simp,fun j hj=>setRow_other w c j arr' (by omega)⟩,fun _ _ _ h=>h,fun c' _ hno=>setRow_other w c c' arr' (fun e=>hno b o (e▸ho)),fun b c o h _=>⟨b,o,h⟩,fun _ _ h _=>.inl h⟩
 .have:c'≠c:=fun e=>hnf off (e▸h)
  exact cell_setRow_other w c arr' _ this
 .by_cases e:c'=c
  .subst e
   rw [hc] at h
   cases h
   exact ⟨arr',_,setRow_heap w c' _ arr' _ _ hc,hs⟩
  .exact ⟨ar,fz,by rw [setRow_other w c c' arr' e];exact h,rfl⟩
theorem Cm (hh:eH base w E ah F){b k c o}(hb:ah b=some k)(ho:E.own b=.at c o){arr arr':Array Value}{ty:TypeId}
  (hc:w.heap[c]?=some (.cells arr ty (0,0))) (hs:arr'.size=arr.size) {sz:Nat} {rs:List (List AV)} (hr:RowsIn w E arr' o sz rs) :
  eH base (w.setRow c arr') E (upd ah b (some (.rows sz rs))) F:=by
 have st:=Cj hh hb ho hc hs
 obtain ⟨hlt,hbase,hnf⟩:=(hh.blk b k hb).lt ho
 refine ⟨fun b' k' hb'=>?_,fun b1 b2 k1 k2 c1 o1 c2 o2 hne h1 h2 h3 h4=>?_,hh.fresh,fun c' off h=>?_,by simpa using hh.bs,fun b c o h=>by simpa using hh.lH b c o h⟩
 .by_cases e:b'=b
  .subst e
   rw [eY rfl] at hb'
   cases hb'
   exact .inr ⟨c,o,arr',ty,ho,hbase,hnf,setRow_heap w c arr arr' ty _ hc,hr.mono st.ext⟩
  .rw [aoE e] at hb'
   exact (hh.blk b' k' hb').keep st.ext (fun c' o' ho'=>setRow_other w c c' arr' (fun ec=>hh.sep b' b k' k c' o' c o e hb' hb ho' ho ec)) (fun _ _ _ _ h=>h)
 .have g1:∃k,ah b1=some k:=by
   by_cases e:b1=b
   .exact ⟨k,e▸hb⟩
   .rw [aoE e] at h1;exact ⟨k1,h1⟩
  have g2:∃k,ah b2=some k:=by
   by_cases e:b2=b
   .exact ⟨k,e▸hb⟩
   .rw [aoE e] at h2;exact ⟨k2,h2⟩
  obtain ⟨q1,g1⟩:=g1
  obtain ⟨q2,g2⟩:=g2
  exact hh.sep b1 b2 q1 q2 c1 o1 c2 o2 hne g1 g2 h3 h4
 .have:=hh.jO c' off h;simpa using this
theorem eH.drop (hh:eH base w E ah F)(b:Nat):eH base w E (upd ah b none) F:=by
 have g:∀b' k,upd ah b none b'=some k->ah b'=some k:=fun b' k h=>by
  by_cases e:b'=b
  .rw [eY e] at h;cases h
  .rwa [aoE e] at h
 exact ⟨fun b' k h=>hh.blk b' k (g b' k h),fun b1 b2 k1 k2 c1 o1 c2 o2 hne h1 h2=>hh.sep b1 b2 k1 k2 c1 o1 c2 o2 hne (g _ _ h1) (g _ _ h2),hh.fresh,hh.jO,hh.bs,hh.lH⟩
theorem eH.rename (hh:eH base w E ah F){b id sz rs c o o'}{arr:Array Value}{ty:TypeId}(hb:ah b=some (.rows sz rs))(ho:E.own b=.at c o)(hid:F id)
  (hc:w.heap[c]?=some (.cells arr ty (0,0))) {rs':List (List AV)} {sz':Nat} (hr:RowsIn w E arr o' sz' rs') :
  Step base w E w (E.set id (.at c o'))/\eH base w (E.set id (.at c o')) (upd (upd ah b none) id (some (.rows sz' rs'))) (fun b=>F b/\b≠id):=by
 have hfree:=hh.fresh id hid
 obtain ⟨hlt,hbase,hnf⟩:=(hh.blk b _ hb).lt ho
 have amv:b≠id:=fun e=>by rw [e,hfree] at ho;cases ho
 have hx:Ext w E w (E.set id (.at c o')):=by
  refine ⟨fun _ _ h=>h,fun c off h=>rfl,fun b hb=>?_,fun c arr ty fz h=>⟨arr,fz,h,rfl⟩⟩
  have:b≠id:=fun e=>hb (by rw [e];exact hfree)
  simp [Env.set,this]
 have rW:(E.set id (.at c o')).own id=.at c o':=by simp [Env.set]
 have own_ne:∀b,b≠id->(E.set id (.at c o')).own b=E.own b:=fun b hb=>by simp [Env.set,hb]
 have g:∀b' k,b'≠id->upd (upd ah b none) id (some (.rows sz' rs')) b'=some k->ah b'=some k/\b'≠b:=fun b' k hne h=>by
  rw [aoE hne] at h
  by_cases e:b'=b
  .rw [eY e] at h;cases h
  .rw [aoE e] at h;exact ⟨h,e⟩
 refine ⟨⟨hx,RowKit.Below.refl base w,fun c o' _ h=>h,fun _ _ _=>rfl,fun b1 c1 o1 h _=>?_,fun _ _ h _=>.inl h⟩,fun b' k' hb'=>?_,fun b1 b2 k1 k2 c1 o1 c2 o2 hne h1 h2 h3 h4=>?_,fun b hb=>?_,hh.jO,hh.bs,fun b1 c1 o1 h=>?_⟩
 .by_cases e:b1=id
  .subst e;rw [rW] at h;cases h;exact ⟨b,o,ho⟩
  .rw [own_ne b1 e] at h;exact ⟨b1,o1,h⟩
 .by_cases e:b'=id
  .subst e
   rw [eY rfl] at hb'
   cases hb'
   exact .inr ⟨c,o',arr,ty,rW,hbase,hnf,hc,hr.mono hx⟩
  .exact (hh.blk b' k' (g b' k' e hb').1).keep hx (fun _ _ _=>rfl) (fun _ _ _ _ h=>h)
 .by_cases e:b1=id
  .subst e
   have e2:b2≠b1:=hne.symm
   obtain ⟨h2,hnb⟩:=g b2 k2 e2 h2
   rw [rW] at h3;cases h3
   rw [own_ne b2 e2] at h4
   exact hh.sep b b2 _ k2 _ o _ o2 hnb.symm hb h2 ho h4
  .obtain ⟨h1',hnb⟩:=g b1 k1 e h1
   rw [own_ne b1 e] at h3
   by_cases e':b2=id
   .subst e'
    rw [rW] at h4;cases h4
    exact hh.sep b1 b k1 _ _ o1 _ o hnb h1' hb h3 ho
   .obtain ⟨h2,hnb'⟩:=g b2 k2 e' h2
    rw [own_ne b2 e'] at h4
    exact hh.sep b1 b2 k1 k2 c1 o1 c2 o2 hne h1' h2 h3 h4
 .rw [own_ne b hb.2];exact hh.fresh b hb.1
 .by_cases e:b1=id
  .subst e;rw [rW] at h;cases h;exact ⟨hbase,hlt⟩
  .rw [own_ne b1 e] at h;exact hh.lH b1 c1 o1 h
theorem RowsIn.of_cells {arr:Array Value}{sz:Nat}{rows:List (List AV)}(hlen:∀row∈rows,row.length=sz)(hs:∀row∈rows,∀x∈row,x.mP=true){vs:List Value}
  (hr:iT w E rows.flatten vs) (o:Nat) (hle:o+vs.length<=arr.size) (hc:∀(i:Nat) (v:Value),vs[i]?=some v->arr[o+i]?=some v):RowsIn w E arr o sz rows:=by
 have hfl:rows.flatten.length=rows.length*sz:=by
  clear hr hle hc hs
  induction rows with
  |nil=>simp
  |cons r rows ih=>
   have:=ih (fun row h=>hlen row (by simp [h]))
   simp only [List.flatten_cons,bK,this,hlen r (by simp),dD,bW];omega
 have hget:∀(i:Nat) (row:List AV) (j:Nat) (x:AV),rows[i]?=some row->row[j]?=some x->rows.flatten[i*sz+j]?=some x:=by
  clear hr hle hc hs hfl
  induction rows with
  |nil=>intro i row j x h;simp at h
  |cons r rows ih=>
   intro i row j x hi hj
   have hl:=hlen r (by simp)
   cases i with
   |zero=>
    simp at hi;subst hi
    have hlt:=(aG.1 hj).1
    simp only [List.flatten_cons,Nat.zero_mul,Nat.zero_add]
    rw [bF hlt];exact hj
   |succ i=>
    simp at hi
    have:=ih (fun row h=>hlen row (by simp [h])) i row j x hi hj
    simp only [List.flatten_cons]
    rw [bP (by rw [hl,bW];omega),hl]
    rw [show (i+1)*sz+j-sz=i*sz+j by rw [bW];omega]
    exact this
 have hvl:vs.length=rows.length*sz:=by rw [<- hr.1,hfl]
 refine ⟨by omega,fun i row h=>hlen row (aK h),hs,fun i row j x hi hj=>?_⟩
 have hx:=hget i row j x hi hj
 have hlt:=(aG.1 hx).1
 rw [hr.1] at hlt
 refine ⟨vs[i*sz+j],?_,hr.2 _ x _ hx (by simp [hlt])⟩
 rw [Nat.add_assoc]
 exact hc _ _ (by simp [hlt])
end
end Go.Fw
end
section
namespace Go.Fw
variable [iZ]
section
variable {P : Program} {base:Nat} {w w':World} {E E':Env} {ah:AH} {F:Nat->Prop} {K:nT->Prop} {id:Nat}
def Eo (P:Program)(base:Nat)(w:World)(E:Env)(ah:AH)(F:Nat->Prop)(id:Nat)(s:Sem Value)(K:nT->Prop):Prop:=
 ∃r v w' E',K r/\s.run P w=.ok v w'/\Step base w E w' E'/\eH base w' E' (lJ ah r.wr) (fun b=>F b/\b≠id)/\Rep w' E' r.v v
theorem tK.wr {s}(hh:eH base w E ah F)(h:tK P w E s K):Eo P base w E ah F id s K:=by
 obtain ⟨r,v,hK,hw,hr,hv⟩:=h
 exact ⟨r,v,w,E,hK,hr,Step.refl _ _ _,by rw [hw];exact hh.weaken (fun b h=>h.1),hv⟩
theorem RowsIn.one {cs:List AV}{vs:Array Value}(h:iT w E cs vs.toList)(hs:∀c∈cs,c.mP=true):RowsIn w E vs 0 cs.length [cs]:=
 RowsIn.of_cells (by simp) (by simpa using hs) (vs:=vs.toList) (by simpa using h) 0 (by simp) (fun i v hv=>by simpa using hv)
theorem Ri (hh:eH base w E ah F)(hid:F id)(ty:TypeId){cs:List AV}{vs:Array Value}(h:iT w E cs vs.toList)(hs:∀c∈cs,c.mP=true) :
  ∃w' E',w'=w.alloc (.cells vs ty)/\Step base w E w' E'/\eH base w' E' (upd ah id (some (.rows cs.length [cs]))) (fun b=>F b/\b≠id)/\
   Rep w' E' (.op id cs.length 0 0) (.pointer (some ⟨w.heap.size,0,none⟩)):=by
 obtain ⟨h1,h2⟩:=uZ hh hid (.cells vs ty) (.rows cs.length [cs]) (fun w' E' hx hfix ho hn=>
  .inr ⟨w.heap.size,0,vs,ty,ho,hh.bs,fun off hf=>by have:=hh.jO _ _ (hfix _ _ hf);omega,hn,(RowsIn.one h hs).mono hx⟩)
 exact ⟨_,_,rfl,h1,h2,by simpa using Rep.op (w:=w.alloc (.cells vs ty)) (E:=E.set id (.at w.heap.size 0)) id cs.length 0 0 w.heap.size 0 (by simp [Env.set])⟩
theorem aem (hh:eH base w E ah F)(hid:F id){x vx}(ty:TypeId)(h:aiu id x K)(hx:Rep w E x vx):Eo P base w E ah F id (Instr.box ty vx) K:=by
 obtain ⟨hb,hK⟩:=h
 obtain ⟨hc,hs⟩:=hx.cells hb
 obtain ⟨w',E',rfl,h1,h2,h3⟩:=Ri hh hid ty hc hs
 exact ⟨_,_,_,E',hK,by simp [Instr.box,newVar,newRow],h1,h2,h3⟩
theorem Qi {α:Type}:∀l:List α,(l.map fun x=>[x]).flatten=l
 |[]=>rfl
 |x::r=>by rw [bg,List.flatten_cons,Qi r];rfl
theorem ZV (hh:eH base w E ah F)(hid:F id){t:TypeId}(h:Q_ P t id K):Eo P base w E ah F id (Instr.alloc t true (.tuple #[])) K:=by
 rcases h with h|h
 rotate_left
 .obtain ⟨z,hz,ha,hK⟩:=dI.1 h
  obtain ⟨zv,hr,hc,hs⟩:=rV (w:=w) (E:=E) hz
  have hl:z.length=zv.cells.size:=by simpa using hc.1
  have hrows:RowsIn w E zv.cells 0 z.length [z]:=by
   refine RowsIn.of_cells (vs:=zv.cells.toList) (fun row hrow=>by rw [bZ.1 hrow]) (fun row hrow x hx=>by rw [bZ.1 hrow] at hx;exact hs x hx) (by simpa using hc) 0 ?_ (fun i v hv=>by simpa using hv)
   simp
  obtain ⟨h1,h2⟩:=uZ hh hid (.cells zv.cells t) (.tC t z.length [z]) (fun w' E' hx hfix ho hn=>
   .inr ⟨w.heap.size,0,zv.cells,ho,hh.bs,fun off hf=>by have:=hh.jO _ _ (hfix _ _ hf);omega,hn,hrows.mono hx,rfl,.inr (by simp [hl])⟩)
  refine ⟨_,.pointer (some ⟨w.heap.size,0,none⟩),_,_,hK,by simp [Instr.alloc,hr,newVar,newRow],h1,h2,?_⟩
  simpa using Rep.op (w:=w.alloc (.cells zv.cells t)) (E:=E.set id (.at w.heap.size 0)) id z.length 0 0 w.heap.size 0 (by simp [Env.set])
 obtain ⟨z,hz,hK⟩:=dI.1 h
 obtain ⟨zv,hr,hc,hs⟩:=rV (w:=w) (E:=E) hz
 cases ha:ao6 P t with
 |false=>
  rw [ha] at hK
  obtain ⟨w',E',rfl,h1,h2,h3⟩:=Ri hh hid t hc hs
  exact ⟨_,_,_,E',hK,by simp [Instr.alloc,hr,newVar,newRow],h1,h2,h3⟩
 |true=>
  rw [ha] at hK
  have hrows:RowsIn w E zv.cells 0 1 (z.map fun x=>[x]):=by
   have hfl:(z.map fun x=>[x]).flatten=z:=Qi z
   refine RowsIn.of_cells (vs:=zv.cells.toList) (fun row hrow=>?_) (fun row hrow x hx=>?_) (by rw [hfl];exact hc) 0 ?_ (fun i v hv=>by simpa using hv)
   .obtain ⟨x,-,rfl⟩:=aX.1 hrow;rfl
   .obtain ⟨y,hy,rfl⟩:=aX.1 hrow
    obtain rfl:=bZ.1 hx
    exact hs _ hy
   .have h0:z.length=zv.cells.size:=by simpa using hc.1
    simp
  obtain ⟨h1,h2⟩:=uZ hh hid (.cells zv.cells t) (.rows 1 (z.map fun x=>[x])) (fun w' E' hx hfix ho hn=>
   .inr ⟨w.heap.size,0,zv.cells,t,ho,hh.bs,fun off hf=>by have:=hh.jO _ _ (hfix _ _ hf);omega,hn,hrows.mono hx⟩)
  refine ⟨_,.pointer (some ⟨w.heap.size,0,none⟩),_,_,hK,by simp [Instr.alloc,hr,newVar,newRow],h1,h2,?_⟩
  simpa using Rep.op (w:=w.alloc (.cells zv.cells t)) (E:=E.set id (.at w.heap.size 0)) id 1 0 0 w.heap.size 0 (by simp [Env.set])
theorem wK (z:List AV):∀(n i:Nat),i<n*z.length->(List.replicate n z).flatten[i]?=z[i % z.length]?
 |0,i,h=>by simp at h
 |n+1,i,h=>by
  rw [List.replicate_succ,List.flatten_cons,List.getElem?_append]
  split
  .rename_i hlt;rw [Nat.mod_eq_of_lt hlt]
  .rename_i hlt
   rw [wK z n (i-z.length) (by rw [bW] at h;omega)]
   rw [<- Nat.mod_eq_sub_mod (by omega)]
theorem JK {z:List AV}{zv:Array Value}(h:iT w E z zv.toList)(n:Nat) :
  iT w E (List.replicate n z).flatten ((Array.range (n*z.length)).map (fun i=>zv[i % zv.size]!)).toList:=by
 have hl:zv.size=z.length:=by simpa using h.1.symm
 refine ⟨by simp,fun i a v ha hv=>?_⟩
 have hlt:i<n*z.length:=by have:=(aG.1 ha).1;simpa using this
 rw [wK z n i hlt] at ha
 have hz:0<z.length:=by rcases Nat.eq_zero_or_pos z.length with e|e;(rw [e] at hlt;simp at hlt);exact e
 have hm:i % z.length<z.length:=Nat.mod_lt _ hz
 refine h.2 (i % z.length) a v ha ?_
 simp [hlt,hl] at hv
 rw [<- hv]
 simp [hl,hm]
theorem aoT (n:Nat):∀(k:Nat) (l:List AV),l.length=k*n->(aoS n k l).flatten=l/\∀row∈aoS n k l,row.length=n
 |0,l,h=>by simp at h;simp [aoS,h]
 |k+1,l,h=>by
  have hn:n<=l.length:=by rw [h,bW];omega
  obtain ⟨h1,h2⟩:=aoT n k (l.drop n) (by simp [h,bW])
  refine ⟨by simp [aoS,h1],fun row hr=>?_⟩
  simp only [aoS,bH] at hr
  rcases hr with rfl|hr
  .simp [hn]
  .exact h2 row hr
theorem Ih {place:Nat->Option (Nat×Nat)}:∀{parts:List (Nat×AV)} {cells cs:List AV},uV place cells parts=some cs->cs.length=cells.length
 |[],cells,cs,h=>by cases h;rfl
 |(k,a)::parts,cells,cs,h=>by
  simp only [uV] at h
  split at h
  .cases h
  .split at h
   .cases h
   .rename_i hc
    simp only [bC,decide_eq_true_eq,not_or,Nat.not_lt,ne_eq,Decidable.not_not,Bool.not_eq_false] at hc
    rw [Ih h]
    simp [lay];omega
theorem Me (hh:eH base w E ah F)(hid:F id){t:TypeId}{len:Nat}{parts:List (Nat×AV)}{rE:List (Nat×Value)}(h:pO P t id len parts K)(hl:parts.length=rE.length)
  (hp:∀(i:Nat) (p:Nat×AV) (q:Nat×Value),parts[i]?=some p->rE[i]?=some q->p.1=q.1/\Rep w E p.2 q.2) :
  Eo P base w E ah F id (Instr.buildSlice t len rE.toArray) K:=by
 unfold pO at h
 split at h
 .rename_i e hu
  obtain ⟨inf,hi,h⟩:=dI.1 h
  obtain ⟨z,hz,hzl,hle,h⟩:=dI.1 h
  obtain ⟨cs,hcs,hK⟩:=dI.1 h
  obtain ⟨zv,UA,hzc,hzs⟩:=rV (w:=w) (E:=E) hz
  have CB:=JK hzc len
  rw [hzl] at CB
  obtain ⟨vcs,hf,h1,h2⟩:=JJ hcs hl hp CB (fun c hc=>by
   obtain ⟨l,hl,hc⟩:=List.mem_flatten.1 hc
   obtain ⟨-,e⟩:=List.mem_replicate.1 hl
   rw [e] at hc
   exact hzs c hc)
  have hcl:cs.length=len*inf.size:=by rw [Ih hcs];simp [hzl]
  obtain ⟨aiv,aks⟩:=aoT inf.size len cs hcl
  have hvs:vcs.size=len*inf.size:=by rw [<- hcl,h1.1];simp
  obtain ⟨g1,g2⟩:=uZ hh hid (.cells vcs e) (.rows inf.size (aoS inf.size len cs)) (fun w' E' hx hfix ho hn=>
   .inr ⟨w.heap.size,0,vcs,e,ho,hh.bs,fun off hf=>by have:=hh.jO _ _ (hfix _ _ hf);omega,hn,
    (RowsIn.of_cells aks (fun row hr x hx=>h2 x (by rw [<- aiv];exact List.mem_flatten.2 ⟨row,hr,hx⟩)) (vs:=vcs.toList) (by rw [aiv];exact h1) 0 (by simp) (fun i v hv=>by simpa using hv)).mono hx⟩)
  refine ⟨_,.slice (some ⟨w.heap.size,0,none⟩) len len,_,_,hK,?_,g1,g2,?_⟩
  .have hnl:¬(len*inf.size > 2 ^ 24):=by omega
   by_cases h0:len*inf.size=0
   .have e0:∀f:Nat->Value,Array.map f (Array.range 0)=#[]:=fun f=>by apply Array.ext<;>simp
    rw [h0,e0] at hf
    simp only [Instr.buildSlice,Sem.run_bind,run_underlying hu,Result.andThen_ok,sizeOf,typeInfo,run_program,hi,Sem.run_pure,hnl,if_false,h0,if_true,e0,hf,newRow,run_newObj]
    rfl
   .simp only [Instr.buildSlice,Sem.run_bind,run_underlying hu,Result.andThen_ok,sizeOf,typeInfo,run_program,hi,Sem.run_pure,hnl,if_false,h0,UA,hf,newRow,run_newObj]
    rfl
  .have:=Rep.os (w:=w.alloc (.cells vcs e)) (E:=E.set id (.at w.heap.size 0)) id inf.size 0 len w.heap.size 0 len (by simp [Env.set]) ⟨dH _,by omega⟩ ⟨vcs,e,_,heap_alloc_new w _,by rw [hvs];simp⟩
   simpa using this
 .exact h.elim
theorem Rep.GR {w:World}{E:Env}{a:AV}{v:Value}(h:Rep w E a v):Rep w E (GR a) v:=by
 unfold Go.Fw.GR
 split
 .cases h with
  |slnil f a=>exact .slnil _ _
  |sl _ _ sz c o cap g h1 h2 h3 h4 h5 h6 h7=>exact .sl [] false sz c o cap g h1 (fun e=>by cases e) h3 h4 h5 h6 h7
 .exact h
theorem ZW {a:AV}(h:a.mP=true):(GR a).mP=true:=by
 unfold GR
 split
 .rfl
 .exact h
theorem iT.GR {w:World}{E:Env}{l:List AV}{vs:List Value}(h:iT w E l vs):iT w E (l.map GR) vs:=by
 refine ⟨by rw [dB];exact h.1,fun i a v ha hv=>?_⟩
 rw [bV] at ha
 obtain ⟨b,hb,rfl⟩:=aB.1 ha
 exact (h.2 i b v hb hv).GR
theorem OY (hh:eH base w E ah F)(hid:F id){t:TypeId}{l c:AV}{vl vc:Value}(h:rQ P t id l c K)(hl:Rep w E l vl)(hc:Rep w E c vc) :
  Eo P base w E ah F id (Instr.makeSlice t vl vc) K:=by
 unfold rQ at h
 split at h
 .rename_i e kl l kc c hu
  obtain rfl:=hl.gV
  obtain rfl:=hc.gV
  obtain ⟨inf,hi,h⟩:=dI.1 h
  obtain ⟨z,hz,hzl,hl0,hlc,hcb,hby,hK⟩:=dI.1 h
  obtain ⟨zv,UA,hzc,hzs⟩:=rV (w:=w) (E:=E) hz
  have hzv:zv.cells.size=inf.size:=by rw [<- hzl,hzc.1];simp
  have hzc:=hzc.GR
  have hzs:∀x∈z.map GR,x.mP=true:=fun x hx=>by obtain ⟨y,hy,rfl⟩:=aX.1 hx;exact ZW (hzs y hy)
  have hzl:(z.map GR).length=inf.size:=by rw [dB];exact hzl
  generalize z.map GR=z at hK hzc hzs hzl
  have CB:=JK hzc l.toNat
  rw [hzl] at CB
  have wl:IntKind.i64.wrap l=l:=by apply IntWalk.i64_in<;>omega
  have wc:IntKind.i64.wrap c=c:=by apply IntWalk.i64_in<;>omega
  have big:∀n:Int,0<=n->n<=4294967296->¬((inf.bytes:Int)*n > 2 ^ 48):=fun n h0 h1=>by
   have:(inf.bytes:Int)*n<=4096*4294967296:=Int.mul_le_mul (by omega) h1 h0 (by omega)
   omega
  obtain ⟨arr,harr⟩:∃arr,arr=(Array.range (c.toNat*inf.size)).map (fun i=>zv.cells[i % zv.cells.size]!):=⟨_,rfl⟩
  have hrows:RowsIn w E arr 0 inf.size (List.replicate l.toNat z):=by
   refine RowsIn.of_cells (fun row hr=>by rw [(List.mem_replicate.1 hr).2];exact hzl) (fun row hr x hx=>hzs x (by rw [(List.mem_replicate.1 hr).2] at hx;exact hx)) CB 0 ?_ (fun i v hv=>?_)
   .rw [harr];simp;exact b_ _ (by omega)
   .have hlt:i<l.toNat*inf.size:=by have:=(aG.1 hv).1;simpa using this
    have hlt2:i<c.toNat*inf.size:=cZ hlt (b_ _ (by omega))
    rw [harr]
    simp [hlt] at hv
    simp [hlt2,hv]
  obtain ⟨g1,g2⟩:=uZ hh hid (.cells arr e) (.rows inf.size (List.replicate l.toNat z)) (fun w' E' hx hfix ho hn=>
   .inr ⟨w.heap.size,0,arr,e,ho,hh.bs,fun off hf=>by have:=hh.jO _ _ (hfix _ _ hf);omega,hn,hrows.mono hx⟩)
  refine ⟨_,.slice (some ⟨w.heap.size,0,none⟩) l.toNat c.toNat,_,_,hK,?_,g1,g2,?_⟩
  .have t1:(decide (c<0)||decide ((inf.bytes:Int)*c > 2 ^ 48))=false:=by
    rw [aU];exact ⟨by simp;omega,decide_eq_false (big c (by omega) hcb)⟩
   have t3:decide (l<0)=false:=by simp;omega
   have t4:decide (l > c)=false:=by simp;omega
   have hcond:((c<0||(inf.bytes:Int)*c > 2 ^ 48)||l<0||l > c)=false:=by
    simp only [t1,t3,t4,Bool.or_self]
   simp only [Instr.makeSlice,asInt,asIntOf,Sem.run_bind,run_underlying hu,Result.andThen_ok,typeInfo,run_program,hi,Sem.run_pure,wl,wc,hcond,aV,if_false,run_askRoom,sizeOf]
   by_cases h0:c.toNat*inf.size=0
   .have e0:∀f:Nat->Value,Array.map f (Array.range 0)=#[]:=fun f=>by apply Array.ext<;>simp
    rw [h0,e0] at harr
    subst harr
    simp only [h0,if_true,Sem.run_pure,Result.andThen_ok,e0,newRow,Sem.run_bind,run_newObj]
    rfl
   .simp only [h0,if_false,Sem.run_bind,UA,Result.andThen_ok,Sem.run_pure,newRow,run_newObj,<- harr]
    rfl
  .have:=Rep.os (w:=w.alloc (.cells arr e)) (E:=E.set id (.at w.heap.size 0)) id inf.size 0 l.toNat w.heap.size 0 c.toNat (by simp [Env.set]) (by omega) ⟨arr,e,_,heap_alloc_new w _,by rw [harr];simp⟩
   simpa using this
 .exact h.elim
theorem Rep.MB {b sz i off v}(h:Rep w E (.op b sz i off) v):∃c o,v=.pointer (some ⟨c,o+i*sz+off,none⟩)/\E.own b=.at c o:=by
 cases h with|op _ _ _ _ c o hb=>exact ⟨c,o,rfl,hb⟩
theorem MC {row cs:List AV}{off:Nat}(h:off+cs.length<=row.length):(lay row off cs).length=row.length:=by simp [lay];omega
theorem abw {row cs:List AV}{off:Nat}(h1:∀x∈row,x.mP=true)(h2:∀x∈cs,x.mP=true):∀x∈lay row off cs,x.mP=true:=by
 intro x hx
 unfold lay at hx
 rcases aN.1 hx with hx|hx
 .rcases aN.1 hx with hx|hx
  .exact h1 x (bQ hx)
  .exact h2 x hx
 .exact h1 x (List.mem_of_mem_drop hx)
theorem aen {row cs:List AV}{off j:Nat}(h:off+cs.length<=row.length):(lay row off cs)[j]?=if off<=j/\j<off+cs.length then cs[j-off]? else row[j]?:=by
 unfold lay
 have hm:min off row.length=off:=by omega
 by_cases h1:j<off
 .rw [dA,bF (by simp;omega)]
  rw [if_neg (by omega),bM,if_pos h1]
 .by_cases h2:j<off+cs.length
  .rw [if_pos (by omega),bF (by simp;omega),bP (by simp;omega)]
   simp [hm]
  .rw [if_neg (by omega),bP (by simp;omega)]
   simp [hm]
   congr 1;omega
theorem Rj {arr:Array Value}{off:Nat}{vs:List Value}(h:off+vs.length<=arr.size)(j:Nat) :
  (arr.toList.take off++vs++arr.toList.drop (off+vs.length)).toArray[j]?=if off<=j/\j<off+vs.length then vs[j-off]? else arr[j]?:=by
 have hm:min off arr.size=off:=by omega
 by_cases h1:j<off
 .rw [if_neg (by omega)]
  simp only [List.getElem?_toArray]
  rw [dA,bF (by simp;omega),bM,if_pos h1]
  simp
 .by_cases h2:j<off+vs.length
  .rw [if_pos (by omega)]
   simp only [List.getElem?_toArray]
   rw [bF (by simp;omega),bP (by simp;omega)]
   simp [hm]
  .rw [if_neg (by omega)]
   simp only [List.getElem?_toArray]
   rw [bP (by simp;omega)]
   simp [hm]
   rw [show off+vs.length+(j-(off+vs.length))=j by omega]
theorem MF (hh:eH base w E ah F){t:TypeId}{a v:AV}{va vv:Value}(h:Ad P ah t a v K)(ha:Rep w E a va)(hv:Rep w E v vv)(hR:∀b sz i off,a=.op b sz i off->∃sz' rs,ah b=some (.rows sz' rs)) :
  ∃r w',K r/\(Instr.storeAt t va vv).run P w=.ok () w'/\Step base w E w' E/\eH base w' E (lJ ah r.wr) F/\r.v=.p undef/\∀c,(∀b,(∃k,ah b=some k)->(∃k,(b,k)∈r.wr)->∀o,E.own b≠.at c o)->w'.heap[c]?=w.heap[c]?:=by
 obtain ⟨ty,hty,h⟩:=dI.1 h
 cases a with
 |op b sz i off=>
  dsimp only at h
  obtain ⟨c,o,rfl,hb⟩:=ha.MB
  split at h
  .rename_i sz' rs hab
   obtain ⟨rfl,hbx,hlen,h⟩:=h
   obtain ⟨row,hrow,hle,hK⟩:=dI.1 h
   obtain ⟨hc,hs⟩:=hv.cells hbx
   have hone:∀u∈vv.cells.toList,u.oneCell'=true:=fun u hu=>by
    obtain ⟨j,hj⟩:=bJ.1 hu
    have hlt:=(aG.1 hj).1
    rw [<- hc.1] at hlt
    exact (hc.2 j v.cells[j] u (by simp [hlt]) hj).one (hs _ (by simp))
   rcases hh.blk b _ hab with ⟨_,h0⟩|⟨c',o',arr,tt,h1,h2,h3,h4,h5⟩
   .rw [h0] at hrow;simp at hrow
   .rw [hb] at h1
    cases h1
    have hilt:i<rs.length:=(aG.1 hrow).1
    have hrl:=h5.2.1 i row hrow
    have hvl:vv.cells.toList.length=ty.2:=by rw [<- hc.1];exact hlen
    have hmul:(i+1)*sz<=rs.length*sz:=b_ _ (by omega)
    rw [bW] at hmul
    have hfit:o+i*sz+off+vv.cells.toList.length<=arr.size:=by have:=h5.1;omega
    have hst:=run_storeCells_at P c (o+i*sz+off) tt vv.cells.toList 0 arr w h4 (by simpa using hfit) hone
    simp only [Nat.add_zero] at hst
    obtain ⟨arr',harr⟩:∃arr',arr'=(arr.toList.take (o+i*sz+off)++vv.cells.toList++arr.toList.drop (o+i*sz+off+vv.cells.toList.length)).toArray:=⟨_,rfl⟩
    rw [<- harr] at hst
    have hsz:arr'.size=arr.size:=by rw [harr];simp at hfit ⊢;omega
    have hget:=Rj hfit
    rw [<- harr] at hget
    have hrows:RowsIn w E arr' o sz (rs.set i (lay row off v.cells)):=by
     refine ⟨by rw [hsz];simpa using h5.1,fun q r hq=>?_,fun r hr=>?_,fun q r j x hq hj=>?_⟩
     .rw [List.getElem?_set] at hq
      split at hq
      .rename_i e;subst e
       simp [hilt] at hq;subst hq
       rw [MC (by omega)];exact hrl
      .exact h5.2.1 q r hq
     .rcases List.mem_or_eq_of_mem_set hr with hr|rfl
      .exact h5.2.2.1 r hr
      .exact abw (h5.2.2.1 row (aK hrow)) hs
     .rw [List.getElem?_set] at hq
      split at hq
      .rename_i e;subst e
       simp [hilt] at hq;subst hq
       rw [aen (by omega)] at hj
       split at hj
       .rename_i hin
        have hlt:=(aG.1 hj).1
        rw [hc.1] at hlt
        refine ⟨vv.cells.toList[j-off],?_,hc.2 (j-off) x _ hj (by simp [hlt])⟩
        rw [hget,if_pos (by omega)]
        rw [show o+i*sz+j-(o+i*sz+off)=j-off by omega]
        simp [hlt]
       .rename_i hin
        obtain ⟨u,hu,hr⟩:=h5.2.2.2 i row j x hrow hj
        refine ⟨u,?_,hr⟩
        rw [hget,if_neg (by omega)]
        exact hu
      .rename_i hne
       obtain ⟨u,hu,hr⟩:=h5.2.2.2 q r j x hq hj
       refine ⟨u,?_,hr⟩
       have hjl:=(aG.1 hj).1
       rw [h5.2.1 q r hq] at hjl
       rw [hget,if_neg]
       .exact hu
       .rcases Nat.lt_or_gt_of_ne hne with hlt|hlt
        .have:(i+1)*sz<=q*sz:=b_ _ (by omega)
         rw [bW] at this
         omega
        .have:(q+1)*sz<=i*sz:=b_ _ (by omega)
         rw [bW] at this
         omega
    obtain ⟨-,hsize,-⟩:=xH hty w
    refine ⟨_,_,hK,?_,Cj hh hab hb h4 hsz,Cm hh hab hb h4 hsz hrows,rfl,fun c1 hc1=>setRow_other w c c1 arr' (fun e=>hc1 b ⟨_,hab⟩ ⟨_,bZ.2 rfl⟩ o (e▸hb))⟩
    have:vv.cells.size=ty.2:=by simpa using hvl
    simp only [Instr.storeAt,Instr.sureAddr,Sem.run_bind,Sem.run_pure,Result.andThen_ok,storeVar,hsize,this,ne_eq,not_true_eq_false,if_false,hst]
  .rename_i te sz' rs hab
   obtain ⟨z1,z2,z3⟩:=hR b sz i off rfl
   rw [hab] at z3;cases z3
  .exact h.elim
 |_=>exact h.elim
theorem MG (hh:eH base w E ah F){t:TypeId}{a v:AV}{va vv:Value}(h:Ad P ah t a v K)(ha:Rep w E a va)(hv:Rep w E v vv) :
  ∃r w',K r/\(Instr.storeAt t va vv).run P w=.ok () w'/\Step base w E w' E/\eH base w' E (lJ ah r.wr) F/\r.v=.p undef/\∀c,(∀b,(∃k,ah b=some k)->(∃k,(b,k)∈r.wr)->∀o,E.own b≠.at c o)->w'.heap[c]?=w.heap[c]?:=by
 by_cases hR:∃b sz i off te sz' rs,a=.op b sz i off/\ah b=some (.tC te sz' rs)
 .obtain ⟨b,sz,i,off,te,sz',rs,rfl,hab⟩:=hR
  obtain ⟨ty,hty,h⟩:=dI.1 h
  dsimp only at h
  rw [hab] at h
  obtain ⟨rfl,hbx,hlen,h⟩:=h
  obtain ⟨row,hrow,hle,hK⟩:=dI.1 h
  obtain ⟨q1,q2,q3⟩:=GV base w E b (hh.blk b _ hab)
  have hh1:=hh.Em hab q1
  have h1:Ad P (upd ah b (some (.rows sz rs))) t (.op b sz i off) v (fun r=>r=⟨.p undef,[(b,some (.rows sz (rs.set i (lay row off v.cells))))],[b]⟩):=by
   refine dI.2 ⟨ty,hty,?_⟩
   dsimp only
   rw [eY rfl]
   exact ⟨rfl,hbx,hlen,dI.2 ⟨row,hrow,hle,rfl⟩⟩
  obtain ⟨r,w',rfl,h2,h3,h4,h5,h6⟩:=MF hh1 h1 ha hv (fun b' YK i' off' e=>by cases e;exact ⟨_,_,eY rfl⟩)
  refine ⟨_,w',hK,h2,h3,?_,rfl,fun c hc=>h6 c fun b' hb' hw=>hc b' ?_ ?_⟩
  .simp only [lJ,zK] at h4 ⊢
   have hb:upd ah b (some (pI.rows sz (rs.set i (lay row off v.cells)))) b=some (.rows sz (rs.set i (lay row off v.cells))):=eY rfl
   have:=h4.Em hb (GX base w' E b (h4.blk b _ hb) (q2.ext h3.ext rfl) (q3.imp id fun q3=>by rw [List.length_set];exact q3.ext h3.ext rfl))
   simpa [zK] using this
  .obtain ⟨k,hk⟩:=hb'
   by_cases e:b'=b
   .exact ⟨_,e▸hab⟩
   .rw [aoE e] at hk;exact ⟨k,hk⟩
  .obtain ⟨k,hk⟩:=hw
   simp only [bZ,aO] at hk
   exact ⟨_,by rw [hk.1];exact bZ.2 rfl⟩
 .refine MF hh h ha hv fun b sz i off e=>?_
  subst e
  obtain ⟨ty,hty,h⟩:=dI.1 h
  dsimp only at h
  split at h
  .rename_i sz' rs hab;exact ⟨_,_,hab⟩
  .rename_i te sz' rs hab;exact absurd ⟨b,sz,i,off,te,sz',rs,rfl,hab⟩ hR
  .exact h.elim
theorem JL (hh:eH base w E ah F){t:TypeId}{a v:AV}{va vv:Value}(h:Ad P ah t a v K)(ha:Rep w E a va)(hv:Rep w E v vv) :
  ∃r w' E',K r/\(Instr.storeAt t va vv).run P w=.ok () w'/\Step base w E w' E'/\eH base w' E' (lJ ah r.wr) (fun b=>F b/\b≠id)/\r.v=.p undef:=by
 obtain ⟨r,w',h1,h2,h3,h4,h5,-⟩:=MG hh h ha hv
 exact ⟨r,w',E,h1,h2,h3,h4.weaken (fun b h=>h.1),h5⟩
end
end Go.Fw
end
section
namespace Go.Fw
variable [iZ]
section
variable {P : Program} {base:Nat} {w w':World} {E E':Env} {ah:AH} {F:Nat->Prop} {K:nT->Prop} {id:Nat}
theorem Ii (hh:eH base w E ah F)(n:Nat):Step base w E {w with drawn:=n} E/\eH base {w with drawn:=n} E ah F:=by
 have hx:Ext w E {w with drawn:=n} E:=⟨fun _ _ h=>h,fun _ _ _=>rfl,fun _ _=>rfl,fun _ arr _ fz h=>⟨arr,fz,h,rfl⟩⟩
 exact ⟨⟨hx,⟨rfl,rfl,rfl,dH _,fun _ _=>rfl⟩,fun _ _ _ h=>h,fun _ _ _=>rfl,fun b c o h _=>⟨b,o,h⟩,fun _ _ h _=>.inl h⟩,
  ⟨fun b k hb=>(hh.blk b k hb).keep hx (fun _ _ _=>rfl) (fun _ _ _ _ h=>h),hh.sep,hh.fresh,hh.jO,hh.bs,hh.lH⟩⟩
theorem pU {n:Nat}(hn:0<n):∀{rows:List (List AV)},(∀row∈rows,row.length=n)->rows.flatten.length=rows.length*n/\
  ∀q,q<rows.length*n->∃row x,rows[q / n]?=some row/\row[q % n]?=some x/\rows.flatten[q]?=some x
 |[],h=>⟨by simp,fun q hq=>by simp at hq⟩
 |r::rows,h=>by
  have hl:=h r (by simp)
  obtain ⟨h1,h2⟩:=pU hn (rows:=rows) (fun row hr=>h row (by simp [hr]))
  refine ⟨by simp only [List.flatten_cons,bK,h1,hl,dD,bW];omega,fun q hq=>?_⟩
  by_cases hlt:q<n
  .refine ⟨r,r[q]'(by omega),by simp [Nat.div_eq_of_lt hlt],by simp [Nat.mod_eq_of_lt hlt,hl,hlt],?_⟩
   rw [List.flatten_cons,bF (by omega)]
   simp [hl,hlt]
  .obtain ⟨row,x,g1,g2,g3⟩:=h2 (q-n) (by simp [bW] at hq;omega)
   have e1:q / n=(q-n) / n+1:=by
    have:q=(q-n)+n:=by omega
    rw [this,Nat.add_div_right _ hn];simp
   have e2:q % n=(q-n) % n:=by
    rw [Nat.mod_eq_sub_mod (by omega)]
   refine ⟨row,x,by rw [e1];simpa using g1,by rw [e2];exact g2,?_⟩
   rw [List.flatten_cons,bP (by omega),hl]
   exact g3
def vV (w:World)(E:Env)(c o n:Nat)(rows:List (List AV)):Prop:=
 ∀(i:Nat) (row:List AV) (j:Nat) (x:AV),rows[i]?=some row->row[j]?=some x->∃v,w.cell? ⟨c,o+i*n+j,none⟩=some v/\Rep w E x v
theorem vV.load {c o n rows}(hn:0<n)(hr:∀row∈rows,row.length=n)(h:vV w E c o n rows) :
  ∃news,(loadCells ⟨c,o,none⟩ (rows.length*n)).run P w=.ok news.toArray w/\iT w E rows.flatten news:=by
 obtain ⟨h1,h2⟩:=pU hn hr
 have key:∀q,q<rows.length*n->∃v,w.cell? ⟨c,o+q,none⟩=some v/\∀x,rows.flatten[q]?=some x->Rep w E x v:=fun q hq=>by
  obtain ⟨row,x,g1,g2,g3⟩:=h2 q hq
  obtain ⟨v,hv,hx⟩:=h _ row _ x g1 g2
  refine ⟨v,?_,fun y hy=>?_⟩
  .rw [<- hv]
   congr 2
   have:=Nat.div_add_mod q n
   rw [Nat.mul_comm] at this
   omega
  .rw [g3] at hy;cases hy;exact hx
 refine ⟨(List.range (rows.length*n)).map fun q=>(w.cell? ⟨c,o+q,none⟩).getD undef,?_,by simp [h1],fun q x v hx hv=>?_⟩
 .exact run_loadCells w _ _ (fun q=>(w.cell? ⟨c,o+q,none⟩).getD undef) (fun q hq=>by
   obtain ⟨v,hv,-⟩:=key q hq
   rw [Addr.add_lit,hv];rfl)
 .have hq:q<rows.length*n:=by rw [<- h1];exact (aG.1 hx).1
  obtain ⟨u,hu,hr⟩:=key q hq
  simp [hq,hu] at hv
  rw [<- hv]
  exact hr x hx
theorem MH (hh:eH base w E ah F){n:Nat}(hn:0<n){y:AV}{vy:Value}{k:List (List AV)->List Nat->Prop}(h:aoQ ah n y k)(hy:Rep w E y vy) :
  ∃ys rd news,k ys rd/\(Builtin.lenOf vy).run P w=.ok ys.length w/\(Builtin.firstCells n ys.length vy).run P w=.ok news.toArray w/\iT w E ys.flatten news/\
   (∀row∈ys,row.length=n)/\(∀row∈ys,∀x∈row,x.mP=true):=by
 cases y with
 |sl rows full=>
  obtain ⟨hr,hk⟩:=h
  cases hy with
  |slnil _ a=>exact ⟨[],[],[],hk,rfl,by cases a<;>simp [Builtin.firstCells,loadCells,loadCellsFrom],iT.nil,by simp,by simp⟩
  |sl _ _ sz c o cap g hcap hfull hsz hfix hcell kE hrep=>
   have hsz':∀(i:Nat) (row:List AV),rows[i]?=some row->sz=n:=fun i row hi=>by rw [<- hsz i row hi];exact hr row (aK hi)
   obtain ⟨news,h1,h2⟩:=vV.load (P:=P) (w:=w) (E:=E) (c:=c) (o:=o) hn hr (fun i row j x hi hj=>by
    have e:=hsz' i row hi
    subst e
    exact ⟨g i j,hcell i row j x hi hj,hrep i row j x hi hj⟩)
   exact ⟨rows,[],news,hk,rfl,h1,h2,hr,kE⟩
 |os b sz off len=>
  obtain ⟨rfl,h⟩:=h
  split at h
  .rename_i sz' rs hab
   obtain ⟨rfl,hle,hk⟩:=h
   have hlen:((rs.drop off).take len).length=len:=by simp;omega
   cases hy with
   |lg=>
    refine ⟨(rs.drop off).take 0,[b],[],hk,rfl,?_,by simp;exact iT.nil,by simp,by simp⟩
    cases ‹Option Addr› with
    |none=>rfl
    |some a=>simp [Builtin.firstCells,loadCells,loadCellsFrom]
   |os _ _ _ _ c o cap hb hcap hsize=>
    rcases hh.blk b _ hab with ⟨h0,-⟩|⟨c',o',arr,tt,h1,h2,h3,h4,h5⟩
    .rw [hb] at h0;cases h0
    .rw [hb] at h1
     cases h1
     have hget:∀(i:Nat) (row:List AV),((rs.drop off).take len)[i]?=some row->rs[off+i]?=some row:=fun i row hr=>by
      rw [bM] at hr
      split at hr
      .simpa using hr
      .cases hr
     have hr:∀row∈(rs.drop off).take len,row.length=sz:=fun row hm=>by
      obtain ⟨i,hi⟩:=bJ.1 hm
      exact h5.2.1 _ row (hget i row hi)
     obtain ⟨news,g1,g2⟩:=vV.load (P:=P) (w:=w) (E:=E) (c:=c) (o:=o+off*sz) hn hr (fun i row j x hi hj=>by
      obtain ⟨v,hv,hx⟩:=h5.2.2.2 _ row j x (hget i row hi) hj
      refine ⟨v,?_,hx⟩
      rw [cell_of_row w c _ arr tt _ h4,<- hv]
      congr 1
      rw [bW];omega)
     refine ⟨(rs.drop off).take len,[b],news,hk,?_,?_,g2,hr,fun row hm x hx=>h5.2.2.1 row (List.mem_of_mem_drop (bQ hm)) x hx⟩
     .rw [hlen];rfl
     .exact g1
  .exact h.elim
 |str s=>
  obtain ⟨rfl,hk⟩:=h
  cases hy with|str b _ hb=>
  subst hb
  refine ⟨_,[],b.data.toList.map fun x=>.int .u8 x.toNat,hk,by simp [Builtin.lenOf],?_,?_,by simp,by simp [AV.mP]⟩
  .have e:b.extract 0 b.size=b:=by simp
   simp [Builtin.firstCells,e]
   apply Array.ext';simp
  .have e:(b.data.toList.map fun x=>[AV.p (.int .u8 x.toNat)]).flatten=b.data.toList.map fun x=>AV.p (.int .u8 x.toNat):=by
    induction b.data.toList with
    |nil=>rfl
    |cons x l ih=>simp [ih]
   rw [e]
   refine ⟨by simp,fun i x v hx hv=>?_⟩
   simp only [bV,aB] at hx hv
   obtain ⟨u,hu,rfl⟩:=hx
   obtain ⟨u',hu',rfl⟩:=hv
   rw [hu] at hu'
   cases hu'
   exact .p rfl
 |_=>exact h.elim
theorem Qj (n:Nat):∀(r c:Nat),c<=5*n+960->Builtin.growBy n r c<=5*n+960\/Builtin.growBy n r c<=n+(n+768) / 4
 |0,c,h=>.inl h
 |r+1,c,h=>by
  simp only [Builtin.growBy]
  split
  .exact .inl h
  .exact Qj n r _ (by omega)
theorem aoW {n c:Nat}(h:c<n):Builtin.nextslicecap n c<=5*n+960:=by
 unfold Builtin.nextslicecap
 split
 .omega
 .split
  .omega
  .rcases Qj n 4 c (by omega) with h|h<;>omega
end
end Go.Fw
end
section
namespace Go.Fw
variable [iZ]
section
variable {P : Program} {base:Nat} {w w':World} {E E':Env} {ah:AH} {F:Nat->Prop} {K:nT->Prop} {id:Nat}
theorem JH.empty {w:World}{E:Env}{id:Nat}{el:TypeId}:JH w (E.set id .empty) id el:=fun c o h=>by simp [Env.set] at h
theorem Ep (hh:eH base w E ah F)(hid:F id){t ty t2 el:TypeId}{d2:TypeDesc}{inf:TypeInfo}{z:List AV}(hu:P.underlying t=some (.slice el))(hi:P.info? el=some inf)
  (hu2:P.underlying t2=some d2) (hd2:∀k,d2≠.int k) (hz:aoH P el=some z) (hzl:z.length=inf.size) (hn:0<inf.size) (hby:inf.bytes<=4096)
  {a:Option Addr} {sLen sCap:Nat} {vy:Value} {xs ys:List (List AV)} {olds news:List Value} (hxl:xs.length=sLen)
  (ho:∀n,(Builtin.firstCells inf.size sLen (.slice a sLen sCap)).run P {w with drawn:=n}=.ok olds.toArray {w with drawn:=n}) (ho2:iT w E xs.flatten olds)
  (hxr:∀row∈xs,row.length=inf.size) (hxs:∀row∈xs,∀x∈row,x.mP=true)
  (hn0:(Builtin.lenOf vy).run P w=.ok ys.length w) (hn1:∀n,(Builtin.firstCells inf.size ys.length vy).run P {w with drawn:=n}=.ok news.toArray {w with drawn:=n}) (hn2:iT w E ys.flatten news)
  (ZX:∀row∈ys,row.length=inf.size) (hys:∀row∈ys,∀x∈row,x.mP=true)
  (hroom:¬(sLen+ys.length<=sCap)) (hmax:sLen+ys.length<=4294967296) :
  ∃v w' E',(Builtin.append_ #[t,t2] ty #[.slice a sLen sCap,vy]).run P w=.ok v w'/\Step base w E w' E'/\
   eH base w' E' (upd ah id (some (.rows inf.size (xs++ys)))) (fun b=>F b/\b≠id)/\Rep w' E' (.os id inf.size 0 (sLen+ys.length)) v/\JH w' E' id el:=by
 obtain ⟨zv,UA,hzc,hzs⟩:=rV (w:=w) (E:=E) hz
 have akt:∀n,(zeroValue el).run P {w with drawn:=n}=.ok zv {w with drawn:=n}:=fun n=>by
  obtain ⟨zv',h1,-,-⟩:=rV (w:={w with drawn:=n}) (E:=E) hz
  have:(zeroValue el).run P {w with drawn:=n}=(match (zeroValue el).run P w with | .ok v _=>.ok v {w with drawn:=n} | .halt x _=>.halt x {w with drawn:=n}):=by
   simp only [zeroValue,typeInfo,Sem.run_bind,run_program,Result.andThen_ok,hi,Sem.run_pure]
   cases inf.zero<;>simp
  rw [this,UA]
 have hnb:¬(Builtin.nextslicecap (sLen+ys.length) sCap*inf.bytes > 2 ^ 48):=by
  have h1:=aoW (n:=sLen+ys.length) (c:=sCap) (by omega)
  have h2:Builtin.nextslicecap (sLen+ys.length) sCap*inf.bytes<=(5*4294967296+960)*4096:=Nat.mul_le_mul (by omega) hby
  omega
 have hni:¬(((sLen+ys.length:Nat):Int) > IntKind.i64.max/\(False\/inf.bytes=0)):=by
  have e:IntKind.i64.max=9223372036854775807:=by rfl
  rw [e];omega
 obtain ⟨hd1,aku⟩:=Ii hh (w.drawn+1)
 obtain ⟨nc,hnc⟩:∃nc,nc=(Question.appendCap (sLen+ys.length) sCap el).cut (w.tape w.drawn (.appendCap (sLen+ys.length) sCap el)):=⟨_,rfl⟩
 have hge:sLen+ys.length<=nc:=by rw [hnc];simp [Question.cut]
 obtain ⟨arr,harr⟩:∃arr,arr=olds.toArray++news.toArray++Builtin.zeroCells zv.cells (nc-(sLen+ys.length)):=⟨_,rfl⟩
 have hfl:iT w E (xs++ys).flatten (olds++news):=by rw [List.flatten_append];exact ho2.append hn2
 have hlen:(olds++news).length=(sLen+ys.length)*inf.size:=by
  rw [<- hfl.1,(pU hn (rows:=xs++ys) (fun row hr=>by rcases aN.1 hr with h|h;exact hxr row h;exact ZX row h)).1]
  simp [hxl]
 have akv:zv.cells.size=inf.size:=by rw [<- hzl,hzc.1];simp
 have aiw:arr.size=nc*inf.size:=by
  rw [harr]
  simp only [Array.size_append,List.size_toArray,size_zeroCells,akv]
  have:olds.length+news.length=(sLen+ys.length)*inf.size:=by simpa using hlen
  rw [this,<- bW]
  congr 1;omega
 have hrows:RowsIn w E arr 0 inf.size (xs++ys):=by
  refine RowsIn.of_cells (fun row hr=>by rcases aN.1 hr with h|h;exact hxr row h;exact ZX row h) (fun row hr=>by rcases aN.1 hr with h|h;exact hxs row h;exact hys row h) hfl 0 ?_ (fun i v hv=>?_)
  .rw [aiw,hlen];simp;exact b_ _ hge
  .have hlt:=(aG.1 hv).1
   rw [harr,Nat.zero_add,Array.getElem?_append_left (by simpa using hlt)]
   simpa using hv
 obtain ⟨g1,g2⟩:=uZ (w:={w with drawn:=w.drawn+1}) aku hid (.cells arr el) (.rows inf.size (xs++ys)) (fun w' E' hx hfix ho hn=>
  .inr ⟨w.heap.size,0,arr,el,ho,hh.bs,fun off hf=>by have:=hh.jO _ _ (hfix _ _ hf);omega,hn,(hrows.mono hd1.ext).mono hx⟩)
 refine ⟨.slice (some ⟨w.heap.size,0,none⟩) (sLen+ys.length) nc,_,_,?_,hd1.trans g1,g2,?_,fun c o h=>?_⟩
 .have hz0:(match d2 with | .int _=>true|_=>false)=false:=by cases d2<;>simp at hd2 ⊢
  simp only [Builtin.append_,Sem.run_bind,List.getElem?_toArray,List.getElem?_cons_zero,List.getElem?_cons_succ,au,run_underlying hu,Result.andThen_ok,sizeOf,typeInfo,run_program,hi,Sem.run_pure,
   run_underlying hu2,hz0,aV,if_false,hn0,hroom,hni,hnb,run_choose,Question.forced,<- hnc,run_askRoom,ho,bG,if_true,hn1,akt,newRow,run_newObj,<- harr]
  rfl
 .have:=Rep.os (w:=World.alloc {w with drawn:=w.drawn+1} (.cells arr el)) (E:=E.set id (.at w.heap.size 0)) id inf.size 0 (sLen+ys.length) w.heap.size 0 nc (by simp [Env.set]) ⟨hge,by omega⟩ ⟨arr,el,_,heap_alloc_new {w with drawn:=w.drawn+1} _,by rw [aiw];simp⟩
  simpa using this
 .simp [Env.set] at h
  obtain ⟨rfl,rfl⟩:=h
  exact ⟨rfl,arr,_,heap_alloc_new {w with drawn:=w.drawn+1} _⟩
theorem Es (hh:eH base w E ah F){n:Nat}(hn:0<n){y:AV}{vy:Value}{k:List (List AV)->List Nat->Prop}(h:aoQ ah n y k)(hy:Rep w E y vy) :
  ∃ys rd news,k ys rd/\(Builtin.lenOf vy).run P w=.ok ys.length w/\(Builtin.firstCells n ys.length vy).run P w=.ok news.toArray w/\
   (∀m,(Builtin.firstCells n ys.length vy).run P {w with drawn:=m}=.ok news.toArray {w with drawn:=m})/\iT w E ys.flatten news/\
   (∀row∈ys,row.length=n)/\(∀row∈ys,∀x∈row,x.mP=true):=by
 obtain ⟨ys,rd,news,h1,h2,h3,h4,h5,h6⟩:=MH (P:=P) hh hn h hy
 refine ⟨ys,rd,news,h1,h2,h3,fun m=>?_,h4,h5,h6⟩
 have hl:news.length=ys.length*n:=by rw [<- h4.1,(pU hn h5).1]
 cases vy with
 |slice a len cap=>
  cases a with
  |none=>simp [Builtin.firstCells] at h3 ⊢;exact h3
  |some a=>
   simp only [Builtin.firstCells] at h3 ⊢
   have key:∀(k i:Nat) (acc res:Array Value),(loadCellsFrom a i k acc).run P w=.ok res w->(loadCellsFrom a i k acc).run P {w with drawn:=m}=.ok res {w with drawn:=m}:=by
    intro k
    induction k with
    |zero=>intro i acc res h;simp [loadCellsFrom] at h ⊢;exact h
    |succ k ih=>
     intro i acc res h
     simp only [loadCellsFrom,Sem.run_bind,run_load] at h ⊢
     have e:({w with drawn:=m}:World).cell? (a.add i)=w.cell? (a.add i):=rfl
     rw [e]
     cases hc:w.cell? (a.add i) with
     |some v=>rw [hc] at h;exact ih _ _ _ h
     |none=>
      rw [hc] at h
      dsimp only at h ⊢
      have ef:World.farLoad P {w with drawn:=m} (a.add i) (Mode.plain == Mode.atomic)=World.farLoad P w (a.add i) (Mode.plain == Mode.atomic):=rfl
      rw [ef]
      cases hf:World.farLoad P w (a.add i) (Mode.plain == Mode.atomic) with
      |ok r=>rw [hf] at h;exact ih _ _ _ h
      |error e=>rw [hf] at h;cases h
   exact key _ _ _ _ h3
 |string s=>simp [Builtin.firstCells] at h3 ⊢;exact h3
 |_=>simp [Builtin.lenOf] at h2
theorem Et {t ty t2 el:TypeId}{d2:TypeDesc}{inf:TypeInfo}(hu:P.underlying t=some (.slice el))(hi:P.info? el=some inf)
  (hu2:P.underlying t2=some d2) (hd2:∀k,d2≠.int k) {a:Option Addr} {sLen sCap m:Nat} {vy:Value} {news:List Value}
  (hn0:(Builtin.lenOf vy).run P w=.ok m w) (hn1:(Builtin.firstCells inf.size m vy).run P w=.ok news.toArray w) (hroom:sLen+m<=sCap) {w':World}
  (hst:∀b,a=some b->(storeCells (b.add (sLen*inf.size)) news 0).run P w=.ok () w') (hno:a=none->w'=w) :
  (Builtin.append_ #[t,t2] ty #[.slice a sLen sCap,vy]).run P w=.ok (.slice a (sLen+m) sCap) w':=by
 have hz0:(match d2 with | .int _=>true|_=>false)=false:=by cases d2<;>simp at hd2 ⊢
 cases a with
 |none=>
  obtain rfl:=hno rfl
  simp only [Builtin.append_,Sem.run_bind,List.getElem?_toArray,List.getElem?_cons_zero,List.getElem?_cons_succ,run_underlying hu,Result.andThen_ok,sizeOf,typeInfo,run_program,hi,Sem.run_pure,
   run_underlying hu2,hz0,aV,if_false,hn0,hroom,if_true,bG,hn1]
 |some b=>
  have:=hst b rfl
  simp only [Builtin.append_,Sem.run_bind,List.getElem?_toArray,List.getElem?_cons_zero,List.getElem?_cons_succ,run_underlying hu,Result.andThen_ok,sizeOf,typeInfo,run_program,hi,Sem.run_pure,
   run_underlying hu2,hz0,aV,if_false,hn0,hroom,if_true,bG,hn1,this]
set_option maxHeartbeats 1000000 in
theorem Eu (hh:eH base w E ah F)(hid:F id){t t2 ty:TypeId}{x y:AV}{vx vy:Value}(h:zI P id ah t t2 x y K)(hx:Rep w E x vx)(hy:Rep w E y vy) :
  ∃r v w' E',K r/\(Builtin.append_ #[t,t2] ty #[vx,vy]).run P w=.ok v w'/\Step base w E w' E'/\eH base w' E' (lJ ah r.wr) (fun b=>F b/\b≠id)/\Rep w' E' r.v v/\
   (∀el,P.underlying t=some (.slice el)->(∀b sz off len,x=.os b sz off len->off=0/\JH w E b el)->JH w' E' id el):=by
 obtain ⟨e,he,hby,hn0,hd2,hz,h⟩:=dI.1 h
 obtain ⟨el,inf,hu,hi,rfl⟩:=uH he
 dsimp only at hby hn0 hz h
 have hn:0<inf.size:=by omega
 obtain ⟨d2,hu2,hd2⟩:∃d2,P.underlying t2=some d2/\∀k,d2≠.int k:=by
  cases e:P.underlying t2 with
  |none=>rw [e] at hd2;exact hd2.elim
  |some d2=>rw [e] at hd2;exact ⟨d2,rfl,fun k hk=>by subst hk;exact hd2⟩
 rw [hu] at hz
 obtain ⟨z,hz,hzl⟩:=aB.1 hz
 dsimp only [Option.bind_some] at hz
 obtain ⟨ys,rd,news,h,hl,hf,hfd,hr2,ZX,hys⟩:=Es (P:=P) hh hn h hy
 cases x with
 |sl rows full=>
  obtain ⟨hro,hfu,hne,hmax,hK⟩:=h
  subst hfu
  have hxr:aoQ ah inf.size (.sl rows true) (fun xs rd=>xs=rows):=⟨hro,rfl⟩
  obtain ⟨xs,-,olds,rfl,gl,gf,gfd,gr,gxr,gxs⟩:=Es (P:=P) hh hn hxr hx
  by_cases hy0:ys=[]
  .have hx0:xs=[]:=by rcases hne with h|h;exact h;exact absurd hy0 h
   subst hx0
   subst hy0
   obtain ⟨h1,h2⟩:=AZ hh hid inf.size
   have hnews:news=[]:=by have:=hr2.1;simp at this;exact List.eq_nil_of_length_eq_zero this.symm
   subst hnews
   have goal:∀a cap,(Builtin.append_ #[t,t2] ty #[.slice a 0 cap,vy]).run P w=.ok (.slice a 0 cap) w:=fun a cap=>
    Et (P:=P) (m:=0) (sLen:=0) hu hi hu2 hd2 hl hf (by omega) (fun b _=>by simp [storeCells]) (fun _=>rfl)
   cases hx with
   |slnil _ a=>exact ⟨_,.slice a 0 0,w,_,hK,goal _ _,h1,h2,.lg id _ _ _ (by simp [Env.set]),fun _ _ _=>JH.empty⟩
   |sl _ _ sz c o cap g hcap hfull=>
    have:cap=0:=hfull rfl
    subst this
    exact ⟨_,.slice (some ⟨c,o,none⟩) 0 0,w,_,hK,goal _ _,h1,h2,.lg id _ _ _ (by simp [Env.set]),fun _ _ _=>JH.empty⟩
  .have hpos:0<ys.length:=by cases ys with|nil=>exact absurd rfl hy0|cons a l=>simp
   obtain ⟨a,cap,rfl,hcap⟩:∃a cap,vx=.slice a xs.length cap/\cap=xs.length:=by
    cases hx with
    |slnil _ a=>exact ⟨a,0,rfl,rfl⟩
    |sl _ _ sz c o cap g hcap hfull=>exact ⟨_,cap,rfl,hfull rfl⟩
   obtain ⟨v,w',E',h1,h2,h3,h4,h5'⟩:=Ep (P:=P) (ty:=ty) hh hid hu hi hu2 hd2 hz hzl hn hby (xs:=xs) (a:=a) (sLen:=xs.length) (olds:=olds) rfl
    (fun n=>gfd n) gr gxr gxs hl hfd hr2 ZX hys (sCap:=cap) (by omega) hmax
   exact ⟨_,v,w',E',hK,h1,h2,h3,h4,fun el' hu' _=>by rw [hu] at hu';cases hu';exact h5'⟩
 |os b sz off len=>
  obtain ⟨rfl,h⟩:=h
  split at h
  .rename_i sz' rs hab
   obtain ⟨rfl,hle,hmax,hK⟩:=h
   have hlen:((rs.drop off).take len).length=len:=by simp;omega
   have hxr:aoQ ah inf.size (.os b inf.size off len) (fun xs rd=>xs=(rs.drop off).take len):=⟨rfl,by rw [hab];exact ⟨rfl,hle,rfl⟩⟩
   obtain ⟨xs,-,olds,hxs,gl,gf,gfd,gr,gxr,gxs⟩:=Es (P:=P) hh hn hxr hx
   rw [<- hxs] at hK hlen
   have hne:b≠id:=fun e=>by have:=hh.aef hid;rw [<- e,hab] at this;cases this
   cases hx with
   |lg _ _ _ a hb=>
    have hx0:xs=[]:=by rw [hxs];simp
    subst hx0
    by_cases hy0:ys=[]
    .subst hy0
     have hnews:news=[]:=by have:=hr2.1;simp at this;exact List.eq_nil_of_length_eq_zero this.symm
     subst hnews
     obtain ⟨h1,h2⟩:=AZ (hh.drop b) hid inf.size
     exact ⟨_,.slice a 0 0,w,_,hK,Et (P:=P) (m:=0) (sLen:=0) hu hi hu2 hd2 hl hf (by omega) (fun b _=>by simp [storeCells]) (fun _=>rfl),h1,h2,.lg id _ _ _ (by simp [Env.set]),fun _ _ _=>JH.empty⟩
    .have hpos:0<ys.length:=by cases ys with|nil=>exact absurd rfl hy0|cons a l=>simp
     obtain ⟨v,w',E',h1,h2,h3,h4,h5'⟩:=Ep (P:=P) (ty:=ty) (hh.drop b) hid hu hi hu2 hd2 hz hzl hn hby (xs:=([]:List (List AV))) (a:=a) (sLen:=0) rfl
      (fun n=>by simpa using gfd n) gr gxr gxs hl hfd hr2 ZX hys (sCap:=0) (by omega) (by simpa using hmax)
     exact ⟨_,v,w',E',hK,h1,h2,h3,h4,fun el' hu' _=>by rw [hu] at hu';cases hu';exact h5'⟩
   |os _ _ _ _ c o cap hb hcap hsize=>
    by_cases hroom:len+ys.length<=cap
    .obtain ⟨arr,tt,fz,hc,hfit⟩:=hsize
     rcases hh.blk b _ hab with ⟨h0,-⟩|⟨c',o',arr',tt',h1,h2,h3,h4,h5⟩
     .rw [hb] at h0;cases h0
     .rw [hb] at h1
      cases h1
      rw [hc] at h4
      cases h4
      have hnl:news.length=ys.length*inf.size:=by rw [<- hr2.1,(pU hn ZX).1]
      have hm1:(off+(len+ys.length))*inf.size<=(off+cap)*inf.size:=b_ _ (by omega)
      have UC:o+off*inf.size+len*inf.size+news.length<=arr.size:=by
       rw [bW,bW] at hm1
       rw [hnl];omega
      have hone:∀u∈news,u.oneCell'=true:=fun u hu=>by
       obtain ⟨j,hj⟩:=bJ.1 hu
       have hlt:=(aG.1 hj).1
       rw [<- hr2.1] at hlt
       have hmem:ys.flatten[j]∈ys.flatten:=by simp
       obtain ⟨row,hrow,agO⟩:=List.mem_flatten.1 hmem
       exact (hr2.2 j ys.flatten[j] u (by simp [hlt]) hj).one (hys row hrow _ agO)
      have hst:=run_storeCells_at P c (o+off*inf.size+len*inf.size) tt news 0 arr w hc (by simpa using UC) hone
      simp only [Nat.add_zero] at hst
      obtain ⟨D8,harr⟩:∃D8,D8=(arr.toList.take (o+off*inf.size+len*inf.size)++news++arr.toList.drop (o+off*inf.size+len*inf.size+news.length)).toArray:=⟨_,rfl⟩
      rw [<- harr] at hst
      have hsz:D8.size=arr.size:=by rw [harr];simp;omega
      have hget:=Rj UC
      rw [<- harr] at hget
      have agP:RowsIn w E D8 o inf.size (rs.take (off+len)):=by
       have hm2:(off+len)*inf.size<=rs.length*inf.size:=b_ _ hle
       refine ⟨?_,fun i row hr=>?_,fun row hr=>h5.2.2.1 row (bQ hr),fun i row j x hr hj=>?_⟩
       .rw [hsz];simp only [List.length_take];rw [Nat.min_eq_left hle];have:=h5.1;omega
       .rw [bM] at hr
        split at hr
        .exact h5.2.1 i row hr
        .cases hr
       .rw [bM] at hr
        split at hr
        .rename_i hlt
         obtain ⟨v,hv,hx⟩:=h5.2.2.2 i row j x hr hj
         refine ⟨v,?_,hx⟩
         have hjl:=(aG.1 hj).1
         rw [h5.2.1 i row hr] at hjl
         have hm3:(i+1)*inf.size<=(off+len)*inf.size:=b_ _ (by omega)
         rw [bW,bW] at hm3
         rw [hget,if_neg (by omega)]
         exact hv
        .cases hr
      have hB:=Cm hh hab hb hc hsz agP
      have hS:=Cj hh hab hb hc hsz
      have hrows2:RowsIn (w.setRow c D8) E D8 (o+off*inf.size) inf.size (xs++ys):=by
       refine RowsIn.mono ?_ hS.ext
       refine RowsIn.of_cells (fun row hr=>by rcases aN.1 hr with h|h;exact gxr row h;exact ZX row h) (fun row hr=>by rcases aN.1 hr with h|h;exact gxs row h;exact hys row h)
        (vs:=olds++news) (by rw [List.flatten_append];exact gr.append hr2) (o+off*inf.size) ?_ (fun i v hv=>?_)
       .have hol:olds.length=len*inf.size:=by rw [<- gr.1,(pU hn gxr).1,hlen]
        rw [hsz];simp only [bK,hol];omega
       .have hol:olds.length=len*inf.size:=by rw [<- gr.1,(pU hn gxr).1,hlen]
        rw [List.getElem?_append] at hv
        rw [hget]
        split at hv
        .rename_i hlt
         rw [if_neg (by omega)]
         have hld:(loadCells ⟨c,o+off*inf.size,none⟩ (xs.length*inf.size)).run P w=.ok olds.toArray w:=gf
         rw [hlen] at hld
         have hrl:=run_loadCells (P:=P) w ⟨c,o+off*inf.size,none⟩ (len*inf.size) (fun j=>arr.getD (o+off*inf.size+j) undef) (fun j hj=>by
          rw [Addr.add_lit,cell_of_row w c _ arr tt _ hc]
          have:o+off*inf.size+j<arr.size:=by rw [bW,bW] at hm1;omega
          simp [this])
         rw [hrl] at hld
         have ee:olds=(List.range (len*inf.size)).map fun j=>arr.getD (o+off*inf.size+j) undef:=by
          injection hld with e1 e2
          exact (List.toArray_inj e1).symm
         rw [ee] at hv hlt
         have hlt':i<len*inf.size:=by simpa using hlt
         have hin:o+off*inf.size+i<arr.size:=by rw [bW,bW] at hm1;omega
         rw [bV,List.getElem?_range hlt'] at hv
         simp [hin] at hv ⊢
         exact hv
        .rename_i hge
         have hlt:=(aG.1 hv).1
         rw [if_pos (by omega)]
         rw [<- hv,hol]
         congr 1
         omega
      have hc':(w.setRow c D8).heap[c]?=some (.cells D8 tt (0,0)):=setRow_heap w c arr D8 tt _ hc
      obtain ⟨k1,k2⟩:=eH.rename hB (b:=b) (eY rfl) hb hid hc' hrows2
      rw [zK] at k2
      refine ⟨_,.slice (some ⟨c,o+off*inf.size,none⟩) (len+ys.length) cap,w.setRow c D8,_,hK,?_,hS.trans k1,k2,?_,fun el' hu' hT c1 o1 ho1=>?_⟩
      .exact Et (P:=P) hu hi hu2 hd2 hl hf hroom (fun b hb=>by cases hb;rw [Addr.add_lit];exact hst) (fun h=>by cases h)
      .have:=Rep.os (w:=w.setRow c D8) (E:=E.set id (.at c (o+off*inf.size))) id inf.size 0 (len+ys.length) c (o+off*inf.size) cap (by simp [Env.set]) ⟨hroom,by omega⟩ ⟨D8,tt,_,hc',by rw [hsz];rw [bW] at hfit;simp;omega⟩
       simpa using this
      .obtain ⟨hof,hT⟩:=hT b _ _ _ rfl
       obtain ⟨ho0,a3,f3,h3⟩:=hT c o hb
       rw [hc] at h3
       simp only [au,Obj.cells.injEq] at h3
       obtain ⟨-,rfl,-⟩:=h3
       simp [Env.set] at ho1
       obtain ⟨rfl,rfl⟩:=ho1
       exact ⟨by rw [ho0,hof];omega,_,_,hc'⟩
    .obtain ⟨v,w',E',h1,h2,h3,h4,h5'⟩:=Ep (P:=P) (ty:=ty) (hh.drop b) hid hu hi hu2 hd2 hz hzl hn hby (xs:=xs) (a:=some ⟨c,o+off*inf.size,none⟩) (sLen:=len) (olds:=olds) hlen
      (fun n=>by have:=gfd n;rw [hlen] at this;exact this) gr gxr gxs hl hfd hr2 ZX hys (sCap:=cap) hroom hmax
     exact ⟨_,v,w',E',hK,h1,h2,h3,h4,fun el' hu' _=>by rw [hu] at hu';cases hu';exact h5'⟩
  .exact h.elim
 |_=>exact h.elim
theorem W9 (hh:eH base w E ah F)(hid:F id){t t2 ty:TypeId}{x y:AV}{vx vy:Value}(h:zI P id ah t t2 x y K)(hx:Rep w E x vx)(hy:Rep w E y vy) :
  Eo P base w E ah F id (Builtin.append_ #[t,t2] ty #[vx,vy]) K:=by
 obtain ⟨r,v,w',E',h1,h2,h3,h4,h5,-⟩:=Eu (P:=P) (ty:=ty) hh hid h hx hy
 exact ⟨r,v,w',E',h1,h2,h3,h4,h5⟩
theorem abx (hh:eH base w E ah F)(hid:F id){t t2 ty:TypeId}{x y:AV}{vx vy:Value}(h:Yy P id ah t t2 x y K)(hx:Rep w E x vx)(hy:Rep w E y vy) :
  Eo P base w E ah F id (Builtin.append_ #[t,t2] ty #[vx,vy]) K:=by
 obtain ⟨el,m,rd,hu,h⟩:=h
 split at h
 .obtain ⟨h1,hK⟩:=h
  obtain ⟨r,v,w',E',rfl,h2,h3,h4,h5,h6⟩:=Eu (P:=P) (ty:=ty) hh hid h1 hx hy
  refine ⟨_,v,w',E',hK,h2,h3,?_,h5⟩
  have hb:lJ ah [(id,some (pI.rows 1 (m.map KC)))] id=some (.rows 1 (m.map KC)):=by simp [lJ,upd]
  have:=h4.Em hb (GX base w' E' id (h4.blk id _ hb) (h6 el hu (fun b sz off len e=>by cases e)) (.inl rfl))
  simpa [lJ,zK] using this
 .rename_i b sz off len
  split at h
  .rename_i ty' sz' rs hab
   obtain ⟨rfl,hof,-,h1,hK⟩:=h
   obtain ⟨q1,q2⟩:=GV base w E b (hh.blk b _ hab)
   obtain ⟨r,v,w',E',rfl,h2,h3,h4,h5,h6⟩:=Eu (P:=P) (ty:=ty) (hh.Em hab q1) hid h1 hx hy
   refine ⟨_,v,w',E',hK,h2,h3,?_,h5⟩
   simp only [lJ,zK] at h4 ⊢
   have hb:upd (upd ah b none) id (some (pI.rows 1 (m.map KC))) id=some (.rows 1 (m.map KC)):=by simp [upd]
   have:=h4.Em hb (GX base w' E' id (h4.blk id _ hb) (h6 _ hu (fun b' sz' off' len' e=>by cases e;exact ⟨hof,q2.1⟩)) (.inl rfl))
   simpa [zK] using this
  .exact h.elim
 .exact h.elim
theorem aby (hh:eH base w E ah F)(hid:F id){t t2 ty:TypeId}{x y:AV}{vx vy:Value}(h:Yz P id ah t t2 x y K)(hx:Rep w E x vx)(hy:Rep w E y vy) :
  Eo P base w E ah F id (Builtin.append_ #[t,t2] ty #[vx,vy]) K:=by
 rcases h with h|h
 .exact W9 hh hid h hx hy
 .exact abx hh hid h hx hy
end
end Go.Fw
end
