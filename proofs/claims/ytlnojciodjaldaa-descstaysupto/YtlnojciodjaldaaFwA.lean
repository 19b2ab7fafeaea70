/- Machinery of this seat's proofs (A, B, C, C2, C3, C4, C5, C6, C7, C8, C9, C10, C11, C12, D, E, E2, E3, G, W): lemmas that the last text uses; no statement of its own. -/
import Derived.WalkKit
import Derived.ProofKit
import Derived.Orders
import Derived.Deep.LoopGhost
section
namespace Go.Fw

/-- Abstract values. -/
inductive AV where
  | p (v : Value)
  | str (s : List UInt8)
  | agg (cs : List AV)
  | tup (vs : List AV)
  | sl (rows : List (List AV)) (full : Bool)
  | vp (row : List AV) (off : Nat)
  | os (b sz off len : Nat)
  | op (b sz row off : Nat)
  | fn (f : Fn) (first captured : List AV)
  | ifc (t : TypeId) (v : AV)
  | mp (b : Nat)

instance : Inhabited AV := ⟨.p undef⟩

/-- A value that is itself: it bears no address, no bytes, no parts. -/
def plainV : Value → Bool
  | .bool _ | .int _ _ | .float _ _ | .nilFunc | .nilIface | .pointer none | .map none => true
  | .tuple vs => vs.isEmpty
  | _ => false

def AV.cells : AV → List AV
  | .agg cs => cs
  | a => [a]
/-- fills one cell -/
def AV.scal : AV → Bool
  | .agg _ | .tup _ | .p (.tuple _) => false
  | _ => true
/-- fills cells -/
def AV.boxy : AV → Bool
  | .tup _ | .p (.tuple _) => false
  | _ => true

 mutual
/-- bears no name of an owned block, no function -/
def AV.clean : AV → Bool
  | .p _ | .str _ => true
  | .agg cs => cleanL cs
  | .tup cs => cleanL cs
  | .sl rows _ => cleanLL rows
  | .vp row _ => cleanL row
  | .fn _ first captured => cleanL first && cleanL captured
  | .ifc _ v => v.clean
  | .os .. | .op .. | .mp _ => false
def cleanL : List AV → Bool
  | [] => true
  | a :: r => a.clean && cleanL r
def cleanLL : List (List AV) → Bool
  | [] => true
  | a :: r => cleanL a && cleanLL r
end

 mutual
/-- bears no address at all -/
def AV.flat : AV → Bool
  | .p _ | .str _ => true
  | .agg cs => flatL cs
  | .tup cs => flatL cs
  | .sl rows _ => rows.isEmpty
  | .ifc _ v => v.flat
  | _ => false
def flatL : List AV → Bool
  | [] => true
  | a :: r => a.flat && flatL r
end

/-- Where an owned block lies. -/
inductive Own where
  | free
  | empty
  | at (c o : Nat)

structure Env where
  fix : Nat → Nat → Prop
  own : Nat → Own

inductive Rep (w : World) (E : Env) : AV → Value → Prop
  | p {v : Value} (h : plainV v = true) : Rep w E (.p v) v
  | str (s : ByteArray) (l : List UInt8) (h : s.data.toList = l) : Rep w E (.str l) (.string s)
  | agg (cs : List AV) (vs : Array Value) (hl : cs.length = vs.size) (hs : ∀ c ∈ cs, c.scal = true)
      (h : ∀ (i : Nat) (c : AV) (v : Value), cs[i]? = some c → vs[i]? = some v → Rep w E c v) : Rep w E (.agg cs) (.agg vs)
  | tup (cs : List AV) (vs : Array Value) (hl : cs.length = vs.size)
      (h : ∀ (i : Nat) (c : AV) (v : Value), cs[i]? = some c → vs[i]? = some v → Rep w E c v) : Rep w E (.tup cs) (.tuple vs)
  | slnil (full : Bool) (a : Option Addr) : Rep w E (.sl [] full) (.slice a 0 0)
  | sl (rows : List (List AV)) (full : Bool) (sz c o cap : Nat) (g : Nat → Nat → Value)
      (hcap : rows.length ≤ cap) (hfull : full = true → cap = rows.length)
      (hsz : ∀ (i : Nat) (row : List AV), rows[i]? = some row → row.length = sz)
      (hfix : ∀ (i : Nat) (row : List AV) (j : Nat) (x : AV), rows[i]? = some row → row[j]? = some x → E.fix c (o + i * sz + j))
      (hcell : ∀ (i : Nat) (row : List AV) (j : Nat) (x : AV), rows[i]? = some row → row[j]? = some x → w.cell? ⟨c, o + i * sz + j, none⟩ = some (g i j))
      (hscal : ∀ row ∈ rows, ∀ x ∈ row, x.scal = true)
      (hrep : ∀ (i : Nat) (row : List AV) (j : Nat) (x : AV), rows[i]? = some row → row[j]? = some x → Rep w E x (g i j)) :
      Rep w E (.sl rows full) (.slice (some ⟨c, o, none⟩) rows.length cap)
  | vp (row : List AV) (off : Nat) (c o : Nat) (g : Nat → Value)
      (hfix : ∀ (j : Nat) (x : AV), row[j]? = some x → E.fix c (o + j))
      (hcell : ∀ (j : Nat) (x : AV), row[j]? = some x → w.cell? ⟨c, o + j, none⟩ = some (g j))
      (hscal : ∀ x ∈ row, x.scal = true)
      (hrep : ∀ (j : Nat) (x : AV), row[j]? = some x → Rep w E x (g j)) :
      Rep w E (.vp row off) (.pointer (some ⟨c, o + off, none⟩))
  | osnil (b sz off : Nat) (a : Option Addr) (hb : E.own b ≠ .free) : Rep w E (.os b sz off 0) (.slice a 0 0)
  | os (b sz off len c o cap : Nat) (hb : E.own b = .at c o) (hcap : len ≤ cap)
      (hsize : ∃ (arr : Array Value) (ty : TypeId), w.heap[c]? = some (.cells arr ty (0, 0)) ∧ o + (off + cap) * sz ≤ arr.size) :
      Rep w E (.os b sz off len) (.slice (some ⟨c, o + off * sz, none⟩) len cap)
  | op (b sz row off c o : Nat) (hb : E.own b = .at c o) : Rep w E (.op b sz row off) (.pointer (some ⟨c, o + row * sz + off, none⟩))
  | fn (f : Fn) (first captured : List AV) (vs us : Array Value) (hl : first.length = vs.size) (hl' : captured.length = us.size)
      (h : ∀ (i : Nat) (c : AV) (v : Value), first[i]? = some c → vs[i]? = some v → Rep w E c v)
      (h' : ∀ (i : Nat) (c : AV) (v : Value), captured[i]? = some c → us[i]? = some v → Rep w E c v) : Rep w E (.fn f first captured) (.func f vs us)
  | ifc (t : TypeId) (a : AV) (v : Value) (h : Rep w E a v) : Rep w E (.ifc t a) (.iface t v)
  | mp (b c : Nat) (hb : E.own b = .at c 0) : Rep w E (.mp b) (.map (some c))

/-- The world goes on: what is fixed stays, owned blocks stay where they are. -/
structure Ext (w : World) (E : Env) (w' : World) (E' : Env) : Prop where
  fix : ∀ c o, E.fix c o → E'.fix c o
  cell : ∀ c o, E.fix c o → w'.cell? ⟨c, o, none⟩ = w.cell? ⟨c, o, none⟩
  own : ∀ b : Nat, E.own b ≠ .free → E'.own b = E.own b
  arr : ∀ (c : Nat) (arr : Array Value) (ty : TypeId), w.heap[c]? = some (.cells arr ty (0, 0)) → ∃ arr' : Array Value, w'.heap[c]? = some (.cells arr' ty (0, 0)) ∧ arr'.size = arr.size

theorem Ext.refl (w : World) (E : Env) : Ext w E w E :=
  ⟨fun _ _ h => h, fun _ _ _ => rfl, fun _ _ => rfl, fun _ arr _ h => ⟨arr, h, rfl⟩⟩

theorem Ext.trans {w E w' E' w'' E''} (h : Ext w E w' E') (k : Ext w' E' w'' E'') : Ext w E w'' E'' where
  fix := fun c o h0 => k.fix c o (h.fix c o h0)
  cell := fun c o h0 => (k.cell c o (h.fix c o h0)).trans (h.cell c o h0)
  own := fun b h0 => by
    have e := h.own b h0
    rw [k.own b (by rw [e]; exact h0), e]
  arr := fun c arr ty h0 => by
    obtain ⟨a1, h1, e1⟩ := h.arr c arr ty h0
    obtain ⟨a2, h2, e2⟩ := k.arr c a1 ty h1
    exact ⟨a2, h2, e2.trans e1⟩

theorem Rep.mono {w E w' E'} (hx : Ext w E w' E') {a v} (h : Rep w E a v) : Rep w' E' a v := by
  induction h with
  | p h => exact .p h
  | str s l h => exact .str s l h
  | agg cs vs hl hs _ ih => exact .agg cs vs hl hs ih
  | tup cs vs hl _ ih => exact .tup cs vs hl ih
  | slnil full a => exact .slnil full a
  | sl rows full sz c o cap g hcap hfull hsz hfix hcell hscal _ ih =>
    exact .sl rows full sz c o cap g hcap hfull hsz (fun i row j x h1 h2 => hx.fix _ _ (hfix i row j x h1 h2))
      (fun i row j x h1 h2 => (hx.cell _ _ (hfix i row j x h1 h2)).trans (hcell i row j x h1 h2)) hscal ih
  | vp row off c o g hfix hcell hscal _ ih =>
    exact .vp row off c o g (fun j x h => hx.fix _ _ (hfix j x h)) (fun j x h => (hx.cell _ _ (hfix j x h)).trans (hcell j x h)) hscal ih
  | osnil b sz off a hb => exact .osnil b sz off a (by rw [hx.own b hb]; exact hb)
  | os b sz off len c o cap hb hcap hsize =>
    obtain ⟨arr, ty, h1, h2⟩ := hsize
    obtain ⟨arr', h3, h4⟩ := hx.arr c arr ty h1
    exact .os b sz off len c o cap (by rw [hx.own b (by rw [hb]; simp), hb]) hcap ⟨arr', ty, h3, by rw [h4]; exact h2⟩
  | op b sz row off c o hb => exact .op b sz row off c o (by rw [hx.own b (by rw [hb]; simp), hb])
  | fn f first captured vs us hl hl' _ _ ih ih' => exact .fn f first captured vs us hl hl' ih ih'
  | ifc t a v _ ih => exact .ifc t a v ih
  | mp b c hb => exact .mp b c (by rw [hx.own b (by rw [hb]; simp), hb])

/-- A list of abstract values stands for a list of values. -/
def RepL (w : World) (E : Env) (as : List AV) (vs : List Value) : Prop :=
  as.length = vs.length ∧ ∀ (i : Nat) (a : AV) (v : Value), as[i]? = some a → vs[i]? = some v → Rep w E a v

/-- What an owned block holds. -/
inductive Blk where
  | rows (sz : Nat) (rs : List (List AV))
  | map (es : List (AV × AV))

abbrev AH := Nat → Option Blk

def RowsIn (w : World) (E : Env) (arr : Array Value) (o sz : Nat) (rs : List (List AV)) : Prop :=
  o + rs.length * sz ≤ arr.size ∧
  (∀ (i : Nat) (row : List AV), rs[i]? = some row → row.length = sz) ∧
  (∀ row ∈ rs, ∀ x ∈ row, x.scal = true) ∧
  ∀ (i : Nat) (row : List AV) (j : Nat) (x : AV), rs[i]? = some row → row[j]? = some x → ∃ v, arr[o + i * sz + j]? = some v ∧ Rep w E x v

def MapIn (w : World) (E : Env) (es : List (AV × AV)) (ces : Array MapEntry) (clock : Nat) : Prop :=
  es.length = ces.size ∧
  (∀ (i : Nat) (e : AV × AV) (ce : MapEntry), es[i]? = some e → ces[i]? = some ce → Rep w E e.1 ce.key ∧ Rep w E e.2 ce.val ∧ ce.born < clock) ∧
  (∀ (i j : Nat) (a b : MapEntry), ces[i]? = some a → ces[j]? = some b → a.born = b.born → i = j)

def BlkOk (base : Nat) (w : World) (E : Env) (b : Nat) : Blk → Prop
  | .rows sz rs => (E.own b = .empty ∧ rs = []) ∨
      ∃ (c o : Nat) (arr : Array Value) (ty : TypeId), E.own b = .at c o ∧ base ≤ c ∧ (∀ off, ¬ E.fix c off) ∧ w.heap[c]? = some (.cells arr ty (0, 0)) ∧ RowsIn w E arr o sz rs
  | .map es => ∃ (c : Nat) (ces : Array MapEntry) (clock : Nat), E.own b = .at c 0 ∧ base ≤ c ∧ (∀ off, ¬ E.fix c off) ∧ w.heap[c]? = some (.map ces clock) ∧ MapIn w E es ces clock

structure HeapOk (base : Nat) (w : World) (E : Env) (ah : AH) (F : Nat → Prop) : Prop where
  blk : ∀ b k, ah b = some k → BlkOk base w E b k
  sep : ∀ b b' k k' c o c' o', b ≠ b' → ah b = some k → ah b' = some k' → E.own b = .at c o → E.own b' = .at c' o' → c ≠ c'
  fresh : ∀ b, F b → E.own b = .free
  fixlt : ∀ c o, E.fix c o → c < w.heap.size
  bs : base ≤ w.heap.size
  ownlt : ∀ b c o, E.own b = .at c o → base ≤ c ∧ c < w.heap.size

theorem BlkOk.own {base w E b k} (h : BlkOk base w E b k) : E.own b ≠ .free := by
  cases k with
  | rows sz rs =>
    rcases h with ⟨h, _⟩ | ⟨c, o, _, _, h, _⟩
    · rw [h]; simp
    · rw [h]; simp
  | map es =>
    obtain ⟨c, _, _, h, _⟩ := h
    rw [h]; simp

theorem HeapOk.nofresh {base w E ah F} (h : HeapOk base w E ah F) {b} (hb : F b) : ah b = none := by
  cases e : ah b with
  | none => rfl
  | some k => exact absurd (h.fresh b hb) (h.blk b k e).own

def upd (ah : AH) (b : Nat) (k : Option Blk) : AH := fun j => if j = b then k else ah j
theorem upd_eq {ah : AH} {b k j} (h : j = b) : upd ah b k j = k := by simp [upd, h]
theorem upd_ne {ah : AH} {b k j} (h : j ≠ b) : upd ah b k j = ah j := by simp [upd, h]

/-- One step of a run, seen from its beginning: below 'base' nothing has turned. -/
structure Step (base : Nat) (w : World) (E : Env) (w' : World) (E' : Env) : Prop where
  ext : Ext w E w' E'
  below : RowKit.Below base w w'
  fixold : ∀ c o, c < base → E'.fix c o → E.fix c o

theorem Step.refl (base : Nat) (w : World) (E : Env) : Step base w E w E := ⟨Ext.refl w E, RowKit.Below.refl base w, fun _ _ _ h => h⟩
theorem Step.trans {base w E w' E' w'' E''} (h : Step base w E w' E') (k : Step base w' E' w'' E'') : Step base w E w'' E'' :=
  ⟨h.ext.trans k.ext, h.below.trans k.below, fun c o hc h0 => h.fixold c o hc (k.fixold c o hc h0)⟩

theorem Rep.one {w E a v} (h : Rep w E a v) (hs : a.scal = true) : v.oneCell' = true := by
  cases h with
  | p h => cases v <;> simp_all [AV.scal, Value.oneCell', plainV]
  | agg => simp [AV.scal] at hs
  | tup => simp [AV.scal] at hs
  | _ => rfl

theorem Rep.cells {w E a v} (h : Rep w E a v) (hb : a.boxy = true) :
    RepL w E a.cells v.cells.toList ∧ ∀ c ∈ a.cells, c.scal = true := by
  have single : ∀ (a : AV) (v : Value), a.scal = true → Rep w E a v → v.cells = #[v] → RepL w E [a] v.cells.toList ∧ ∀ c ∈ [a], c.scal = true := by
    intro a v hs h e
    rw [e]
    refine ⟨⟨rfl, fun i x y hx hy => ?_⟩, by simpa using hs⟩
    cases i with
    | zero => simp at hx hy; subst hx; subst hy; exact h
    | succ i => simp at hx
  cases h with
  | p h =>
    cases v with
    | tuple vs => simp [AV.boxy] at hb
    | agg cs => simp [plainV] at h
    | _ => exact single _ _ rfl (.p h) rfl
  | agg cs vs hl hs h => exact ⟨⟨by simpa [Value.cells, AV.cells] using hl, fun i x y hx hy => h i x y (by simpa [AV.cells] using hx) (by simpa [Value.cells] using hy)⟩, by simpa [AV.cells] using hs⟩
  | tup => simp [AV.boxy] at hb
  | str s l h => exact single _ _ rfl (.str s l h) rfl
  | slnil f a => exact single _ _ rfl (.slnil f a) rfl
  | sl rows full sz c o cap g h1 h2 h3 h4 h5 h6 h7 => exact single _ _ rfl (.sl rows full sz c o cap g h1 h2 h3 h4 h5 h6 h7) rfl
  | vp row off c o g h1 h2 h3 h4 => exact single _ _ rfl (.vp row off c o g h1 h2 h3 h4) rfl
  | osnil b sz off a hb' => exact single _ _ rfl (.osnil b sz off a hb') rfl
  | os b sz off len c o cap h1 h2 h3 => exact single _ _ rfl (.os b sz off len c o cap h1 h2 h3) rfl
  | op b sz row off c o h1 => exact single _ _ rfl (.op b sz row off c o h1) rfl
  | fn f first captured vs us h1 h2 h3 h4 => exact single _ _ rfl (.fn f first captured vs us h1 h2 h3 h4) rfl
  | ifc t a v h => exact single _ _ rfl (.ifc t a v h) rfl
  | mp b c h => exact single _ _ rfl (.mp b c h) rfl

end Go.Fw
end

section
namespace Go.Fw

/-! The abstract operations. -/

abbrev AFr := List (Option AV)
def fget : AFr → Nat → Option AV
  | [], _ => none
  | x :: _, 0 => x
  | _ :: r, n + 1 => fget r n
def fset : AFr → Nat → AV → AFr
  | [], _, _ => []
  | _ :: r, 0, a => some a :: r
  | x :: r, n + 1, a => x :: fset r n a
def fput (fr : AFr) (dst : Option Tmp) (a : AV) : AFr := match dst with | some d => fset fr d a | none => fr

def withO {α : Type} (o : Option α) (k : α → Prop) : Prop := match o with | some a => k a | none => False

/-- a way's parting -/
def aIf (t : Bool) (A B : Prop) : Prop := match t with | true => A | false => B
theorem aIf_iff {t : Bool} {A B : Prop} : aIf t A B ↔ if t = true then A else B := by cases t <;> simp [aIf]

def ofC : Value → Option AV
  | .string s => some (.str s.data.toList)
  | .slice none 0 0 => some (.sl [] true)
  | .bool b => some (.p (.bool b))
  | .int k n => some (.p (.int k n))
  | .float k n => some (.p (.float k n))
  | .nilFunc => some (.p .nilFunc)
  | .nilIface => some (.p .nilIface)
  | .pointer none => some (.p (.pointer none))
  | .map none => some (.p (.map none))
  | _ => none
def ofV : Value → Option AV
  | .agg cs => (cs.toList.mapM ofC).map .agg
  | .tuple vs => if vs.isEmpty = true then some (.p (.tuple vs)) else none
  | v => ofC v

def ev (fr : AFr) : Operand → Option AV
  | .tmp t => fget fr t
  | .const v => ofV v
  | .func f => some (.fn (.func f) [] [])
  | .global _ => none

/-- of a type: is it a struct or an array; how many cells -/
def isAggD : TypeDesc → Bool
  | .struct _ | .array _ _ => true
  | _ => false
def tyOf (P : Program) (t : TypeId) : Option (Bool × Nat) := (P.underlying t).bind fun d => (P.info? t).map fun i => (isAggD d, i.size)
/-- of a struct type's field: offset, is it a struct or an array, how many cells -/
def fldOf (P : Program) (s : TypeId) (k : Nat) : Option (Nat × Bool × Nat) :=
  match P.underlying s with
  | some (.struct fs) => (fs[k]?).bind fun f => (tyOf P f.type).map fun t => (f.offset, t.1, t.2)
  | _ => none
/-- of a slice type's element: cells, bytes -/
def slElem (P : Program) (t : TypeId) : Option (Nat × Nat) :=
  match P.underlying t with
  | some (.slice e) => (P.info? e).map fun i => (i.size, i.bytes)
  | _ => none
def arrElem (P : Program) (t : TypeId) : Option (Nat × Nat × Bool) :=
  match P.underlying t with
  | some (.array n e) => (tyOf P e).map fun i => (n, i.2, i.1)
  | _ => none

structure Res where
  v : AV
  wr : List (Nat × Option Blk)
  rd : List Nat
def upds (ah : AH) : List (Nat × Option Blk) → AH
  | [] => ah
  | (b, k) :: r => upds (upd ah b k) r
abbrev Res.val (a : AV) : Res := ⟨a, [], []⟩

/-- a part of a row of cells, as a value of a type -/
def apart (t : Bool × Nat) (row : List AV) (off : Nat) (k : AV → Prop) : Prop :=
  if t.1 = true then off + t.2 ≤ row.length ∧ k (.agg ((row.drop off).take t.2)) else withO row[off]? k

def aLoad (P : Program) (ah : AH) (t : TypeId) (a : AV) (K : Res → Prop) : Prop :=
  withO (tyOf P t) fun ty =>
  match a with
  | .vp row off => apart ty row off fun x => K (.val x)
  | .op b sz i off => match ah b with
    | some (.rows sz' rs) => sz = sz' ∧ withO rs[i]? fun row => apart ty row off fun x => K ⟨x, [], [b]⟩
    | _ => False
  | _ => False


/-- cells laid over a row -/
def lay (row : List AV) (off : Nat) (cs : List AV) : List AV := row.take off ++ cs ++ row.drop (off + cs.length)

def aStore (P : Program) (ah : AH) (t : TypeId) (a v : AV) (K : Res → Prop) : Prop :=
  withO (tyOf P t) fun ty =>
  match a with
  | .op b sz i off => match ah b with
    | some (.rows sz' rs) => sz = sz' ∧ v.boxy = true ∧ v.cells.length = ty.2 ∧ withO rs[i]? fun row => off + ty.2 ≤ row.length ∧
        K ⟨.p undef, [(b, some (.rows sz (rs.set i (lay row off v.cells))))], [b]⟩
    | _ => False
  | _ => False

def aFieldAddr (P : Program) (s : TypeId) (a : AV) (k : Nat) (K : Res → Prop) : Prop :=
  withO (fldOf P s k) fun f => f.2.2 ≠ 0 ∧
  match a with
  | .vp row off => K (.val (.vp row (off + f.1)))
  | .op b sz i off => K (.val (.op b sz i (off + f.1)))
  | _ => False

def aField (P : Program) (s : TypeId) (a : AV) (k : Nat) (K : Res → Prop) : Prop :=
  withO (fldOf P s k) fun f =>
  match a with
  | .agg cs => apart f.2 cs f.1 fun x => K (.val x)
  | _ => False

def aIndexAddr (P : Program) (t : TypeId) (x i : AV) (K : Res → Prop) : Prop :=
  match i with
  | .p (.int _ n) =>
    match x with
    | .sl rows _ => withO (slElem P t) fun e => 0 ≤ n ∧ withO rows[n.toNat]? fun row => row.length = e.1 ∧ K (.val (.vp row 0))
    | .os b sz off len => withO (slElem P t) fun e => 0 ≤ n ∧ n.toNat < len ∧ sz = e.1 ∧ K (.val (.op b sz (off + n.toNat) 0))
    | .vp row off => withO (arrElem P t) fun e => 0 ≤ n ∧ n.toNat < e.1 ∧ K (.val (.vp row (off + n.toNat * e.2.1)))
    | .op b sz j off => withO (arrElem P t) fun e => 0 ≤ n ∧ n.toNat < e.1 ∧ K (.val (.op b sz j (off + n.toNat * e.2.1)))
    | _ => False
  | _ => False

def aIndex (P : Program) (t : TypeId) (x i : AV) (K : Res → Prop) : Prop :=
  match i with
  | .p (.int _ n) =>
    match x with
    | .str s => (P.underlying t = some .string) ∧ 0 ≤ n ∧ withO s[n.toNat]? fun b => K (.val (.p (.int .u8 b.toNat)))
    | .agg cs => withO (arrElem P t) fun e => 0 ≤ n ∧ n.toNat < e.1 ∧ apart (e.2.2, e.2.1) cs (n.toNat * e.2.1) fun x => K (.val x)
    | _ => False
  | _ => False

def aExtract (x : AV) (k : Nat) (K : Res → Prop) : Prop :=
  match x with
  | .tup vs => withO vs[k]? fun a => K (.val a)
  | _ => False

/-! equality -/
def apartV (t : Bool × Nat) (row : List AV) (off : Nat) : Option AV :=
  if t.1 = true then (if off + t.2 ≤ row.length then some (.agg ((row.drop off).take t.2)) else none) else row[off]?
def aeqF (P : Program) (eqv : TypeId → AV → AV → Option Bool) (xs ys : List AV) : List Field → Option Bool
  | [] => some true
  | f :: fs => if f.name ≠ "_" then (tyOf P f.type).bind fun ty => (apartV ty xs f.offset).bind fun a => (apartV ty ys f.offset).bind fun b =>
        (eqv f.type a b).bind fun r => (aeqF P eqv xs ys fs).map fun s => r && s
      else aeqF P eqv xs ys fs
def aeq (P : Program) : Nat → TypeId → AV → AV → Option Bool
  | 0, _, _, _ => none
  | d + 1, t, x, y =>
    match P.underlying t, x, y with
    | some .bool, .p (.bool a), .p (.bool b) => some (a == b)
    | some (.int _), .p (.int k a), .p (.int k' b) => if k = k' then some (a == b) else none
    | some (.float _), .p (.float k a), .p (.float k' b) => if k = k' then some (Op.floatEq k a b) else none
    | some .string, .str a, .str b => some (decide (a = b))
    | some (.pointer _), .p (.pointer none), .p (.pointer none) => some true
    | some (.pointer _), .p (.pointer none), .vp .. | some (.pointer _), .p (.pointer none), .op .. | some (.pointer _), .vp .., .p (.pointer none)
    | some (.pointer _), .op .., .p (.pointer none) => some false
    | some (.interface _), .p .nilIface, .p .nilIface => some true
    | some (.interface _), .p .nilIface, .ifc .. | some (.interface _), .ifc .., .p .nilIface => some false
    | some (.struct fs), .agg xs, .agg ys =>
      if P.stoodInHeld t = true then none else aeqF P (aeq P d) xs ys fs.toList
    | _, _, _ => none

/-- may 'x == y' be asked without more? -/
def eqOk (P : Program) (t : TypeId) (x : AV) (c : Bool) : Prop :=
  match x with
  | .agg _ => P.eqGuardType P.depth t = false
  | .p .nilIface => c = true
  | _ => True
def isC : Operand → Bool
  | .const _ => true
  | _ => false

def aBin (P : Program) (op : BinOp) (t : TypeId) (c : Bool) (x y : AV) (K : AV → Prop) : Prop :=
  match op, x, y with
  | .shl, .p (.int k a), .p (.int _ b) => 0 ≤ b ∧ K (.p (.int k (k.wrap (a * 2 ^ (min b.toNat k.bits)))))
  | .shr, .p (.int k a), .p (.int _ b) => 0 ≤ b ∧ K (.p (.int k (a.fdiv (2 ^ (min b.toNat k.bits)))))
  | op, .p (.int k a), .p (.int k' b) => k = k' ∧
    match op with
    | .add => K (.p (.int k (k.wrap (a + b))))
    | .sub => K (.p (.int k (k.wrap (a - b))))
    | .mul => K (.p (.int k (k.wrap (a * b))))
    | .quo => b ≠ 0 ∧ K (.p (.int k (k.wrap (a.tdiv b))))
    | .rem => b ≠ 0 ∧ K (.p (.int k (a.tmod b)))
    | .and => K (.p (.int k (k.wrap (BitVec.ofInt k.bits a &&& BitVec.ofInt k.bits b).toNat)))
    | .or => K (.p (.int k (k.wrap (BitVec.ofInt k.bits a ||| BitVec.ofInt k.bits b).toNat)))
    | .xor => K (.p (.int k (k.wrap (BitVec.ofInt k.bits a ^^^ BitVec.ofInt k.bits b).toNat)))
    | .andNot => K (.p (.int k (k.wrap (BitVec.ofInt k.bits a &&& ~~~ BitVec.ofInt k.bits b).toNat)))
    | .eql => K (.p (.bool (a == b)))
    | .neq => K (.p (.bool (a != b)))
    | .lss => K (.p (.bool (decide (a < b))))
    | .leq => K (.p (.bool (decide (a ≤ b))))
    | .gtr => K (.p (.bool (decide (a > b))))
    | .geq => K (.p (.bool (decide (a ≥ b))))
    | _ => False
  | op, .p (.float k a), .p (.float k' b) => k = k' ∧
    match op with
    | .add => withO (k.format.add a b) fun r => K (.p (.float k r))
    | .sub => withO (k.format.sub a b) fun r => K (.p (.float k r))
    | .mul => withO (k.format.mul a b) fun r => K (.p (.float k r))
    | .quo => withO (k.format.div a b) fun r => K (.p (.float k r))
    | .eql => K (.p (.bool (k.format.order a b == some .eq)))
    | .neq => K (.p (.bool (k.format.order a b != some .eq)))
    | .lss => K (.p (.bool (k.format.order a b == some .lt)))
    | .leq => K (.p (.bool (k.format.order a b == some .lt || k.format.order a b == some .eq)))
    | .gtr => K (.p (.bool (k.format.order a b == some .gt)))
    | .geq => K (.p (.bool (k.format.order a b == some .gt || k.format.order a b == some .eq)))
    | _ => False
  | op, .str a, .str b =>
    match op with
    | .add => a.length + b.length ≤ 4294967296 ∧ K (.str (a ++ b))
    | .eql => K (.p (.bool (decide (a = b))))
    | .neq => K (.p (.bool (!decide (a = b))))
    | .lss => K (.p (.bool (Op.bytesLess a b)))
    | .leq => K (.p (.bool (Op.bytesLess a b || decide (a = b))))
    | .gtr => K (.p (.bool (!(Op.bytesLess a b || decide (a = b)))))
    | .geq => K (.p (.bool (!Op.bytesLess a b)))
    | _ => False
  | .eql, x, y => eqOk P t x c ∧ withO (aeq P 10000 t x y) fun r => K (.p (.bool r))
  | .neq, x, y => eqOk P t x c ∧ withO (aeq P 10000 t x y) fun r => K (.p (.bool (!r)))
  | _, _, _ => False

def aUn (op : UnOp) (x : AV) (K : AV → Prop) : Prop :=
  match op, x with
  | .neg, .p (.int k n) => K (.p (.int k (k.wrap (0 - n))))
  | .xor, .p (.int k n) => K (.p (.int k (k.wrap (BitVec.ofInt k.bits (if k.signed then -1 else k.max) ^^^ BitVec.ofInt k.bits n).toNat)))
  | .neg, .p (.float k b) => K (.p (.float k (Op.negFloat k b)))
  | .not, .p (.bool b) => K (.p (.bool (!b)))
  | _, _ => False

def aConvert (P : Program) (src dst : TypeId) (x : AV) (K : AV → Prop) : Prop :=
  (P.underlying src).isSome = true ∧
  match P.underlying dst, x with
  | some (.int k), .p (.int _ n) => K (.p (.int k (k.wrap n)))
  | some (.float k), .p (.int _ n) => K (.p (.float k (k.nearest n)))
  | some (.int k), .p (.float s b) => withO ((s.decode b).toInt .zero) fun n => k.min ≤ n ∧ n ≤ k.max ∧ K (.p (.int k n))
  | some .string, .str s => K (.str s)
  | _, _ => False

def rowsOk (n : Nat) (rows : List (List AV)) : Prop := ∀ row ∈ rows, row.length = n

def oNat : Option AV → Nat → (Nat → Prop) → Prop
  | none, d, k => k d
  | some (.p (.int _ n)), _, k => 0 ≤ n ∧ k n.toNat
  | _, _, _ => False

def aSlice (P : Program) (t : TypeId) (x : AV) (lo hi mx : Option AV) (K : Res → Prop) : Prop :=
  match x with
  | .str s => (P.underlying t = some .string) ∧ mx.isNone = true ∧ oNat lo 0 fun l => oNat hi s.length fun h => l ≤ h ∧ h ≤ s.length ∧ K (.val (.str ((s.drop l).take (h - l))))
  | .sl rows full => withO (slElem P t) fun e => rowsOk e.1 rows ∧ (mx.isSome = true → hi.isSome = true) ∧ oNat lo 0 fun l => oNat hi rows.length fun h => oNat mx rows.length fun m =>
      l ≤ h ∧ h ≤ m ∧ m ≤ rows.length ∧ K (.val (.sl ((rows.drop l).take (h - l)) (if mx.isSome = true then decide (m = h) else full && decide (h = rows.length))))
  | .os b sz off len => withO (slElem P t) fun e => sz = e.1 ∧ (mx.isSome = true → hi.isSome = true) ∧ oNat lo 0 fun l => oNat hi len fun h => oNat mx len fun m =>
      l ≤ h ∧ h ≤ m ∧ m ≤ len ∧ K (.val (.os b sz (off + l) (h - l)))
  | _ => False

/-- the values of a struct or an array, laid part by part over nought -/
def afill (place : Nat → Option (Nat × Nat)) (cells : List AV) : List (Nat × AV) → Option (List AV)
  | [] => some cells
  | (i, v) :: rest =>
    match place i with
    | none => none
    | some (off, size) => if v.boxy = false || v.cells.length ≠ size || off + v.cells.length > cells.length then none else afill place (lay cells off v.cells) rest
def zeroOf (P : Program) (t : TypeId) : Option (List AV) := ((P.info? t).bind (·.zero)).bind fun z => z.cells.toList.mapM ofC
def evL {α : Type} (fr : AFr) : List (α × Operand) → Option (List (α × AV))
  | [] => some []
  | (i, x) :: r => (ev fr x).bind fun a => (evL fr r).map fun l => (i, a) :: l
def evA (fr : AFr) : List Operand → Option (List AV)
  | [] => some []
  | x :: r => (ev fr x).bind fun a => (evA fr r).map fun l => a :: l
def placesOf (P : Program) (t : TypeId) : Option (Nat → Option (Nat × Nat)) :=
  match P.underlying t with
  | some (.struct fs) => (fs.toList.mapM fun f => (P.info? f.type).map fun i => (f.offset, i.size)).map fun l => fun k => l[k]?
  | some (.array _ e) => (P.info? e).map fun i => fun k => some (k * i.size, i.size)
  | _ => none
def aBuild (P : Program) (t : TypeId) (parts : List (Nat × AV)) (K : Res → Prop) : Prop :=
  withO (zeroOf P t) fun z => withO (placesOf P t) fun pl => withO (afill pl z parts) fun cs => K (.val (.agg cs))
def chunks (n : Nat) : Nat → List AV → List (List AV)
  | 0, _ => []
  | k + 1, l => l.take n :: chunks n k (l.drop n)
def aBuildSlice (P : Program) (t : TypeId) (id len : Nat) (parts : List (Nat × AV)) (K : Res → Prop) : Prop :=
  match P.underlying t with
  | some (.slice e) => withO (P.info? e) fun i => withO (zeroOf P e) fun z => z.length = i.size ∧ len * i.size ≤ 16777216 ∧
      withO (afill (fun k => some (k * i.size, i.size)) (List.replicate len z).flatten parts) fun cs =>
        K ⟨.os id i.size 0 len, [(id, some (.rows i.size (chunks i.size len cs)))], []⟩
  | _ => False
def aBox (id : Nat) (v : AV) (K : Res → Prop) : Prop :=
  v.boxy = true ∧ K ⟨.op id v.cells.length 0 0, [(id, some (.rows v.cells.length [v.cells]))], []⟩
def aAlloc (P : Program) (t : TypeId) (id : Nat) (K : Res → Prop) : Prop :=
  withO (zeroOf P t) fun z => K ⟨.op id z.length 0 0, [(id, some (.rows z.length [z]))], []⟩
def aMakeSlice (P : Program) (t : TypeId) (id : Nat) (len cap : AV) (K : Res → Prop) : Prop :=
  match P.underlying t, len, cap with
  | some (.slice e), .p (.int _ l), .p (.int _ c) => withO (P.info? e) fun i => withO (zeroOf P e) fun z => z.length = i.size ∧ 0 ≤ l ∧ l ≤ c ∧ c ≤ 4294967296 ∧ i.bytes ≤ 4096 ∧
      K ⟨.os id i.size 0 l.toNat, [(id, some (.rows i.size (List.replicate l.toNat z)))], []⟩
  | _, _, _ => False

/-- rows that a slice or a string gives -/
def rowsOf (ah : AH) (n : Nat) (x : AV) (k : List (List AV) → List Nat → Prop) : Prop :=
  match x with
  | .sl rows _ => rowsOk n rows ∧ k rows []
  | .os b sz off len => sz = n ∧ (match ah b with
    | some (.rows sz' rs) => sz = sz' ∧ off + len ≤ rs.length ∧ k ((rs.drop off).take len) [b]
    | _ => False)
  | .str s => n = 1 ∧ k (s.map fun b => [.p (.int .u8 b.toNat)]) []
  | _ => False

def aAppend (P : Program) (id : Nat) (ah : AH) (t t2 : TypeId) (x y : AV) (K : Res → Prop) : Prop :=
  withO (slElem P t) fun e => e.2 ≤ 4096 ∧ e.1 ≠ 0 ∧ (match P.underlying t2 with | some (.int _) | none => False | _ => True) ∧
  (((P.underlying t).bind fun d => match d with | .slice el => zeroOf P el | _ => none).map List.length = some e.1) ∧
  rowsOf ah e.1 y fun ys rd =>
  match x with
  | .sl rows full => rowsOk e.1 rows ∧ full = true ∧ (rows = [] ∨ ys ≠ []) ∧ rows.length + ys.length ≤ 4294967296 ∧
      K ⟨.os id e.1 0 (rows.length + ys.length), [(id, some (.rows e.1 (rows ++ ys)))], rd⟩
  | .os b sz off len => sz = e.1 ∧ (match ah b with
    | some (.rows sz' rs) => sz = sz' ∧ off + len ≤ rs.length ∧ len + ys.length ≤ 4294967296 ∧
        K ⟨.os id e.1 0 (len + ys.length), [(b, none), (id, some (.rows e.1 ((rs.drop off).take len ++ ys)))], b :: rd⟩
    | _ => False)
  | _ => False

def aLen (P : Program) (ah : AH) (t : TypeId) (x : AV) (K : Res → Prop) : Prop :=
  match P.underlying t, x with
  | some .string, .str s => K (.val (.p (.int .i64 s.length)))
  | some (.slice _), .sl rows _ => K (.val (.p (.int .i64 rows.length)))
  | some (.slice _), .os _ _ _ len => K (.val (.p (.int .i64 len)))
  | some (.map _ _), .p (.map none) => K (.val (.p (.int .i64 0)))
  | some (.map _ _), .mp b => (match ah b with
    | some (.map es) => K ⟨.p (.int .i64 es.length), [], [b]⟩
    | _ => False)
  | _, _ => False

def aMinMax (mx : Bool) : List AV → (AV → Prop) → Prop
  | [.p (.int k a), .p (.int k' b)], K => k = k' ∧ K (.p (.int k (if mx then (if a < b then b else a) else (if b < a then b else a))))
  | _, _ => False

/-! Calls. -/
 mutual
/-- an argument for a call that keeps nothing: what is owned is told as it stands -/
def frz (ah : AH) : AV → Option AV
  | .p v => some (.p v)
  | .str s => some (.str s)
  | .agg cs => (frzL ah cs).map .agg
  | .tup cs => (frzL ah cs).map .tup
  | .sl rows _ => (frzLL ah rows).map fun r => .sl r false
  | .vp row off => (frzL ah row).map fun r => .vp r off
  | .os b sz off len => match ah b with
    | some (.rows sz' rs) => if sz = sz' ∧ off + len ≤ rs.length ∧ cleanLL rs = true then some (.sl ((rs.drop off).take len) false) else none
    | _ => none
  | .op b sz i off => match ah b with
    | some (.rows sz' rs) => if sz = sz' ∧ cleanLL rs = true then (rs[i]?).map fun row => .vp row off else none
    | _ => none
  | .fn f first captured => (frzL ah first).bind fun x => (frzL ah captured).map fun y => .fn f x y
  | .ifc t v => (frz ah v).map (.ifc t)
  | .mp _ => none
def frzL (ah : AH) : List AV → Option (List AV)
  | [] => some []
  | a :: r => (frz ah a).bind fun x => (frzL ah r).map fun y => x :: y
def frzLL (ah : AH) : List (List AV) → Option (List (List AV))
  | [] => some []
  | a :: r => (frzL ah a).bind fun x => (frzLL ah r).map fun y => x :: y
end

 mutual
def AV.refs : AV → List Nat
  | .p _ | .str _ => []
  | .agg cs => refsL cs
  | .tup cs => refsL cs
  | .sl rows _ => refsLL rows
  | .vp row _ => refsL row
  | .fn _ first captured => refsL first ++ refsL captured
  | .ifc _ v => v.refs
  | .os b _ _ _ => [b]
  | .op b _ _ _ => [b]
  | .mp b => [b]
def refsL : List AV → List Nat
  | [] => []
  | a :: r => a.refs ++ refsL r
def refsLL : List (List AV) → List Nat
  | [] => []
  | a :: r => refsL a ++ refsLL r
end

def freeEnv (fix : Nat → Nat → Prop) : Env := ⟨fix, fun _ => .free⟩

/-- THE CONTRACT OF A CALL THAT KEEPS NOTHING AND CHANGES NOTHING: of such arguments it returns this. -/
def PC (P : Program) (f : FuncId) (args : List AV) (r : AV) : Prop :=
  ∀ (w : World) (fix : Nat → Nat → Prop) (vs : List Value), (∀ c o, fix c o → c < w.heap.size) → RepL w (freeEnv fix) args vs →
    match P.funcs[f]? with
    | none => False
    | some fn =>
      if fn.body.isNone = true then ∃ v, (callFunc f vs.toArray).run P w = .ok (.value v) w ∧ Rep w (freeEnv fix) r v
      else fn.name ≠ "runtime.NumGoroutine" ∧ Calls P f vs.toArray w fun e w' => ∃ v fix', e = .returned v ∧ Step w.heap.size w (freeEnv fix) w' (freeEnv fix') ∧
        (∀ c o, fix' c o → c < w'.heap.size) ∧ Rep w' (freeEnv fix') r v

def aCall (P : Program) (ah : AH) (f : FuncId) (args : List AV) (K : Res → Prop) : Prop :=
  withO (frzL ah args) fun as => ∃ as' r, (∀ w E vs, RepL w E as vs → RepL w E as' vs) ∧ PC P f as' r ∧ (cleanL args = true ∨ r.flat = true) ∧ K ⟨r, [], refsL args⟩

def aOp (P : Program) (id : Nat) (fr : AFr) (ah : AH) (op : Op) (K : Res → Prop) : Prop :=
  let o (x : Operand) (k : AV → Prop) : Prop := withO (ev fr x) k
  match op with
  | .move x | .assign x => o x fun a => K (.val a)
  | .pick c a b => o c fun | .p (.bool t) => aIf t (o a fun x => K (.val x)) (o b fun x => K (.val x)) | _ => False
  | .load t a => o a fun a => aLoad P ah t a K
  | .store t a v => o a fun a => o v fun v => aStore P ah t a v K
  | .fieldAddr s x k => o x fun a => aFieldAddr P s a k K
  | .field s x k => o x fun a => aField P s a k K
  | .indexAddr t x i => o x fun x => o i fun i => aIndexAddr P t x i K
  | .index t x i => o x fun x => o i fun i => aIndex P t x i K
  | .extract x k => o x fun x => aExtract x k K
  | .binOp op t x y _ => o x fun x' => o y fun y' => aBin P op t (isC x || isC y) x' y' fun a => K (.val a)
  | .unOp op _ x => o x fun x => aUn op x fun a => K (.val a)
  | .convert s d x => o x fun x => aConvert P s d x fun a => K (.val a)
  | .slice t x lo hi mx => o x fun x => withO (evL fr (lo.toList.map (((), ·)))) fun l => withO (evL fr (hi.toList.map (((), ·)))) fun h =>
      withO (evL fr (mx.toList.map (((), ·)))) fun m => aSlice P t x (l.head?.map (·.2)) (h.head?.map (·.2)) (m.head?.map (·.2)) K
  | .build t parts => withO (evL fr parts.toList) fun ps => aBuild P t ps K
  | .buildSlice t len parts => withO (evL fr parts.toList) fun ps => aBuildSlice P t id len ps K
  | .box _ v => o v fun v => aBox id v K
  | .alloc t => aAlloc P t id K
  | .makeSlice t l c => o l fun l => o c fun c => aMakeSlice P t id l c K
  | .makeFunc fn first captured => withO (evA fr first.toList) fun a => withO (evA fr captured.toList) fun b => K (.val (.fn fn a b))
  | .call ⟨.builtin .len, args, ts⟩ => withO (evA fr args.toList) fun | [x] => withO ts[0]? fun t => aLen P ah t x K | _ => False
  | .call ⟨.builtin .append, args, ts⟩ => withO (evA fr args.toList) fun | [x, y] => withO ts[0]? fun t => withO ts[1]? fun t2 => aAppend P id ah t t2 x y K | _ => False
  | .call ⟨.builtin .min, args, _⟩ => withO (evA fr args.toList) fun l => aMinMax false l fun a => K (.val a)
  | .call ⟨.builtin .max, args, _⟩ => withO (evA fr args.toList) fun l => aMinMax true l fun a => K (.val a)
  | .call ⟨.value (.func f), args, _⟩ => withO (evA fr args.toList) fun l => aCall P ah f l K
  | _ => False

end Go.Fw
end

section
namespace Go.Fw
set_option linter.unusedSimpArgs false
set_option linter.unusedVariables false

theorem withO_iff {α : Type} {o : Option α} {k : α → Prop} : withO o k ↔ ∃ a, o = some a ∧ k a := by
  cases o <;> simp [withO]

theorem fget_fset {a : AV} : ∀ {fr : AFr} {n i : Nat}, fget (fset fr n a) i = if i = n ∧ n < fr.length then some a else fget fr i
  | [], n, i => by cases n <;> simp [fset, fget]
  | x :: r, 0, 0 => by simp [fset, fget]
  | x :: r, 0, i + 1 => by simp [fset, fget]
  | x :: r, n + 1, 0 => by simp [fset, fget]
  | x :: r, n + 1, i + 1 => by simp [fset, fget, fget_fset (fr := r)]
theorem length_fset {a : AV} : ∀ {fr : AFr} {n : Nat}, (fset fr n a).length = fr.length
  | [], n => by cases n <;> rfl
  | x :: r, 0 => rfl
  | x :: r, n + 1 => by simp [fset, length_fset (fr := r)]
theorem fget_lt : ∀ {fr : AFr} {i : Nat} {a : AV}, fget fr i = some a → i < fr.length
  | [], i, a, h => by cases i <;> simp [fget] at h
  | x :: r, 0, a, h => by simp
  | x :: r, i + 1, a, h => by have := fget_lt (fr := r) (i := i) (a := a) h; simp; omega

structure FrOk (w : World) (E : Env) (fr : AFr) (tmps : Array Value) : Prop where
  size : fr.length ≤ tmps.size
  get : ∀ (i : Nat) (a : AV), fget fr i = some a → ∃ v, tmps[i]? = some v ∧ Rep w E a v

theorem FrOk.mono {w E w' E' fr tmps} (h : FrOk w E fr tmps) (hx : Ext w E w' E') : FrOk w' E' fr tmps :=
  ⟨h.size, fun i a hi => let ⟨v, h1, h2⟩ := h.get i a hi; ⟨v, h1, h2.mono hx⟩⟩

theorem FrOk.put {w E fr} {a : Act} (h : FrOk w E fr a.tmps) (dst : Option Tmp) {x v} (hx : Rep w E x v) : FrOk w E (fput fr dst x) (a.put dst v).tmps := by
  cases dst with
  | none => exact h
  | some d =>
    refine ⟨by simpa [fput, length_fset, Act.put] using h.size, fun i y hy => ?_⟩
    simp only [fput, fget_fset] at hy
    simp only [Act.put, Array.getElem?_setIfInBounds]
    split at hy
    · rename_i hc
      obtain ⟨rfl, hc⟩ := hc
      cases hy
      have hlt : i < a.tmps.size := by have := h.size; omega
      exact ⟨v, by simp [hlt], hx⟩
    · rename_i hc
      have hlt := fget_lt hy
      have : d ≠ i := fun e => hc ⟨e.symm, by rw [e]; exact hlt⟩
      simp only [this, if_false]
      exact h.get i y hy

theorem ofC_rep {w E v a} (h : ofC v = some a) : Rep w E a v ∧ a.scal = true := by
  unfold ofC at h
  split at h <;> first | (cases h; done) | (cases h; exact ⟨.str _ _ rfl, rfl⟩) | (cases h; exact ⟨.slnil _ _, rfl⟩) | (cases h; exact ⟨.p rfl, rfl⟩)

theorem mapM_ofC {w E} : ∀ {l : List Value} {cs : List AV}, l.mapM ofC = some cs → RepL w E cs l ∧ ∀ c ∈ cs, c.scal = true := by
  intro l
  induction l with
  | nil => intro cs h; simp at h; subst h; exact ⟨⟨rfl, fun i a v h => by simp at h⟩, by simp⟩
  | cons v l ih =>
    intro cs h
    simp only [List.mapM_cons, Option.pure_def, Option.bind_eq_bind, Option.bind_eq_some_iff] at h
    obtain ⟨a, ha, r, hr, he⟩ := h
    cases he
    obtain ⟨⟨h1, h2⟩, h3⟩ := ih hr
    obtain ⟨h4, h5⟩ := ofC_rep (w := w) (E := E) ha
    refine ⟨⟨by simp [h1], fun i x y hx hy => ?_⟩, fun c hc => ?_⟩
    · cases i with
      | zero => simp at hx hy; subst hx; subst hy; exact h4
      | succ i => simp at hx hy; exact h2 i x y hx hy
    · rcases List.mem_cons.1 hc with rfl | hc
      · exact h5
      · exact h3 c hc

theorem ofV_rep {w E v a} (h : ofV v = some a) : Rep w E a v := by
  unfold ofV at h
  split at h
  · rename_i cs
    obtain ⟨l, hl, he⟩ := Option.map_eq_some_iff.1 h
    cases he
    obtain ⟨⟨h1, h2⟩, h3⟩ := mapM_ofC (w := w) (E := E) hl
    exact .agg l cs (by simpa using h1) h3 (fun i c v hc hv => h2 i c v hc (by simpa using hv))
  · rename_i vs
    split at h
    · rename_i hv; cases h; exact .p hv
    · cases h
  · exact (ofC_rep h).1

theorem ev_rep {w E fr} {a : Act} (h : FrOk w E fr a.tmps) {x : Operand} {av : AV} (he : ev fr x = some av) : Rep w E av (a.eval x) := by
  cases x with
  | tmp t =>
    obtain ⟨v, h1, h2⟩ := h.get t av he
    have e : a.eval (.tmp t) = v := by simp [Act.eval, h1]
    rw [e]; exact h2
  | const v => exact ofV_rep he
  | func f => cases he; exact .fn _ _ _ _ _ rfl rfl (fun i c v h => by simp at h) (fun i c v h => by simp at h)
  | global g => cases he

theorem evA_rep {w E fr} {a : Act} (h : FrOk w E fr a.tmps) : ∀ {l : List Operand} {as : List AV}, evA fr l = some as → RepL w E as (l.map a.eval)
  | [], as, he => by cases he; exact ⟨rfl, fun i x y hx => by simp at hx⟩
  | x :: r, as, he => by
    simp only [evA, Option.bind_eq_some_iff, Option.map_eq_some_iff] at he
    obtain ⟨y, hy, l, hl, rfl⟩ := he
    have ih := evA_rep h hl
    refine ⟨by simpa using ih.1, fun i x' v' hx hv => ?_⟩
    cases i with
    | zero => simp at hx hv; subst hx; subst hv; exact ev_rep h hy
    | succ i => simp at hx hv; exact ih.2 i x' v' hx (by simpa using hv)

theorem evL_rep {α : Type} {w E fr} {a : Act} (h : FrOk w E fr a.tmps) : ∀ {l : List (α × Operand)} {as : List (α × AV)}, evL fr l = some as →
    as.length = l.length ∧ ∀ (i : Nat) (p : α × AV) (q : α × Operand), as[i]? = some p → l[i]? = some q → p.1 = q.1 ∧ Rep w E p.2 (a.eval q.2)
  | [], as, he => by cases he; exact ⟨rfl, fun i x y hx => by simp at hx⟩
  | (k, x) :: r, as, he => by
    simp only [evL, Option.bind_eq_some_iff, Option.map_eq_some_iff] at he
    obtain ⟨y, hy, l, hl, rfl⟩ := he
    have ih := evL_rep h hl
    refine ⟨by simpa using ih.1, fun i p q hx hv => ?_⟩
    cases i with
    | zero => simp at hx hv; subst hx; subst hv; exact ⟨rfl, ev_rep h hy⟩
    | succ i => simp at hx hv; exact ih.2 i p q hx hv

section
variable {P : Program}

theorem tyOf_run {t ty} (h : tyOf P t = some ty) (w : World) : (isAgg t).run P w = .ok ty.1 w ∧ (sizeOf t).run P w = .ok ty.2 w ∧ ∃ d i, P.underlying t = some d ∧ P.info? t = some i ∧ ty = (isAggD d, i.size) := by
  unfold tyOf at h
  simp only [Option.bind_eq_some_iff, Option.map_eq_some_iff] at h
  obtain ⟨d, hd, i, hi, rfl⟩ := h
  refine ⟨?_, ?_, d, i, hd, hi, rfl⟩
  · unfold isAgg
    rw [Sem.run_bind, run_underlying hd w]
    cases d <;> simp [isAggD]
  · simp [sizeOf, typeInfo, hi]

/-- an operation that only reads -/
def RdOk (P : Program) (w : World) (E : Env) (s : Sem Value) (K : Res → Prop) : Prop := ∃ r v, K r ∧ r.wr = [] ∧ s.run P w = .ok v w ∧ Rep w E r.v v

theorem loadVar_apart {w E t ty row off} {K : AV → Prop} (hty : tyOf P t = some ty) (h : apart ty row off K) {c o : Nat} {g : Nat → Value}
    (hcell : ∀ (j : Nat) (x : AV), row[j]? = some x → w.cell? ⟨c, o + j, none⟩ = some (g j)) (hrep : ∀ (j : Nat) (x : AV), row[j]? = some x → Rep w E x (g j))
    (hscal : ∀ x ∈ row, x.scal = true) : ∃ x v, K x ∧ (loadVar t ⟨c, o + off, none⟩).run P w = .ok v w ∧ Rep w E x v := by
  obtain ⟨h1, h2, -⟩ := tyOf_run hty w
  unfold apart at h
  split at h
  · rename_i hb
    obtain ⟨hle, hK⟩ := h
    have hx : ∀ j, j < ty.2 → row[off + j]? = some row[off + j]! := fun j hj => by simp [List.getElem?_eq_getElem (show off + j < row.length by omega), show off + j < row.length by omega]
    refine ⟨_, .agg ((List.range ty.2).map fun j => g (off + j)).toArray, hK, ?_, ?_⟩
    · simp only [loadVar, Sem.run_bind, h1, Result.andThen_ok, hb, if_true, h2]
      rw [run_loadCells w _ ty.2 (fun j => g (off + j)) (fun j hj => by
        rw [Addr.add_lit, Nat.add_assoc]
        exact hcell _ _ (hx j hj))]
      rfl
    · refine .agg _ _ (by simp; omega) (fun x hx' => hscal x (List.mem_of_mem_drop (List.mem_of_mem_take hx'))) (fun i x v hx' hv => ?_)
      have hi : i < ty.2 := by
        rcases Nat.lt_or_ge i ty.2 with h | h
        · exact h
        · simp [h] at hv
      have hv' : v = g (off + i) := by simpa [hi, eq_comm] using hv
      rw [hv']
      refine hrep _ _ ?_
      simpa [List.getElem?_take, hi] using hx'
  · rename_i hb
    obtain ⟨x, hx, hK⟩ := withO_iff.1 h
    refine ⟨x, g off, hK, ?_, hrep _ _ hx⟩
    have hb' : ty.1 = false := by simpa using hb
    simp [loadVar, Sem.run_bind, h1, hb', hcell off x hx]

theorem part_apart {w E t ty row off} {K : AV → Prop} (hty : tyOf P t = some ty) (h : apart ty row off K) {cs : Array Value} (hr : Rep w E (.agg row) (.agg cs)) :
    ∃ x v, K x ∧ (part t cs off).run P w = .ok v w ∧ Rep w E x v := by
  obtain ⟨h1, h2, -⟩ := tyOf_run hty w
  cases hr with
  | agg _ _ hl hscal hrep =>
  unfold apart at h
  split at h
  · rename_i hb
    obtain ⟨hle, hK⟩ := h
    refine ⟨_, .agg (cs.extract off (off + ty.2)), hK, by simp [part, Sem.run_bind, h1, hb, h2], ?_⟩
    refine .agg _ _ (by simp; omega) (fun x hx' => hscal x (List.mem_of_mem_drop (List.mem_of_mem_take hx'))) (fun i x v hx' hv => ?_)
    have hi : i < ty.2 := by
      rcases Nat.lt_or_ge i ty.2 with h | h
      · exact h
      · simp [List.getElem?_take] at hx'; omega
    refine hrep (off + i) x v (by simpa [List.getElem?_take, hi] using hx') ?_
    rw [Array.getElem?_extract] at hv
    split at hv
    · exact hv
    · cases hv
  · rename_i hb
    obtain ⟨x, hx, hK⟩ := withO_iff.1 h
    have hb' : ty.1 = false := by simpa using hb
    have hlt : off < cs.size := by
      rw [← hl]
      exact (List.getElem?_eq_some_iff.1 hx).1
    exact ⟨x, cs[off], hK, by simp [part, Sem.run_bind, h1, hb', hlt], hrep off x _ hx (by simp [hlt])⟩

variable {base : Nat} {w : World} {E : Env} {ah : AH} {F : Nat → Prop} {K : Res → Prop}

/-- the cells of an owned row -/
theorem HeapOk.row (hh : HeapOk base w E ah F) {b sz rs i row c o} (hb : ah b = some (.rows sz rs)) (hrow : rs[i]? = some row) (ho : E.own b = .at c o) :
    ∃ (g : Nat → Value) (arr : Array Value) (ty : TypeId), w.heap[c]? = some (.cells arr ty (0, 0)) ∧ base ≤ c ∧ o + rs.length * sz ≤ arr.size ∧ row.length = sz ∧ (∀ x ∈ row, x.scal = true) ∧
      (∀ (j : Nat) (x : AV), row[j]? = some x → w.cell? ⟨c, o + i * sz + j, none⟩ = some (g j)) ∧ (∀ (j : Nat) (x : AV), row[j]? = some x → Rep w E x (g j)) := by
  rcases hh.blk b _ hb with ⟨_, h⟩ | ⟨c', o', arr, ty, h1, h2, h3, h4, h5, h6, h7, h8⟩
  · rw [h] at hrow; simp at hrow
  · rw [ho] at h1
    cases h1
    refine ⟨fun j => arr.getD (o + i * sz + j) undef, arr, ty, h4, h2, h5, h6 i row hrow, h7 row (List.mem_of_getElem? hrow), fun j x hx => ?_, fun j x hx => ?_⟩
    · obtain ⟨v, hv, _⟩ := h8 i row j x hrow hx
      rw [cell_of_row w c _ arr ty (0, 0) h4, hv]
      simp [hv]
    · obtain ⟨v, hv, hr⟩ := h8 i row j x hrow hx
      simp [hv]
      exact hr

theorem aLoad_rd (hh : HeapOk base w E ah F) {t a va} (h : aLoad P ah t a K) (hr : Rep w E a va) : RdOk P w E (Instr.loadAt t va) K := by
  obtain ⟨ty, hty, h⟩ := withO_iff.1 h
  cases hr with
  | vp row off c o g hfix hcell hscal hrep =>
    obtain ⟨x, v, hK, hrun, hx⟩ := loadVar_apart hty h hcell hrep hscal
    exact ⟨_, v, hK, rfl, by simp [Instr.loadAt, Instr.sureAddr, hrun], hx⟩
  | op b sz row off c o hb =>
    dsimp only at h
    split at h
    · rename_i sz' rs hab
      obtain ⟨rfl, h⟩ := h
      obtain ⟨rw_, hrow, h⟩ := withO_iff.1 h
      obtain ⟨g, arr, tt, -, -, -, hl, hscal, hcell, hrep⟩ := hh.row hab hrow hb
      obtain ⟨x, v, hK, hrun, hx⟩ := loadVar_apart hty h hcell hrep hscal
      exact ⟨_, v, hK, rfl, by simp [Instr.loadAt, Instr.sureAddr, hrun], hx⟩
    · exact h.elim
  | _ => exact h.elim

theorem fldOf_run {s k f} (h : fldOf P s k = some f) : ∃ (fs : Array Field) (fl : Field), P.underlying s = some (.struct fs) ∧ fs[k]? = some fl ∧ fl.offset = f.1 ∧ tyOf P fl.type = some f.2 := by
  unfold fldOf at h
  split at h
  · rename_i fs hu
    simp only [Option.bind_eq_some_iff, Option.map_eq_some_iff] at h
    obtain ⟨fl, hfl, t, ht, rfl⟩ := h
    exact ⟨fs, fl, hu, hfl, rfl, ht⟩
  · cases h

theorem aFieldAddr_rd {s a k va} (h : aFieldAddr P s a k K) (hr : Rep w E a va) : RdOk P w E (Instr.fieldAt s va k) K := by
  obtain ⟨f, hf, h0, h⟩ := withO_iff.1 h
  obtain ⟨fs, fl, hu, hfl, hoff, hty⟩ := fldOf_run hf
  obtain ⟨-, hsz, -⟩ := tyOf_run hty w
  have run : ∀ c o, (Instr.fieldAt s (.pointer (some ⟨c, o, none⟩)) k).run P w = .ok (.pointer (some ⟨c, o + f.1, none⟩)) w := fun c o => by
    simp [Instr.fieldAt, Instr.sureAddr, run_underlying hu, hfl, fieldPlace, hsz, h0, Addr.add_lit, hoff]
  cases hr with
  | vp row off c o g hfix hcell hscal hrep => exact ⟨_, _, h, rfl, run _ _, by rw [Nat.add_assoc]; exact .vp row _ c o g hfix hcell hscal hrep⟩
  | op b sz row off c o hb => exact ⟨_, _, h, rfl, run _ _, by rw [Nat.add_assoc]; exact .op b sz row _ c o hb⟩
  | _ => exact h.elim

theorem aField_rd {s a k va} (h : aField P s a k K) (hr : Rep w E a va) : RdOk P w E (Instr.field s va k) K := by
  obtain ⟨f, hf, h⟩ := withO_iff.1 h
  obtain ⟨fs, fl, hu, hfl, hoff, hty⟩ := fldOf_run hf
  cases a with
  | agg cs =>
    cases hr with
    | agg _ vs hl hs hrep =>
      obtain ⟨x, v, hK, hrun, hx⟩ := part_apart hty h (.agg cs vs hl hs hrep)
      exact ⟨_, v, hK, rfl, by simp [Instr.field, run_underlying hu, hfl, asAgg, hoff, hrun], hx⟩
  | _ => exact h.elim
end
end Go.Fw
end

section
namespace Go.Fw
set_option linter.unusedSimpArgs false
set_option linter.unusedVariables false
section
variable {P : Program} {base : Nat} {w : World} {E : Env} {ah : AH} {F : Nat → Prop} {K : Res → Prop}

theorem slElem_run {t e} (h : slElem P t = some e) : ∃ (el : TypeId) (i : TypeInfo), P.underlying t = some (.slice el) ∧ P.info? el = some i ∧ e = (i.size, i.bytes) := by
  unfold slElem at h
  split at h
  · rename_i el hu
    obtain ⟨i, hi, rfl⟩ := Option.map_eq_some_iff.1 h
    exact ⟨el, i, hu, hi, rfl⟩
  · cases h
theorem arrElem_run {t e} (h : arrElem P t = some e) : ∃ (n : Nat) (el : TypeId) (ty : Bool × Nat), P.underlying t = some (.array n el) ∧ tyOf P el = some ty ∧ e = (n, ty.2, ty.1) := by
  unfold arrElem at h
  split at h
  · rename_i n el hu
    obtain ⟨i, hi, rfl⟩ := Option.map_eq_some_iff.1 h
    exact ⟨n, el, i, hu, hi, rfl⟩
  · cases h

theorem Rep.int_inv {k n v} (h : Rep w E (.p (.int k n)) v) : v = .int k n := by cases h; rfl
theorem Rep.p_inv {u v} (h : Rep w E (.p u) v) : v = u := by cases h; rfl

theorem aIndexAddr_rd {t x i vx vi} (h : aIndexAddr P t x i K) (hx : Rep w E x vx) (hi : Rep w E i vi) : RdOk P w E (Instr.indexAt t vx vi) K := by
  unfold aIndexAddr at h
  split at h
  · rename_i k n
    obtain rfl := hi.int_inv
    split at h
    · rename_i rows full
      obtain ⟨e, he, h0, h⟩ := withO_iff.1 h
      obtain ⟨row, hrow, hlen, hK⟩ := withO_iff.1 h
      obtain ⟨el, inf, hu, hinf, rfl⟩ := slElem_run he
      have hlt : n.toNat < rows.length := (List.getElem?_eq_some_iff.1 hrow).1
      cases hx with
      | slnil => simp at hlt
      | sl _ _ sz c o cap g hcap hfull hsz hfix hcell hscal hrep =>
        have hsz' : sz = inf.size := by rw [← hsz _ row hrow]; exact hlen
        subst hsz'
        refine ⟨_, .pointer (some ⟨c, o + n.toNat * inf.size, none⟩), hK, rfl, ?_, ?_⟩
        · simp [Instr.indexAt, asIntOf, run_underlying hu, sizeOf, typeInfo, hinf, Addr.add_lit, h0]
          intro; omega
        · have := Rep.vp (w := w) (E := E) row 0 c (o + n.toNat * inf.size) (g n.toNat) (fun j x hx => hfix _ row j x hrow hx) (fun j x hx => hcell _ row j x hrow hx)
            (hscal row (List.mem_of_getElem? hrow)) (fun j x hx => hrep _ row j x hrow hx)
          simpa using this
    · rename_i b sz off len
      obtain ⟨e, he, h0, hlt, hsz, hK⟩ := withO_iff.1 h
      obtain ⟨el, inf, hu, hinf, rfl⟩ := slElem_run he
      dsimp only at hsz
      subst hsz
      cases hx with
      | osnil => omega
      | os _ _ _ _ c o cap hb hcap hsize =>
        refine ⟨_, .pointer (some ⟨c, o + off * inf.size + n.toNat * inf.size, none⟩), hK, rfl, ?_, ?_⟩
        · simp [Instr.indexAt, asIntOf, run_underlying hu, sizeOf, typeInfo, hinf, Addr.add_lit, h0]
          intro; omega
        · have := Rep.op (w := w) (E := E) b inf.size (off + n.toNat) 0 c o hb
          rw [Nat.add_mul, ← Nat.add_assoc] at this
          simpa using this
    · rename_i row off
      obtain ⟨e, he, h0, hlt, hK⟩ := withO_iff.1 h
      obtain ⟨m, el, ty, hu, hty, rfl⟩ := arrElem_run he
      obtain ⟨-, hs, -⟩ := tyOf_run hty w
      cases hx with
      | vp _ _ c o g hfix hcell hscal hrep =>
        refine ⟨_, .pointer (some ⟨c, o + (off + n.toNat * ty.2), none⟩), hK, rfl, ?_, .vp row _ c o g hfix hcell hscal hrep⟩
        have : n < (m : Int) := by dsimp only at hlt; omega
        simp [Instr.indexAt, Instr.sureAddr, asIntOf, run_underlying hu, hs, Addr.add_lit, h0, this, Nat.add_assoc]
    · rename_i b sz j off
      obtain ⟨e, he, h0, hlt, hK⟩ := withO_iff.1 h
      obtain ⟨m, el, ty, hu, hty, rfl⟩ := arrElem_run he
      obtain ⟨-, hs, -⟩ := tyOf_run hty w
      cases hx with
      | op _ _ _ _ c o hb =>
        refine ⟨_, .pointer (some ⟨c, o + j * sz + (off + n.toNat * ty.2), none⟩), hK, rfl, ?_, .op b sz j _ c o hb⟩
        have : n < (m : Int) := by dsimp only at hlt; omega
        simp [Instr.indexAt, Instr.sureAddr, asIntOf, run_underlying hu, hs, Addr.add_lit, h0, this, Nat.add_assoc]
    · exact h.elim
  · exact h.elim

theorem aIndex_rd {t x i vx vi} (h : aIndex P t x i K) (hx : Rep w E x vx) (hi : Rep w E i vi) : RdOk P w E (Instr.index t vx vi) K := by
  unfold aIndex at h
  split at h
  · rename_i k n
    obtain rfl := hi.int_inv
    split at h
    · rename_i s
      obtain ⟨hu, h0, h⟩ := h
      obtain ⟨b, hb, hK⟩ := withO_iff.1 h
      cases hx with
      | str s l hs =>
        refine ⟨_, .int .u8 b.toNat, hK, rfl, ?_, .p rfl⟩
        subst hs
        have hb' : s[n.toNat]? = some b := by
          have hlt := (List.getElem?_eq_some_iff.1 hb).1
          have e := (List.getElem?_eq_some_iff.1 hb).2
          have hlt' : n.toNat < s.size := by simpa using hlt
          rw [getElem?_pos s n.toNat hlt']
          simp at e
          rw [← e]
          rfl
        simp [Instr.index, asIntOf, run_underlying hu, h0, hb']
    · rename_i cs
      obtain ⟨e, he, h0, hlt, h⟩ := withO_iff.1 h
      obtain ⟨m, el, ty, hu, hty, rfl⟩ := arrElem_run he
      obtain ⟨-, hs, -⟩ := tyOf_run hty w
      cases hx with
      | agg _ vs hl hsc hrep =>
        obtain ⟨x, v, hK, hrun, hx⟩ := part_apart (ty := ty) hty h (.agg cs vs hl hsc hrep)
        have : n < (m : Int) := by dsimp only at hlt; omega
        exact ⟨_, v, hK, rfl, by simp [Instr.index, asIntOf, run_underlying hu, h0, this, hs, hrun], hx⟩
    · exact h.elim
  · exact h.elim

theorem aExtract_rd {x k vx} (h : aExtract x k K) (hx : Rep w E x vx) : RdOk P w E (Instr.extract vx k) K := by
  unfold aExtract at h
  split at h
  · rename_i vs
    obtain ⟨a, ha, hK⟩ := withO_iff.1 h
    cases hx with
    | tup _ us hl hrep =>
      have hlt : k < us.size := by rw [← hl]; exact (List.getElem?_eq_some_iff.1 ha).1
      exact ⟨_, us[k], hK, rfl, by simp [Instr.extract, hlt], hrep k a _ ha (by simp [hlt])⟩
  · exact h.elim

theorem apartV_run {t ty row off x} (hty : tyOf P t = some ty) (h : apartV ty row off = some x) {cs : Array Value} (hr : Rep w E (.agg row) (.agg cs)) :
    ∃ v, (part t cs off).run P w = .ok v w ∧ Rep w E x v := by
  have : apart ty row off (fun y => y = x) := by
    unfold apartV at h
    unfold apart
    split at h
    · rename_i hb
      rw [if_pos hb]
      split at h
      · rename_i hle; cases h; exact ⟨hle, rfl⟩
      · cases h
    · rename_i hb
      rw [if_neg hb]
      exact withO_iff.2 ⟨x, h, rfl⟩
  obtain ⟨y, v, rfl, h1, h2⟩ := part_apart hty this hr
  exact ⟨v, h1, h2⟩

theorem aeq_run : ∀ {d t x y r vx vy}, aeq P d t x y = some r → Rep w E x vx → Rep w E y vy → (Op.equalIn d t vx vy).run P w = .ok r w := by
  intro d
  induction d with
  | zero => intro t x y r vx vy h; simp [aeq] at h
  | succ d ih =>
    intro t x y r vx vy h hx hy
    unfold aeq at h
    split at h
    · rename_i a b hu; cases h; obtain rfl := hx.p_inv; obtain rfl := hy.p_inv; simp [Op.equalIn, run_underlying hu]
    · rename_i k a k' b hu
      obtain rfl := hx.p_inv; obtain rfl := hy.p_inv
      split at h
      · rename_i hk; subst hk; cases h; simp [Op.equalIn, run_underlying hu]
      · cases h
    · rename_i k a k' b hu
      obtain rfl := hx.p_inv; obtain rfl := hy.p_inv
      split at h
      · rename_i hk; subst hk; cases h; simp [Op.equalIn, run_underlying hu]
      · cases h
    · rename_i a b hu
      cases h
      cases hx with | str s _ hs =>
      cases hy with | str s' _ hs' =>
      subst hs; subst hs'
      simp [Op.equalIn, run_underlying hu, beq_toListBytes, ByteArray.toList_eq]
      rw [Bool.eq_iff_iff]; simp
    · rename_i hu; cases h; obtain rfl := hx.p_inv; obtain rfl := hy.p_inv; simp [Op.equalIn, run_underlying hu]
    · rename_i hu; cases h; obtain rfl := hx.p_inv; cases hy; simp [Op.equalIn, run_underlying hu]
    · rename_i hu; cases h; obtain rfl := hx.p_inv; cases hy; simp [Op.equalIn, run_underlying hu]
    · rename_i hu; cases h; obtain rfl := hy.p_inv; cases hx; simp [Op.equalIn, run_underlying hu]
    · rename_i hu; cases h; obtain rfl := hy.p_inv; cases hx; simp [Op.equalIn, run_underlying hu]
    · rename_i hu; cases h; obtain rfl := hx.p_inv; obtain rfl := hy.p_inv; simp [Op.equalIn, run_underlying hu]
    · rename_i hu; cases h; obtain rfl := hx.p_inv; cases hy; simp [Op.equalIn, run_underlying hu]
    · rename_i hu; cases h; obtain rfl := hy.p_inv; cases hx; simp [Op.equalIn, run_underlying hu]
    · rename_i fs xs ys hu
      split at h
      · cases h
      · rename_i hst
        have hfo : P.fieldsOf t = fs := by simp [Program.fieldsOf, hu]
        cases hx with | agg _ vs hl hs hrep =>
        cases hy with | agg _ us hl' hs' hrep' =>
        rw [run_equalIn_struct w d t vs us (by rw [hfo]; exact hu) (by simpa using hst), hfo]
        have hX : Rep w E (.agg xs) (.agg vs) := .agg _ _ hl hs hrep
        have hY : Rep w E (.agg ys) (.agg us) := .agg _ _ hl' hs' hrep'
        clear hu hfo
        revert r
        generalize fs.toList = l
        induction l with
        | nil => intro r h; simp [aeqF] at h; subst h; simp [Op.eqFields]
        | cons f l ihl =>
          intro r h
          simp only [aeqF] at h
          simp only [Op.eqFields]
          split at h
          · rename_i hn
            simp only [Option.bind_eq_some_iff, Option.map_eq_some_iff] at h
            obtain ⟨ty, hty, a, ha, b, hb, q, hq, s, hs2, rfl⟩ := h
            obtain ⟨va, ra, hva⟩ := apartV_run hty ha hX
            obtain ⟨vb, rb, hvb⟩ := apartV_run hty hb hY
            have hq' := ih hq hva hvb
            have hl2 := ihl hs2
            rw [if_pos hn]
            simp only [Sem.run_bind, ra, rb, hq', Result.andThen_ok]
            cases q with
            | false => simp
            | true => simp [hl2]
          · rename_i hn
            rw [if_neg hn]
            exact ihl h
    · cases h

end
end Go.Fw
end

section
namespace Go.Fw
set_option linter.unusedSimpArgs false
set_option linter.unusedVariables false
section
variable {P : Program} {base : Nat} {w : World} {E : Env} {ah : AH} {F : Nat → Prop} {K : Res → Prop}

theorem eqGuard_nil (op : BinOp) (t : TypeId) (ox oy : Operand) (hc : (isC ox || isC oy) = true) : (eqGuard op t ox oy .nilIface .nilIface).run P w = .ok () w := by
  cases op <;> cases ox <;> cases oy <;> first | (simp [isC] at hc; done) | simp [eqGuard]

theorem eq_run_gen {t x y r vx vy} (op : BinOp) (ox oy : Operand) (hop : op = .eql ∨ op = .neq) (hok : eqOk P t x (isC ox || isC oy)) (h : aeq P 10000 t x y = some r) (hx : Rep w E x vx) (hy : Rep w E y vy) :
    (do eqGuard op t ox oy vx vy; binOp op t vx vy : Sem Value).run P w = .ok (.bool (if op = .eql then r else !r)) w := by
  have hr := aeq_run h hx hy
  have e1 : (Op.equal t vx vy).run P w = .ok r w := hr
  unfold aeq at h
  split at h
  · obtain rfl := hx.p_inv; obtain rfl := hy.p_inv
    rcases hop with rfl | rfl <;> simp [eqGuard, binOp, e1]
  · rename_i k a k' b hu
    obtain rfl := hx.p_inv; obtain rfl := hy.p_inv
    split at h
    · rename_i hk; subst hk; cases h
      rcases hop with rfl | rfl <;> simp [eqGuard, binOp, Op.intCmp, bne]
    · cases h
  · rename_i k a k' b hu
    obtain rfl := hx.p_inv; obtain rfl := hy.p_inv
    split at h
    · rename_i hk; subst hk; cases h
      rcases hop with rfl | rfl <;> simp [eqGuard, binOp, Op.floatCmp, Op.floatEq, bne]
    · cases h
  · rename_i a b hu
    cases h
    cases hx with | str s _ hs =>
    cases hy with | str s' _ hs' =>
    subst hs; subst hs'
    have hq : (s.toList == s'.toList) = decide (s.data.toList = s'.data.toList) := by rw [ByteArray.toList_eq, ByteArray.toList_eq, Bool.eq_iff_iff]; simp
    rcases hop with rfl | rfl <;> simp [eqGuard, binOp, Op.stringOp, hq]
  · obtain rfl := hx.p_inv; obtain rfl := hy.p_inv
    rcases hop with rfl | rfl <;> simp [eqGuard, binOp, e1]
  · obtain rfl := hx.p_inv; cases hy
    rcases hop with rfl | rfl <;> simp [eqGuard, binOp, e1]
  · obtain rfl := hx.p_inv; cases hy
    rcases hop with rfl | rfl <;> simp [eqGuard, binOp, e1]
  · obtain rfl := hy.p_inv; cases hx
    rcases hop with rfl | rfl <;> simp [eqGuard, binOp, e1]
  · obtain rfl := hy.p_inv; cases hx
    rcases hop with rfl | rfl <;> simp [eqGuard, binOp, e1]
  · obtain rfl := hx.p_inv; obtain rfl := hy.p_inv
    cases h
    have hc : (isC ox || isC oy) = true := hok
    rcases hop with rfl | rfl <;> simp [eqGuard_nil _ t ox oy hc, binOp, e1]
  · obtain rfl := hx.p_inv; cases hy
    rcases hop with rfl | rfl <;> simp [eqGuard, binOp, e1]
  · obtain rfl := hy.p_inv; cases hx
    rcases hop with rfl | rfl <;> simp [eqGuard, binOp, e1]
  · cases hx with | agg _ vs hl hs hrep =>
    cases hy with | agg _ us hl' hs' hrep' =>
    have hok' : P.eqGuardType P.depth t = false := hok
    rcases hop with rfl | rfl <;> simp [eqGuard, binOp, e1, hok']
  · cases h

def BinOk (P : Program) (w : World) (E : Env) (s : Sem Value) (K : AV → Prop) : Prop := ∃ x v, K x ∧ s.run P w = .ok v w ∧ Rep w E x v
theorem BinOk.rd {s K} (h : BinOk P w E s fun a => K (.val a)) : RdOk P w E s K := let ⟨x, v, h1, h2, h3⟩ := h; ⟨_, v, h1, rfl, h2, h3⟩

theorem aBin_rd {op t x y vx vy} {K : AV → Prop} (ox oy : Operand) (h : aBin P op t (isC ox || isC oy) x y K) (hx : Rep w E x vx) (hy : Rep w E y vy) :
    BinOk P w E (do eqGuard op t ox oy vx vy; binOp op t vx vy) K := by
  unfold aBin at h
  split at h
  · obtain rfl := hx.p_inv; obtain rfl := hy.p_inv
    obtain ⟨h0, hK⟩ := h
    refine ⟨_, _, hK, ?_, .p rfl⟩
    simp [eqGuard, binOp, Op.shift]; omega
  · obtain rfl := hx.p_inv; obtain rfl := hy.p_inv
    obtain ⟨h0, hK⟩ := h
    refine ⟨_, _, hK, ?_, .p rfl⟩
    simp [eqGuard, binOp, Op.shift]; omega
  · obtain rfl := hx.p_inv; obtain rfl := hy.p_inv
    obtain ⟨rfl, h⟩ := h
    split at h
    · exact ⟨_, _, h, by simp [eqGuard, binOp, Op.intArith], .p rfl⟩
    · exact ⟨_, _, h, by simp [eqGuard, binOp, Op.intArith], .p rfl⟩
    · exact ⟨_, _, h, by simp [eqGuard, binOp, Op.intArith], .p rfl⟩
    · exact ⟨_, _, h.2, by simp [eqGuard, binOp, Op.intDiv, h.1], .p rfl⟩
    · exact ⟨_, _, h.2, by simp [eqGuard, binOp, Op.intDiv, h.1], .p rfl⟩
    · exact ⟨_, _, h, by simp [eqGuard, binOp, Op.intBits], .p rfl⟩
    · exact ⟨_, _, h, by simp [eqGuard, binOp, Op.intBits], .p rfl⟩
    · exact ⟨_, _, h, by simp [eqGuard, binOp, Op.intBits], .p rfl⟩
    · exact ⟨_, _, h, by simp [eqGuard, binOp, Op.intBits], .p rfl⟩
    · exact ⟨_, _, h, by simp [eqGuard, binOp, Op.intCmp], .p rfl⟩
    · exact ⟨_, _, h, by simp [eqGuard, binOp, Op.intCmp], .p rfl⟩
    · exact ⟨_, _, h, by simp [eqGuard, binOp, Op.intCmp], .p rfl⟩
    · exact ⟨_, _, h, by simp [eqGuard, binOp, Op.intCmp], .p rfl⟩
    · exact ⟨_, _, h, by simp [eqGuard, binOp, Op.intCmp], .p rfl⟩
    · exact ⟨_, _, h, by simp [eqGuard, binOp, Op.intCmp], .p rfl⟩
    · exact h.elim
  · obtain rfl := hx.p_inv; obtain rfl := hy.p_inv
    obtain ⟨rfl, h⟩ := h
    split at h
    · obtain ⟨r, hr, h⟩ := withO_iff.1 h; exact ⟨_, _, h, by simp [eqGuard, binOp, Op.floatArith, hr], .p rfl⟩
    · obtain ⟨r, hr, h⟩ := withO_iff.1 h; exact ⟨_, _, h, by simp [eqGuard, binOp, Op.floatArith, hr], .p rfl⟩
    · obtain ⟨r, hr, h⟩ := withO_iff.1 h; exact ⟨_, _, h, by simp [eqGuard, binOp, Op.floatArith, hr], .p rfl⟩
    · obtain ⟨r, hr, h⟩ := withO_iff.1 h; exact ⟨_, _, h, by simp [eqGuard, binOp, Op.floatArith, hr], .p rfl⟩
    · exact ⟨_, _, h, by simp [eqGuard, binOp, Op.floatCmp], .p rfl⟩
    · exact ⟨_, _, h, by simp [eqGuard, binOp, Op.floatCmp], .p rfl⟩
    · exact ⟨_, _, h, by simp [eqGuard, binOp, Op.floatCmp], .p rfl⟩
    · exact ⟨_, _, h, by simp [eqGuard, binOp, Op.floatCmp], .p rfl⟩
    · exact ⟨_, _, h, by simp [eqGuard, binOp, Op.floatCmp], .p rfl⟩
    · exact ⟨_, _, h, by simp [eqGuard, binOp, Op.floatCmp], .p rfl⟩
    · exact h.elim
  · cases hx with | str s _ hs =>
    cases hy with | str s' _ hs' =>
    subst hs; subst hs'
    have hq : (s.toList == s'.toList) = decide (s.data.toList = s'.data.toList) := by rw [ByteArray.toList_eq, ByteArray.toList_eq, Bool.eq_iff_iff]; simp
    have hd : (s.data == s'.data) = decide (s.data = s'.data) := by rw [Bool.eq_iff_iff]; simp
    have ht : s.toList = s.data.toList := ByteArray.toList_eq s
    have ht' : s'.toList = s'.data.toList := ByteArray.toList_eq s'
    split at h
    · obtain ⟨hl, hK⟩ := h
      refine ⟨_, _, hK, ?_, .str (s ++ s') _ (by simp [ByteArray.data_append])⟩
      have h1 : s.size = s.data.toList.length := by simp
      have h2 : s'.size = s'.data.toList.length := by simp
      have : (s.size : Int) + s'.size ≤ 9223372036854775807 := by omega
      simp [eqGuard, binOp, Op.stringOp, this]
    · exact ⟨_, _, h, by simp [eqGuard, binOp, Op.stringOp, hq], .p rfl⟩
    · exact ⟨_, _, h, by simp [eqGuard, binOp, Op.stringOp, hq], .p rfl⟩
    · exact ⟨_, _, h, by simp [eqGuard, binOp, Op.stringOp, ht, ht'], .p rfl⟩
    · exact ⟨_, _, h, by simp [eqGuard, binOp, Op.stringOp, hq, ht, ht', hd], .p rfl⟩
    · exact ⟨_, _, h, by simp [eqGuard, binOp, Op.stringOp, hq, ht, ht', hd], .p rfl⟩
    · exact ⟨_, _, h, by simp [eqGuard, binOp, Op.stringOp, ht, ht'], .p rfl⟩
    · exact h.elim
  · obtain ⟨hok, h⟩ := h
    obtain ⟨r, hr, hK⟩ := withO_iff.1 h
    exact ⟨_, _, hK, by rw [eq_run_gen .eql ox oy (.inl rfl) hok hr hx hy]; rfl, .p rfl⟩
  · obtain ⟨hok, h⟩ := h
    obtain ⟨r, hr, hK⟩ := withO_iff.1 h
    exact ⟨_, _, hK, by rw [eq_run_gen .neq ox oy (.inr rfl) hok hr hx hy]; rfl, .p rfl⟩
  · exact h.elim

theorem aUn_rd {op x vx} {K : AV → Prop} (h : aUn op x K) (hx : Rep w E x vx) : BinOk P w E (Op.unary op vx) K := by
  unfold aUn at h
  split at h
  · obtain rfl := hx.p_inv; exact ⟨_, _, h, by simp [Op.unary, Op.intArith], .p rfl⟩
  · obtain rfl := hx.p_inv; exact ⟨_, _, h, by simp [Op.unary, Op.intBits], .p rfl⟩
  · obtain rfl := hx.p_inv; exact ⟨_, _, h, by simp [Op.unary], .p rfl⟩
  · obtain rfl := hx.p_inv; exact ⟨_, _, h, by simp [Op.unary], .p rfl⟩
  · exact h.elim

theorem aConvert_rd {s d x vx} {K : AV → Prop} (h : aConvert P s d x K) (hx : Rep w E x vx) : BinOk P w E (convert s d vx) K := by
  obtain ⟨hs, h⟩ := h
  obtain ⟨sd, hs⟩ := Option.isSome_iff_exists.1 hs
  split at h
  · rename_i k _ n hu; obtain rfl := hx.p_inv; exact ⟨_, _, h, by simp [convert, run_underlying hs, run_underlying hu, Conv.intToInt], .p rfl⟩
  · rename_i k _ n hu; obtain rfl := hx.p_inv; exact ⟨_, _, h, by simp [convert, run_underlying hs, run_underlying hu, Conv.intToFloat], .p rfl⟩
  · rename_i k f b hu
    obtain rfl := hx.p_inv
    obtain ⟨n, hn, h1, h2, hK⟩ := withO_iff.1 h
    exact ⟨_, _, hK, by simp [convert, run_underlying hs, run_underlying hu, Conv.floatToInt, hn, h1, h2], .p rfl⟩
  · rename_i s' hu
    cases hx with | str b _ hb => exact ⟨_, _, h, by simp [convert, run_underlying hs, run_underlying hu], .str b _ hb⟩
  · exact h.elim

theorem aLen_rd (hh : HeapOk base w E ah F) {t ty x vx} (h : aLen P ah t x K) (hx : Rep w E x vx) : RdOk P w E (Builtin.len_ #[t] ty #[vx]) K := by
  unfold aLen at h
  split at h
  · rename_i s hu
    cases hx with | str b _ hb =>
    subst hb
    exact ⟨_, .int .i64 b.data.toList.length, h, rfl, by simp [Builtin.len_, run_underlying hu, goInt], .p rfl⟩
  · rename_i rows full el hu
    cases hx with
    | slnil => exact ⟨_, _, h, rfl, by simp [Builtin.len_, run_underlying hu, goInt], .p rfl⟩
    | sl => exact ⟨_, _, h, rfl, by simp [Builtin.len_, run_underlying hu, goInt], .p rfl⟩
  · rename_i hu
    cases hx with
    | osnil => exact ⟨_, _, h, rfl, by simp [Builtin.len_, run_underlying hu, goInt], .p rfl⟩
    | os => exact ⟨_, _, h, rfl, by simp [Builtin.len_, run_underlying hu, goInt], .p rfl⟩
  · rename_i hu; obtain rfl := hx.p_inv; exact ⟨_, _, h, rfl, by simp [Builtin.len_, run_underlying hu, goInt], .p rfl⟩
  · rename_i b hu
    split at h
    · rename_i es hb
      obtain ⟨c, ces, clock, h1, h2, h3, h4, h5, -⟩ := hh.blk b _ hb
      cases hx with | mp _ c' hc' =>
      rw [h1] at hc'
      cases hc'
      refine ⟨_, _, h, rfl, ?_, .p rfl⟩
      simp [Builtin.len_, run_underlying hu, goInt, getObj, Sem.run, h4, h5]
    · exact h.elim
  · exact h.elim

theorem aMinMax_rd {mx l vs ts ty} {K : AV → Prop} (h : aMinMax mx l K) (hl : RepL w E l vs) : BinOk P w E ((if mx then Builtin.max_ else Builtin.min_) ts ty vs.toArray) K := by
  unfold aMinMax at h
  split at h
  · rename_i k a k' b
    obtain ⟨rfl, hK⟩ := h
    obtain ⟨h1, h2⟩ := hl
    match vs, h1 with
    | [v0, v1], _ =>
      obtain rfl := (h2 0 _ v0 rfl rfl).p_inv
      obtain rfl := (h2 1 _ v1 rfl rfl).p_inv
      refine ⟨_, .int k (if mx then (if a < b then b else a) else (if b < a then b else a)), hK, ?_, .p rfl⟩
      cases mx <;> simp [Builtin.min_, Builtin.max_, Builtin.min2, Builtin.max2]
  · exact h.elim

end
end Go.Fw
end

section
namespace Go.Fw
set_option linter.unusedSimpArgs false
set_option linter.unusedVariables false
section
variable {P : Program} {base : Nat} {w : World} {E : Env} {ah : AH} {F : Nat → Prop} {K : Res → Prop}

inductive ORep (w : World) (E : Env) : Option AV → Option Value → Prop
  | none : ORep w E none none
  | some {a v} (h : Rep w E a v) : ORep w E (some a) (some v)

theorem oNat_run {o : Option AV} {ov : Option Value} {d : Nat} {k : Nat → Prop} (h : oNat o d k) (hr : ORep w E o ov) :
    ∃ n, k n ∧ (ov = none → n = d) ∧ ∀ v, ov = some v → ∀ (cap : Nat) (code : BoundsCode), n ≤ cap → (Instr.sliceBound v cap code).run P w = .ok n w := by
  cases hr with
  | none => exact ⟨d, h, fun _ => rfl, fun v hv => by cases hv⟩
  | some hr =>
    unfold oNat at h
    split at h
    · rename_i e; cases e
    · rename_i q n e
      cases e
      obtain rfl := hr.p_inv
      obtain ⟨h0, hk⟩ := h
      refine ⟨n.toNat, hk, fun e => (by cases e), fun v hv cap code hle => ?_⟩
      cases hv
      have : n ≤ (cap : Int) := by omega
      simp [Instr.sliceBound, asIntOf, h0, this]
    · exact h.elim

theorem sliceBounds_run {isS : Bool} {len cap l h m : Nat} {lo hi mx : Option Value} (hlh : l ≤ h) (hhm : h ≤ m) (hmc : m ≤ cap)
    (hlo0 : lo = none → l = 0) (hlo : ∀ v, lo = some v → ∀ (cap : Nat) (code : BoundsCode), l ≤ cap → (Instr.sliceBound v cap code).run P w = .ok l w)
    (hhi0 : hi = none → h = len) (hhi : ∀ v, hi = some v → ∀ (cap : Nat) (code : BoundsCode), h ≤ cap → (Instr.sliceBound v cap code).run P w = .ok h w)
    (hmx : ∀ v, mx = some v → ∀ (cap : Nat) (code : BoundsCode), m ≤ cap → (Instr.sliceBound v cap code).run P w = .ok m w)
    (hb : mx.isSome = true → hi.isSome = true) :
    (Instr.sliceBounds isS len cap lo hi mx).run P w = .ok (l, h, if mx.isSome = true then m else cap) w := by
  unfold Instr.sliceBounds
  cases mx with
  | none =>
    cases hi with
    | none =>
      obtain rfl := hhi0 rfl
      cases lo with
      | none => obtain rfl := hlo0 rfl; simp
      | some v => simp [hlo v rfl _ _ hlh]
    | some u =>
      cases lo with
      | none => obtain rfl := hlo0 rfl; simp [hhi u rfl _ _ (Nat.le_trans hhm hmc)]
      | some v => simp [hhi u rfl _ _ (Nat.le_trans hhm hmc), hlo v rfl _ _ hlh]
  | some x =>
    cases hi with
    | none => simp at hb
    | some u =>
      cases lo with
      | none => obtain rfl := hlo0 rfl; simp [hmx x rfl _ _ hmc, hhi u rfl _ _ hhm]
      | some v => simp [hmx x rfl _ _ hmc, hhi u rfl _ _ hhm, hlo v rfl _ _ hlh]

theorem sliceAt_run {t : TypeId} {d : TypeDesc} (hu : P.underlying t = some d) (hd : isAggD d = false) (x : Value) (lo hi mx : Option Value) :
    (Instr.sliceAt t x lo hi mx).run P w = (Instr.slice t x lo hi mx).run P w := by
  unfold Instr.sliceAt
  rw [Sem.run_bind, run_underlying hu]
  cases d <;> simp_all [isAggD]

theorem ORep.isSome {o ov} (h : ORep w E o ov) : o.isSome = ov.isSome := by cases h <;> rfl

theorem aSlice_rd {t x lo hi mx vx vlo vhi vmx} (h : aSlice P t x lo hi mx K) (hx : Rep w E x vx) (hlo : ORep w E lo vlo) (hhi : ORep w E hi vhi) (hmx : ORep w E mx vmx) :
    RdOk P w E (Instr.sliceAt t vx vlo vhi vmx) K := by
  unfold aSlice at h
  split at h
  · rename_i s
    obtain ⟨hu, hm, h⟩ := h
    obtain ⟨l, h, hl0, hl⟩ := oNat_run (P := P) h hlo
    obtain ⟨j, h, hj0, hj⟩ := oNat_run (P := P) h hhi
    obtain ⟨hlj, hjs, hK⟩ := h
    cases hx with | str b _ hb =>
    subst hb
    have hvm : vmx = none := by cases hmx with | none => rfl | some => simp at hm
    subst hvm
    have hb := sliceBounds_run (P := P) (w := w) (isS := false) (len := b.size) (cap := b.size) (mx := none) (m := b.size) hlj (by simpa using hjs) (Nat.le_refl _) hl0 hl (by simpa using hj0) hj (fun v hv => by cases hv) (by simp)
    refine ⟨_, .string (b.extract l j), hK, rfl, ?_, .str _ _ (by simp [List.extract_eq_take_drop])⟩
    rw [sliceAt_run hu rfl]
    simp [Instr.slice, run_underlying hu, hb]
  · rename_i rows full
    obtain ⟨e, he, hrows, hb, h⟩ := withO_iff.1 h
    obtain ⟨el, inf, hu, hinf, rfl⟩ := slElem_run he
    obtain ⟨l, h, hl0, hl⟩ := oNat_run (P := P) h hlo
    obtain ⟨j, h, hj0, hj⟩ := oNat_run (P := P) h hhi
    obtain ⟨m, h, hm0, hm⟩ := oNat_run (P := P) h hmx
    obtain ⟨hlj, hjm, hml, hK⟩ := h
    have hbb : vmx.isSome = true → vhi.isSome = true := by rw [← hmx.isSome, ← hhi.isSome]; exact hb
    cases hx with
    | slnil _ a =>
      obtain rfl : m = 0 := by simpa using hml
      obtain rfl : j = 0 := by omega
      obtain rfl : l = 0 := by omega
      have hs := sliceBounds_run (P := P) (w := w) (isS := true) (len := 0) (cap := 0) (l := 0) (h := 0) (m := 0) (lo := vlo) (hi := vhi) (mx := vmx) (Nat.le_refl _) (Nat.le_refl _) (Nat.le_refl _) hl0 hl (by simp) hj hm hbb
      refine ⟨_, .slice a 0 0, hK, rfl, ?_, by simp; exact .slnil _ _⟩
      rw [sliceAt_run hu rfl]
      simp [Instr.slice, run_underlying hu, hs, sizeOf, typeInfo, hinf]
    | sl _ _ sz c o cap g hcap hfull hsz hfix hcell hscal hrep =>
      have hs := sliceBounds_run (P := P) (w := w) (isS := true) (len := rows.length) (cap := cap) (l := l) (h := j) (m := m) (lo := vlo) (hi := vhi) (mx := vmx) hlj hjm (by omega) hl0 hl hj0 hj hm hbb
      have hlen : ((rows.drop l).take (j - l)).length = j - l := by simp; omega
      have hmm : (if vmx.isSome = true then m else cap) ≥ j := by split <;> omega
      refine ⟨_, .slice (some (if (if vmx.isSome = true then m else cap) = l then (⟨c, o, none⟩ : Addr) else (⟨c, o, none⟩ : Addr).add (l * inf.size))) (j - l) ((if vmx.isSome = true then m else cap) - l), hK, rfl, ?_, ?_⟩
      · rw [sliceAt_run hu rfl]
        simp only [Instr.slice, Sem.run_bind, run_underlying hu, Result.andThen_ok, hs, sizeOf, typeInfo, run_program, hinf, Sem.run_pure]
        by_cases e : (if vmx.isSome = true then m else cap) = l <;> simp [e]
      · have hfl : (if mx.isSome = true then decide (m = j) else full && decide (j = rows.length)) = true → (if vmx.isSome = true then m else cap) - l = j - l := by
          rw [hmx.isSome]
          intro hf
          split at hf
          · rename_i hv; rw [if_pos hv, of_decide_eq_true hf]
          · rename_i hv
            rw [if_neg hv]
            simp only [Bool.and_eq_true, decide_eq_true_eq] at hf
            rw [hfull hf.1, hf.2]
        have hget : ∀ (i : Nat) (row : List AV), ((rows.drop l).take (j - l))[i]? = some row → rows[l + i]? = some row := fun i row hr => by
          rw [List.getElem?_take] at hr
          split at hr
          · simpa using hr
          · cases hr
        by_cases e : (if vmx.isSome = true then m else cap) = l
        · have hjl : j = l := by omega
          have hnil : (rows.drop l).take (j - l) = [] := by simp [hjl]
          rw [if_pos e, hnil]
          simp only [hjl, Nat.sub_self, e]
          exact .sl [] _ sz c o 0 g (Nat.le_refl _) (fun _ => rfl) (fun i row h => by simp at h) (fun i row j x h => by simp at h) (fun i row j x h => by simp at h) (by simp) (fun i row j x h => by simp at h)
        · rw [if_neg e, Addr.add_lit]
          have hsz' : ∀ (i : Nat) (row : List AV), ((rows.drop l).take (j - l))[i]? = some row → inf.size = sz := fun i row hr => by
            rw [← hsz _ row (hget i row hr)]
            exact (hrows row (List.mem_of_getElem? (hget i row hr))).symm
          have ha : ∀ i : Nat, o + l * inf.size + i * inf.size = o + (l + i) * inf.size := fun i => by rw [Nat.add_mul]; omega
          have hr : Rep w E (.sl ((rows.drop l).take (j - l)) (if mx.isSome = true then decide (m = j) else full && decide (j = rows.length))) (.slice (some ⟨c, o + l * inf.size, none⟩) ((rows.drop l).take (j - l)).length ((if vmx.isSome = true then m else cap) - l)) := by
           refine .sl _ _ inf.size c _ _ (fun i j => g (l + i) j) (by rw [hlen]; omega) (fun hf => by rw [hlen]; exact hfl hf) (fun i row hr => hrows row (List.mem_of_getElem? (hget i row hr))) (fun i row q x hr hx => ?_) (fun i row q x hr hx => ?_)
            (fun row hr x hx => hscal row (List.mem_of_mem_drop (List.mem_of_mem_take hr)) x hx) (fun i row q x hr hx => hrep _ row q x (hget i row hr) hx)
           · rw [ha, hsz' i row hr]; exact hfix _ row q x (hget i row hr) hx
           · rw [ha, hsz' i row hr]; exact hcell _ row q x (hget i row hr) hx
          rw [hlen] at hr
          exact hr
  · rename_i b sz off len
    obtain ⟨e, he, hsz, hb, h⟩ := withO_iff.1 h
    obtain ⟨el, inf, hu, hinf, rfl⟩ := slElem_run he
    dsimp only at hsz
    subst hsz
    obtain ⟨l, h, hl0, hl⟩ := oNat_run (P := P) h hlo
    obtain ⟨j, h, hj0, hj⟩ := oNat_run (P := P) h hhi
    obtain ⟨m, h, hm0, hm⟩ := oNat_run (P := P) h hmx
    obtain ⟨hlj, hjm, hml, hK⟩ := h
    have hbb : vmx.isSome = true → vhi.isSome = true := by rw [← hmx.isSome, ← hhi.isSome]; exact hb
    cases hx with
    | osnil _ _ _ a hbo =>
      obtain rfl : m = 0 := by omega
      obtain rfl : j = 0 := by omega
      obtain rfl : l = 0 := by omega
      have hs := sliceBounds_run (P := P) (w := w) (isS := true) (len := 0) (cap := 0) (l := 0) (h := 0) (m := 0) (lo := vlo) (hi := vhi) (mx := vmx) (Nat.le_refl _) (Nat.le_refl _) (Nat.le_refl _) hl0 hl (by simp) hj hm hbb
      refine ⟨_, .slice a 0 0, hK, rfl, ?_, .osnil b _ _ a hbo⟩
      rw [sliceAt_run hu rfl]
      simp [Instr.slice, run_underlying hu, hs, sizeOf, typeInfo, hinf]
    | os _ _ _ _ c o cap hbo hcap hsize =>
      have hs := sliceBounds_run (P := P) (w := w) (isS := true) (len := len) (cap := cap) (l := l) (h := j) (m := m) (lo := vlo) (hi := vhi) (mx := vmx) hlj hjm (by omega) hl0 hl hj0 hj hm hbb
      have hmm : (if vmx.isSome = true then m else cap) ≥ j := by split <;> omega
      have hmc : (if vmx.isSome = true then m else cap) ≤ cap := by split <;> omega
      by_cases e : (if vmx.isSome = true then m else cap) = l
      · have hjl : j = l := by omega
        refine ⟨_, .slice (some ⟨c, o + off * inf.size, none⟩) 0 0, hK, rfl, ?_, by rw [hjl, Nat.sub_self]; exact .osnil b _ _ _ (by rw [hbo]; simp)⟩
        rw [sliceAt_run hu rfl]
        simp only [Instr.slice, Sem.run_bind, run_underlying hu, Result.andThen_ok, hs, sizeOf, typeInfo, run_program, hinf, Sem.run_pure]
        rw [if_pos e]
        simp [e, hjl]
      · refine ⟨_, .slice (some ⟨c, o + (off + l) * inf.size, none⟩) (j - l) ((if vmx.isSome = true then m else cap) - l), hK, rfl, ?_, ?_⟩
        · rw [sliceAt_run hu rfl]
          simp only [Instr.slice, Sem.run_bind, run_underlying hu, Result.andThen_ok, hs, sizeOf, typeInfo, run_program, hinf, Sem.run_pure]
          rw [if_neg e]
          simp [Addr.add_lit, Nat.add_mul, Nat.add_assoc]
        · obtain ⟨arr, ty, h1, h2⟩ := hsize
          refine .os b _ _ _ c o _ hbo (by omega) ⟨arr, ty, h1, Nat.le_trans (Nat.add_le_add_left (Nat.mul_le_mul_right _ (by omega)) o) h2⟩
  · exact h.elim
end
end Go.Fw
end

section
namespace Go.Fw
set_option linter.unusedSimpArgs false
set_option linter.unusedVariables false
section
variable {P : Program} {base : Nat} {w : World} {E : Env} {ah : AH} {F : Nat → Prop} {K : Res → Prop}

theorem foldl_set (off : Nat) : ∀ (l : List Value) (k : Nat) (arr : Array Value), off + k + l.length ≤ arr.size →
    ((l.zipIdx k).foldl (fun (cs : Array Value) p => cs.setIfInBounds (off + p.2) p.1) arr).toList = arr.toList.take (off + k) ++ l ++ arr.toList.drop (off + k + l.length)
  | [], k, arr, h => by simp
  | v :: l, k, arr, h => by
    simp only [List.zipIdx_cons, List.foldl_cons]
    rw [foldl_set off l (k + 1) (arr.setIfInBounds (off + k) v) (by simp at h ⊢; omega)]
    simp at h
    apply List.ext_getElem?
    intro i
    simp only [Array.toList_setIfInBounds, List.append_assoc, List.cons_append, List.nil_append, List.length_cons]
    have e1 : (arr.toList.set (off + k) v).take (off + (k + 1)) = arr.toList.take (off + k) ++ [v] := by
      apply List.ext_getElem?
      intro j
      rw [List.getElem?_take, List.getElem?_set, List.getElem?_append]
      simp only [List.length_take, Array.length_toList, List.getElem?_take]
      by_cases h1 : j < off + k
      · have : off + k ≠ j := by omega
        simp [this, h1, show j < off + (k + 1) by omega, show j < min (off + k) arr.size by omega]
      · by_cases h2 : j = off + k
        · subst h2
          simp [show off + k < off + (k + 1) by omega, show ¬ (off + k < min (off + k) arr.size) by omega, show min (off + k) arr.size = off + k by omega]
          omega
        · have : ¬ j < off + (k + 1) := by omega
          have h3 : ([v] : List Value)[j - (off + k)]? = none := by rw [List.getElem?_eq_none]; simp; omega
          simp [this, show ¬ (j < min (off + k) arr.size) by omega, show min (off + k) arr.size = off + k by omega, h3]
          intro h4; exact absurd h4 h1
    rw [e1]
    have e2 : (arr.toList.set (off + k) v).drop (off + (k + 1) + l.length) = arr.toList.drop (off + k + (l.length + 1)) := by
      rw [List.drop_set_of_lt (by omega)]
      congr 1; omega
    rw [e2]
    simp

theorem RepL.append {as bs vs us} (h : RepL w E as vs) (k : RepL w E bs us) : RepL w E (as ++ bs) (vs ++ us) := by
  refine ⟨by simp [h.1, k.1], fun i a v ha hv => ?_⟩
  rw [List.getElem?_append] at ha hv
  rw [h.1] at ha
  split at ha
  · rename_i hlt; rw [if_pos hlt] at hv; exact h.2 i a v ha hv
  · rename_i hlt; rw [if_neg hlt] at hv; exact k.2 _ a v ha hv
theorem RepL.take {as vs} (h : RepL w E as vs) (n : Nat) : RepL w E (as.take n) (vs.take n) := by
  refine ⟨by simp [h.1], fun i a v ha hv => ?_⟩
  rw [List.getElem?_take] at ha hv
  split at ha
  · rename_i hlt; rw [if_pos hlt] at hv; exact h.2 i a v ha hv
  · cases ha
theorem RepL.drop {as vs} (h : RepL w E as vs) (n : Nat) : RepL w E (as.drop n) (vs.drop n) := by
  refine ⟨by simp [h.1], fun i a v ha hv => ?_⟩
  rw [List.getElem?_drop] at ha hv
  exact h.2 _ a v ha hv
theorem RepL.nil : RepL w E [] [] := ⟨rfl, fun i a v h => by simp at h⟩
theorem RepL.cons {a v as vs} (h : Rep w E a v) (k : RepL w E as vs) : RepL w E (a :: as) (v :: vs) := by
  refine ⟨by simp [k.1], fun i x y hx hy => ?_⟩
  cases i with
  | zero => simp at hx hy; subst hx; subst hy; exact h
  | succ i => simp at hx hy; exact k.2 i x y hx hy
theorem RepL.mono {w' E' as vs} (h : RepL w E as vs) (hx : Ext w E w' E') : RepL w' E' as vs := ⟨h.1, fun i a v ha hv => (h.2 i a v ha hv).mono hx⟩
theorem RepL.agg {cs vs} (h : RepL w E cs vs.toList) (hs : ∀ c ∈ cs, c.scal = true) : Rep w E (.agg cs) (.agg vs) :=
  .agg cs vs (by simpa using h.1) hs (fun i c v hc hv => h.2 i c v hc (by simpa using hv))

theorem RepL.lay {row cells cs vs : _} {off : Nat} (h : RepL w E row cells) (k : RepL w E cs vs) : RepL w E (lay row off cs) (cells.take off ++ vs ++ cells.drop (off + vs.length)) := by
  unfold Go.Fw.lay
  rw [k.1]
  exact ((h.take off).append k).append (h.drop _)

theorem afill_run {place : Nat → Option (Nat × Nat)} : ∀ {parts : List (Nat × AV)} {vparts : List (Nat × Value)} {cells : List AV} {vcells : Array Value} {cs : List AV},
    afill place cells parts = some cs → parts.length = vparts.length → (∀ (i : Nat) (p : Nat × AV) (q : Nat × Value), parts[i]? = some p → vparts[i]? = some q → p.1 = q.1 ∧ Rep w E p.2 q.2) →
    RepL w E cells vcells.toList → (∀ c ∈ cells, c.scal = true) → ∃ vcs, Instr.fill place vcells vparts = some vcs ∧ RepL w E cs vcs.toList ∧ ∀ c ∈ cs, c.scal = true
  | [], vparts, cells, vcells, cs, h, hl, hp, hc, hs => by
    obtain rfl : vparts = [] := by cases vparts <;> simp_all
    cases h
    exact ⟨vcells, rfl, hc, hs⟩
  | (k, a) :: parts, [], cells, vcells, cs, h, hl, hp, hc, hs => by simp at hl
  | (k, a) :: parts, (k', v) :: vparts, cells, vcells, cs, h, hl, hp, hc, hs => by
    obtain ⟨e, hav⟩ := hp 0 _ _ rfl rfl
    dsimp only at e hav
    subst e
    simp only [afill] at h
    split at h
    · cases h
    · rename_i off size hpl
      split at h
      · cases h
      · rename_i hcond
        simp only [Bool.or_eq_true, decide_eq_true_eq, not_or, Nat.not_lt, ne_eq, Decidable.not_not, Bool.not_eq_false] at hcond
        obtain ⟨⟨hb, hsz⟩, hle⟩ := hcond
        obtain ⟨hca, hsa⟩ := hav.cells hb
        have hvs : v.cells.size = size := by rw [← hsz, hca.1]; simp
        have hcs : cells.length = vcells.size := by simpa using hc.1
        have hfold : (v.cells.zipIdx.foldl (fun cs (c, j) => cs.setIfInBounds (off + j) c) vcells).toList = vcells.toList.take off ++ v.cells.toList ++ vcells.toList.drop (off + v.cells.toList.length) := by
          rw [← Array.foldl_toList, Array.toList_zipIdx]
          have := foldl_set off v.cells.toList 0 vcells (by simp; omega)
          simpa using this
        obtain ⟨vcs, h1, h2, h3⟩ := afill_run (vcells := v.cells.zipIdx.foldl (fun cs (c, j) => cs.setIfInBounds (off + j) c) vcells) h (by simpa using hl) (fun i p q hp' hq' => hp (i + 1) p q (by simpa using hp') (by simpa using hq'))
          (by rw [hfold]; exact hc.lay hca) (fun c hc' => by
            unfold lay at hc'
            rcases List.mem_append.1 hc' with hc' | hc'
            · rcases List.mem_append.1 hc' with hc' | hc'
              · exact hs c (List.mem_of_mem_take hc')
              · exact hsa c hc'
            · exact hs c (List.mem_of_mem_drop hc'))
        refine ⟨vcs, ?_, h2, h3⟩
        simp only [Instr.fill, hpl]
        rw [if_neg]
        · exact h1
        · simp only [Bool.or_eq_true, decide_eq_true_eq, not_or, Nat.not_lt, ne_eq, Decidable.not_not]
          omega

theorem zeroOf_run {t z} (h : zeroOf P t = some z) : ∃ v, (zeroValue t).run P w = .ok v w ∧ RepL w E z v.cells.toList ∧ ∀ c ∈ z, c.scal = true := by
  unfold zeroOf at h
  simp only [Option.bind_eq_some_iff] at h
  obtain ⟨v, ⟨i, hi, hv⟩, hz⟩ := h
  obtain ⟨h1, h2⟩ := mapM_ofC (w := w) (E := E) hz
  exact ⟨v, by simp [zeroValue, typeInfo, hi, hv], h1, h2⟩

theorem mapM_places {l : List Field} {ps : List (Nat × Nat)} (h : (l.mapM fun f => (P.info? f.type).map fun i => (f.offset, i.size)) = some ps) :
    (l.mapM fun f => (do pure (f.offset, ← sizeOf f.type) : Sem (Nat × Nat))).run P w = .ok ps w := by
  induction l generalizing ps with
  | nil => simp at h; subst h; simp
  | cons f l ih =>
    simp only [List.mapM_cons, Option.pure_def, Option.bind_eq_bind, Option.bind_eq_some_iff, Option.map_eq_some_iff] at h
    obtain ⟨a, ⟨i, hi, rfl⟩, r, hr, he⟩ := h
    cases he
    have ih' := ih hr
    simp only [sizeOf, typeInfo] at ih'
    simp [sizeOf, typeInfo, hi] at ih' ⊢
    simp [ih']

theorem aBuild_rd {t : TypeId} {parts : List (Nat × AV)} {vparts : List (Nat × Value)} (h : aBuild P t parts K) (hl : parts.length = vparts.length)
    (hp : ∀ (i : Nat) (p : Nat × AV) (q : Nat × Value), parts[i]? = some p → vparts[i]? = some q → p.1 = q.1 ∧ Rep w E p.2 q.2) :
    RdOk P w E (Instr.build t vparts.toArray) K := by
  obtain ⟨z, hz, h⟩ := withO_iff.1 h
  obtain ⟨pl, hpl, h⟩ := withO_iff.1 h
  obtain ⟨cs, hcs, hK⟩ := withO_iff.1 h
  obtain ⟨zv, hzr, hzc, hzs⟩ := zeroOf_run (w := w) (E := E) hz
  obtain ⟨vcs, hf, h1, h2⟩ := afill_run hcs hl hp hzc hzs
  refine ⟨_, .agg vcs, hK, rfl, ?_, h1.agg h2⟩
  unfold placesOf at hpl
  split at hpl
  · rename_i fs hu
    obtain ⟨ps, hps, rfl⟩ := Option.map_eq_some_iff.1 hpl
    have hm := mapM_places (P := P) (w := w) hps
    have hm' : (fs.mapM fun f => (do pure (f.offset, ← sizeOf f.type) : Sem (Nat × Nat))).run P w = .ok ps.toArray w := by
      rw [Array.mapM_eq_mapM_toList, Sem.run_map, hm]
      rfl
    simp only [Instr.build, Sem.run_bind, hzr, Result.andThen_ok, run_underlying hu, hm']
    have : (fun x : Nat => ps.toArray[x]?) = fun k : Nat => ps[k]? := by funext k; simp
    simp [this, hf]
  · rename_i n e hu
    obtain ⟨i, hi, rfl⟩ := Option.map_eq_some_iff.1 hpl
    simp [Instr.build, hzr, run_underlying hu, sizeOf, typeInfo, hi, hf]
  · cases hpl

end
end Go.Fw
end

section
namespace Go.Fw
set_option linter.unusedSimpArgs false
set_option linter.unusedVariables false
section
variable {P : Program} {base : Nat} {w w' : World} {E E' : Env} {ah : AH} {F : Nat → Prop} {K : Res → Prop}

theorem RowsIn.mono {arr o sz rs} (h : RowsIn w E arr o sz rs) (hx : Ext w E w' E') : RowsIn w' E' arr o sz rs :=
  ⟨h.1, h.2.1, h.2.2.1, fun i row j x hr hj => let ⟨v, h1, h2⟩ := h.2.2.2 i row j x hr hj; ⟨v, h1, h2.mono hx⟩⟩
theorem MapIn.mono {es ces clock} (h : MapIn w E es ces clock) (hx : Ext w E w' E') : MapIn w' E' es ces clock :=
  ⟨h.1, fun i e ce h1 h2 => let ⟨a, b, c⟩ := h.2.1 i e ce h1 h2; ⟨a.mono hx, b.mono hx, c⟩, h.2.2⟩

theorem BlkOk.keep {b k} (hb : BlkOk base w E b k) (hx : Ext w E w' E') (hheap : ∀ c o, E.own b = .at c o → w'.heap[c]? = w.heap[c]?)
    (hfix : ∀ c o off, E.own b = .at c o → E'.fix c off → E.fix c off) : BlkOk base w' E' b k := by
  cases k with
  | rows sz rs =>
    rcases hb with ⟨h1, h2⟩ | ⟨c, o, arr, ty, h1, h2, h3, h4, h5⟩
    · exact .inl ⟨by rw [hx.own b (by rw [h1]; simp), h1], h2⟩
    · exact .inr ⟨c, o, arr, ty, by rw [hx.own b (by rw [h1]; simp), h1], h2, fun off hf => h3 off (hfix c o off h1 hf), by rw [hheap c o h1]; exact h4, h5.mono hx⟩
  | map es =>
    obtain ⟨c, ces, clock, h1, h2, h3, h4, h5⟩ := hb
    exact ⟨c, ces, clock, by rw [hx.own b (by rw [h1]; simp), h1], h2, fun off hf => h3 off (hfix c 0 off h1 hf), by rw [hheap c 0 h1]; exact h4, h5.mono hx⟩

theorem BlkOk.lt {b k c o} (hb : BlkOk base w E b k) (ho : E.own b = .at c o) : c < w.heap.size ∧ base ≤ c ∧ ∀ off, ¬ E.fix c off := by
  cases k with
  | rows sz rs =>
    rcases hb with ⟨h1, h2⟩ | ⟨c', o', arr, ty, h1, h2, h3, h4, h5⟩
    · rw [h1] at ho; cases ho
    · rw [h1] at ho; cases ho; exact ⟨(Array.getElem?_eq_some_iff.1 h4).1, h2, h3⟩
  | map es =>
    obtain ⟨c', ces, clock, h1, h2, h3, h4, h5⟩ := hb
    rw [h1] at ho; cases ho; exact ⟨(Array.getElem?_eq_some_iff.1 h4).1, h2, h3⟩

def Env.set (E : Env) (id : Nat) (o : Own) : Env := { E with own := fun b => if b = id then o else E.own b }

theorem HeapOk.weaken {F' : Nat → Prop} (h : HeapOk base w E ah F) (hF : ∀ b, F' b → F b) : HeapOk base w E ah F' :=
  ⟨h.blk, h.sep, fun b hb => h.fresh b (hF b hb), h.fixlt, h.bs, h.ownlt⟩

theorem alloc_heap_lt (o : Obj) (c : Nat) (h : c < w.heap.size) : (w.alloc o).heap[c]? = w.heap[c]? := RowKit.Below.heap_alloc w o c h

/-- a new block -/
theorem new_block (hh : HeapOk base w E ah F) {id : Nat} (hid : F id) (o : Obj) (k : Blk)
    (hk : ∀ w' E', Ext w E w' E' → (∀ c off, E'.fix c off → E.fix c off) → E'.own id = .at w.heap.size 0 → w'.heap[w.heap.size]? = some o → BlkOk base w' E' id k) :
    Step base w E (w.alloc o) (E.set id (.at w.heap.size 0)) ∧ HeapOk base (w.alloc o) (E.set id (.at w.heap.size 0)) (upd ah id (some k)) (fun b => F b ∧ b ≠ id) := by
  have hfree := hh.fresh id hid
  have hx : Ext w E (w.alloc o) (E.set id (.at w.heap.size 0)) := by
    refine ⟨fun _ _ h => h, fun c off h => World.cell?_alloc_lt w o _ (hh.fixlt c off h), fun b hb => ?_, fun c arr ty h => ⟨arr, ?_, rfl⟩⟩
    · have : b ≠ id := fun e => hb (by rw [e]; exact hfree)
      simp [Env.set, this]
    · rw [alloc_heap_lt o c (Array.getElem?_eq_some_iff.1 h).1]; exact h
  refine ⟨⟨hx, (RowKit.Below.refl base w).alloc hh.bs o, fun c o' _ h => h⟩, ?_⟩
  have own_id : (E.set id (.at w.heap.size 0)).own id = .at w.heap.size 0 := by simp [Env.set]
  have own_ne : ∀ b, b ≠ id → (E.set id (.at w.heap.size 0)).own b = E.own b := fun b hb => by simp [Env.set, hb]
  refine ⟨fun b k' hb => ?_, fun b b' k1 k2 c o1 c' o2 hne h1 h2 h3 h4 => ?_, fun b hb => ?_, fun c off h => ?_, ?_, fun b c o h => ?_⟩
  · by_cases e : b = id
    · subst e
      rw [upd_eq rfl] at hb
      cases hb
      exact hk _ _ hx (fun _ _ h => h) own_id (heap_alloc_new w o)
    · rw [upd_ne e] at hb
      have hb' := hh.blk b k' hb
      exact hb'.keep hx (fun c o' ho => alloc_heap_lt o c (hb'.lt ho).1) (fun _ _ _ _ h => h)
  · by_cases e : b = id
    · subst e
      rw [upd_ne hne.symm] at h2
      rw [own_id] at h3
      cases h3
      rw [own_ne b' hne.symm] at h4
      have := ((hh.blk b' k2 h2).lt h4).1
      omega
    · rw [upd_ne e] at h1
      rw [own_ne b e] at h3
      by_cases e' : b' = id
      · subst e'
        rw [own_id] at h4
        cases h4
        have := ((hh.blk b k1 h1).lt h3).1
        omega
      · rw [upd_ne e'] at h2
        rw [own_ne b' e'] at h4
        exact hh.sep b b' k1 k2 c o1 c' o2 hne h1 h2 h3 h4
  · rw [own_ne b hb.2]; exact hh.fresh b hb.1
  · have := hh.fixlt c off h; simp; omega
  · have := hh.bs; simp; omega
  · by_cases e : b = id
    · subst e; rw [own_id] at h; cases h; simp; exact hh.bs
    · rw [own_ne b e] at h; have := hh.ownlt b c o h; simp; omega

/-- an empty one -/
theorem new_empty (hh : HeapOk base w E ah F) {id : Nat} (hid : F id) (sz : Nat) :
    Step base w E w (E.set id .empty) ∧ HeapOk base w (E.set id .empty) (upd ah id (some (.rows sz []))) (fun b => F b ∧ b ≠ id) := by
  have hfree := hh.fresh id hid
  have hx : Ext w E w (E.set id .empty) := by
    refine ⟨fun _ _ h => h, fun c off h => rfl, fun b hb => ?_, fun c arr ty h => ⟨arr, h, rfl⟩⟩
    have : b ≠ id := fun e => hb (by rw [e]; exact hfree)
    simp [Env.set, this]
  have own_id : (E.set id .empty).own id = .empty := by simp [Env.set]
  have own_ne : ∀ b, b ≠ id → (E.set id .empty).own b = E.own b := fun b hb => by simp [Env.set, hb]
  refine ⟨⟨hx, RowKit.Below.refl base w, fun c o' _ h => h⟩, fun b k' hb => ?_, fun b b' k1 k2 c o1 c' o2 hne h1 h2 h3 h4 => ?_, fun b hb => ?_, hh.fixlt, hh.bs, fun b c o h => ?_⟩
  · by_cases e : b = id
    · subst e
      rw [upd_eq rfl] at hb
      cases hb
      exact .inl ⟨own_id, rfl⟩
    · rw [upd_ne e] at hb
      exact (hh.blk b k' hb).keep hx (fun _ _ _ => rfl) (fun _ _ _ _ h => h)
  · by_cases e : b = id
    · subst e; rw [own_id] at h3; cases h3
    · by_cases e' : b' = id
      · subst e'; rw [own_id] at h4; cases h4
      · rw [upd_ne e] at h1; rw [own_ne b e] at h3; rw [upd_ne e'] at h2; rw [own_ne b' e'] at h4
        exact hh.sep b b' k1 k2 c o1 c' o2 hne h1 h2 h3 h4
  · rw [own_ne b hb.2]; exact hh.fresh b hb.1
  · by_cases e : b = id
    · subst e; rw [own_id] at h; cases h
    · rw [own_ne b e] at h; exact hh.ownlt b c o h

/-- the cells of an owned block are written -/
theorem setRow_ext (hh : HeapOk base w E ah F) {b k c o} (hb : ah b = some k) (ho : E.own b = .at c o) {arr arr' : Array Value} {ty : TypeId}
    (hc : w.heap[c]? = some (.cells arr ty (0, 0))) (hs : arr'.size = arr.size) : Step base w E (w.setRow c arr') E := by
  obtain ⟨hlt, hbase, hnf⟩ := (hh.blk b k hb).lt ho
  refine ⟨⟨fun _ _ h => h, fun c' off h => ?_, fun _ _ => rfl, fun c' ar t h => ?_⟩, ⟨rfl, rfl, rfl, by simp, fun j hj => setRow_other w c j arr' (by omega)⟩, fun _ _ _ h => h⟩
  · have : c' ≠ c := fun e => hnf off (e ▸ h)
    exact cell_setRow_other w c arr' _ this
  · by_cases e : c' = c
    · subst e
      rw [hc] at h
      cases h
      exact ⟨arr', setRow_heap w c' _ arr' _ _ hc, hs⟩
    · exact ⟨ar, by rw [setRow_other w c c' arr' e]; exact h, rfl⟩

theorem setRow_block (hh : HeapOk base w E ah F) {b k c o} (hb : ah b = some k) (ho : E.own b = .at c o) {arr arr' : Array Value} {ty : TypeId}
    (hc : w.heap[c]? = some (.cells arr ty (0, 0))) (hs : arr'.size = arr.size) {sz : Nat} {rs : List (List AV)} (hr : RowsIn w E arr' o sz rs) :
    HeapOk base (w.setRow c arr') E (upd ah b (some (.rows sz rs))) F := by
  have st := setRow_ext hh hb ho hc hs
  obtain ⟨hlt, hbase, hnf⟩ := (hh.blk b k hb).lt ho
  refine ⟨fun b' k' hb' => ?_, fun b1 b2 k1 k2 c1 o1 c2 o2 hne h1 h2 h3 h4 => ?_, hh.fresh, fun c' off h => ?_, by simpa using hh.bs, fun b c o h => by simpa using hh.ownlt b c o h⟩
  · by_cases e : b' = b
    · subst e
      rw [upd_eq rfl] at hb'
      cases hb'
      exact .inr ⟨c, o, arr', ty, ho, hbase, hnf, setRow_heap w c arr arr' ty _ hc, hr.mono st.ext⟩
    · rw [upd_ne e] at hb'
      exact (hh.blk b' k' hb').keep st.ext (fun c' o' ho' => setRow_other w c c' arr' (fun ec => hh.sep b' b k' k c' o' c o e hb' hb ho' ho ec)) (fun _ _ _ _ h => h)
  · have g1 : ∃ k, ah b1 = some k := by
      by_cases e : b1 = b
      · exact ⟨k, e ▸ hb⟩
      · rw [upd_ne e] at h1; exact ⟨k1, h1⟩
    have g2 : ∃ k, ah b2 = some k := by
      by_cases e : b2 = b
      · exact ⟨k, e ▸ hb⟩
      · rw [upd_ne e] at h2; exact ⟨k2, h2⟩
    obtain ⟨q1, g1⟩ := g1
    obtain ⟨q2, g2⟩ := g2
    exact hh.sep b1 b2 q1 q2 c1 o1 c2 o2 hne g1 g2 h3 h4
  · have := hh.fixlt c' off h; simpa using this

/-- an owned block is let go -/
theorem HeapOk.drop (hh : HeapOk base w E ah F) (b : Nat) : HeapOk base w E (upd ah b none) F := by
  have g : ∀ b' k, upd ah b none b' = some k → ah b' = some k := fun b' k h => by
    by_cases e : b' = b
    · rw [upd_eq e] at h; cases h
    · rwa [upd_ne e] at h
  exact ⟨fun b' k h => hh.blk b' k (g b' k h), fun b1 b2 k1 k2 c1 o1 c2 o2 hne h1 h2 => hh.sep b1 b2 k1 k2 c1 o1 c2 o2 hne (g _ _ h1) (g _ _ h2), hh.fresh, hh.fixlt, hh.bs, hh.ownlt⟩

/-- an owned block changes its name and its beginning -/
theorem HeapOk.rename (hh : HeapOk base w E ah F) {b id sz rs c o o'} {arr : Array Value} {ty : TypeId} (hb : ah b = some (.rows sz rs)) (ho : E.own b = .at c o) (hid : F id)
    (hc : w.heap[c]? = some (.cells arr ty (0, 0))) {rs' : List (List AV)} {sz' : Nat} (hr : RowsIn w E arr o' sz' rs') :
    Step base w E w (E.set id (.at c o')) ∧ HeapOk base w (E.set id (.at c o')) (upd (upd ah b none) id (some (.rows sz' rs'))) (fun b => F b ∧ b ≠ id) := by
  have hfree := hh.fresh id hid
  obtain ⟨hlt, hbase, hnf⟩ := (hh.blk b _ hb).lt ho
  have hbid : b ≠ id := fun e => by rw [e, hfree] at ho; cases ho
  have hx : Ext w E w (E.set id (.at c o')) := by
    refine ⟨fun _ _ h => h, fun c off h => rfl, fun b hb => ?_, fun c arr ty h => ⟨arr, h, rfl⟩⟩
    have : b ≠ id := fun e => hb (by rw [e]; exact hfree)
    simp [Env.set, this]
  have own_id : (E.set id (.at c o')).own id = .at c o' := by simp [Env.set]
  have own_ne : ∀ b, b ≠ id → (E.set id (.at c o')).own b = E.own b := fun b hb => by simp [Env.set, hb]
  have g : ∀ b' k, b' ≠ id → upd (upd ah b none) id (some (.rows sz' rs')) b' = some k → ah b' = some k ∧ b' ≠ b := fun b' k hne h => by
    rw [upd_ne hne] at h
    by_cases e : b' = b
    · rw [upd_eq e] at h; cases h
    · rw [upd_ne e] at h; exact ⟨h, e⟩
  refine ⟨⟨hx, RowKit.Below.refl base w, fun c o' _ h => h⟩, fun b' k' hb' => ?_, fun b1 b2 k1 k2 c1 o1 c2 o2 hne h1 h2 h3 h4 => ?_, fun b hb => ?_, hh.fixlt, hh.bs, fun b1 c1 o1 h => ?_⟩
  · by_cases e : b' = id
    · subst e
      rw [upd_eq rfl] at hb'
      cases hb'
      exact .inr ⟨c, o', arr, ty, own_id, hbase, hnf, hc, hr.mono hx⟩
    · exact (hh.blk b' k' (g b' k' e hb').1).keep hx (fun _ _ _ => rfl) (fun _ _ _ _ h => h)
  · by_cases e : b1 = id
    · subst e
      have e2 : b2 ≠ b1 := hne.symm
      obtain ⟨h2, hnb⟩ := g b2 k2 e2 h2
      rw [own_id] at h3; cases h3
      rw [own_ne b2 e2] at h4
      exact hh.sep b b2 _ k2 _ o _ o2 hnb.symm hb h2 ho h4
    · obtain ⟨h1', hnb⟩ := g b1 k1 e h1
      rw [own_ne b1 e] at h3
      by_cases e' : b2 = id
      · subst e'
        rw [own_id] at h4; cases h4
        exact hh.sep b1 b k1 _ _ o1 _ o hnb h1' hb h3 ho
      · obtain ⟨h2, hnb'⟩ := g b2 k2 e' h2
        rw [own_ne b2 e'] at h4
        exact hh.sep b1 b2 k1 k2 c1 o1 c2 o2 hne h1' h2 h3 h4
  · rw [own_ne b hb.2]; exact hh.fresh b hb.1
  · by_cases e : b1 = id
    · subst e; rw [own_id] at h; cases h; exact ⟨hbase, hlt⟩
    · rw [own_ne b1 e] at h; exact hh.ownlt b1 c1 o1 h

/-- what a list of cells lays down -/
theorem RowsIn.of_cells {arr : Array Value} {sz : Nat} {rows : List (List AV)} (hlen : ∀ row ∈ rows, row.length = sz) (hs : ∀ row ∈ rows, ∀ x ∈ row, x.scal = true) {vs : List Value}
    (hr : RepL w E rows.flatten vs) (o : Nat) (hle : o + vs.length ≤ arr.size) (hc : ∀ (i : Nat) (v : Value), vs[i]? = some v → arr[o + i]? = some v) : RowsIn w E arr o sz rows := by
  have hfl : rows.flatten.length = rows.length * sz := by
    clear hr hle hc hs
    induction rows with
    | nil => simp
    | cons r rows ih =>
      have := ih (fun row h => hlen row (by simp [h]))
      simp only [List.flatten_cons, List.length_append, this, hlen r (by simp), List.length_cons, Nat.add_mul]; omega
  have hget : ∀ (i : Nat) (row : List AV) (j : Nat) (x : AV), rows[i]? = some row → row[j]? = some x → rows.flatten[i * sz + j]? = some x := by
    clear hr hle hc hs hfl
    induction rows with
    | nil => intro i row j x h; simp at h
    | cons r rows ih =>
      intro i row j x hi hj
      have hl := hlen r (by simp)
      cases i with
      | zero =>
        simp at hi; subst hi
        have hlt := (List.getElem?_eq_some_iff.1 hj).1
        simp only [List.flatten_cons, Nat.zero_mul, Nat.zero_add]
        rw [List.getElem?_append_left hlt]; exact hj
      | succ i =>
        simp at hi
        have := ih (fun row h => hlen row (by simp [h])) i row j x hi hj
        simp only [List.flatten_cons]
        rw [List.getElem?_append_right (by rw [hl, Nat.add_mul]; omega), hl]
        rw [show (i + 1) * sz + j - sz = i * sz + j by rw [Nat.add_mul]; omega]
        exact this
  have hvl : vs.length = rows.length * sz := by rw [← hr.1, hfl]
  refine ⟨by omega, fun i row h => hlen row (List.mem_of_getElem? h), hs, fun i row j x hi hj => ?_⟩
  have hx := hget i row j x hi hj
  have hlt := (List.getElem?_eq_some_iff.1 hx).1
  rw [hr.1] at hlt
  refine ⟨vs[i * sz + j], ?_, hr.2 _ x _ hx (by simp [hlt])⟩
  rw [Nat.add_assoc]
  exact hc _ _ (by simp [hlt])

end
end Go.Fw
end

section
namespace Go.Fw
set_option linter.unusedSimpArgs false
set_option linter.unusedVariables false
section
variable {P : Program} {base : Nat} {w w' : World} {E E' : Env} {ah : AH} {F : Nat → Prop} {K : Res → Prop} {id : Nat}

/-- an operation that may make or write owned memory -/
def WrOk (P : Program) (base : Nat) (w : World) (E : Env) (ah : AH) (F : Nat → Prop) (id : Nat) (s : Sem Value) (K : Res → Prop) : Prop :=
  ∃ r v w' E', K r ∧ s.run P w = .ok v w' ∧ Step base w E w' E' ∧ HeapOk base w' E' (upds ah r.wr) (fun b => F b ∧ b ≠ id) ∧ Rep w' E' r.v v

theorem RdOk.wr {s} (hh : HeapOk base w E ah F) (h : RdOk P w E s K) : WrOk P base w E ah F id s K := by
  obtain ⟨r, v, hK, hw, hr, hv⟩ := h
  exact ⟨r, v, w, E, hK, hr, Step.refl _ _ _, by rw [hw]; exact hh.weaken (fun b h => h.1), hv⟩

theorem RowsIn.one {cs : List AV} {vs : Array Value} (h : RepL w E cs vs.toList) (hs : ∀ c ∈ cs, c.scal = true) : RowsIn w E vs 0 cs.length [cs] :=
  RowsIn.of_cells (by simp) (by simpa using hs) (vs := vs.toList) (by simpa using h) 0 (by simp) (fun i v hv => by simpa using hv)

theorem new_row (hh : HeapOk base w E ah F) (hid : F id) (ty : TypeId) {cs : List AV} {vs : Array Value} (h : RepL w E cs vs.toList) (hs : ∀ c ∈ cs, c.scal = true) :
    ∃ w' E', w' = w.alloc (.cells vs ty) ∧ Step base w E w' E' ∧ HeapOk base w' E' (upd ah id (some (.rows cs.length [cs]))) (fun b => F b ∧ b ≠ id) ∧
      Rep w' E' (.op id cs.length 0 0) (.pointer (some ⟨w.heap.size, 0, none⟩)) := by
  obtain ⟨h1, h2⟩ := new_block hh hid (.cells vs ty) (.rows cs.length [cs]) (fun w' E' hx hfix ho hn =>
    .inr ⟨w.heap.size, 0, vs, ty, ho, hh.bs, fun off hf => by have := hh.fixlt _ _ (hfix _ _ hf); omega, hn, (RowsIn.one h hs).mono hx⟩)
  exact ⟨_, _, rfl, h1, h2, by simpa using Rep.op (w := w.alloc (.cells vs ty)) (E := E.set id (.at w.heap.size 0)) id cs.length 0 0 w.heap.size 0 (by simp [Env.set])⟩

theorem aBox_wr (hh : HeapOk base w E ah F) (hid : F id) {x vx} (ty : TypeId) (h : aBox id x K) (hx : Rep w E x vx) : WrOk P base w E ah F id (Instr.box ty vx) K := by
  obtain ⟨hb, hK⟩ := h
  obtain ⟨hc, hs⟩ := hx.cells hb
  obtain ⟨w', E', rfl, h1, h2, h3⟩ := new_row hh hid ty hc hs
  exact ⟨_, _, _, E', hK, by simp [Instr.box, newVar, newRow], h1, h2, h3⟩

theorem aAlloc_wr (hh : HeapOk base w E ah F) (hid : F id) {t : TypeId} (h : aAlloc P t id K) : WrOk P base w E ah F id (Instr.alloc t true (.tuple #[])) K := by
  obtain ⟨z, hz, hK⟩ := withO_iff.1 h
  obtain ⟨zv, hr, hc, hs⟩ := zeroOf_run (w := w) (E := E) hz
  obtain ⟨w', E', rfl, h1, h2, h3⟩ := new_row hh hid t hc hs
  exact ⟨_, _, _, E', hK, by simp [Instr.alloc, hr, newVar, newRow], h1, h2, h3⟩

theorem flatten_replicate_get (z : List AV) : ∀ (n i : Nat), i < n * z.length → (List.replicate n z).flatten[i]? = z[i % z.length]?
  | 0, i, h => by simp at h
  | n + 1, i, h => by
    rw [List.replicate_succ, List.flatten_cons, List.getElem?_append]
    split
    · rename_i hlt; rw [Nat.mod_eq_of_lt hlt]
    · rename_i hlt
      rw [flatten_replicate_get z n (i - z.length) (by rw [Nat.add_mul] at h; omega)]
      rw [← Nat.mod_eq_sub_mod (by omega)]

theorem zeros_rep {z : List AV} {zv : Array Value} (h : RepL w E z zv.toList) (n : Nat) :
    RepL w E (List.replicate n z).flatten ((Array.range (n * z.length)).map (fun i => zv[i % zv.size]!)).toList := by
  have hl : zv.size = z.length := by simpa using h.1.symm
  refine ⟨by simp, fun i a v ha hv => ?_⟩
  have hlt : i < n * z.length := by have := (List.getElem?_eq_some_iff.1 ha).1; simpa using this
  rw [flatten_replicate_get z n i hlt] at ha
  have hz : 0 < z.length := by rcases Nat.eq_zero_or_pos z.length with e | e; (rw [e] at hlt; simp at hlt); exact e
  have hm : i % z.length < z.length := Nat.mod_lt _ hz
  refine h.2 (i % z.length) a v ha ?_
  simp [hlt, hl] at hv
  rw [← hv]
  simp [hl, hm]

theorem chunks_flatten (n : Nat) : ∀ (k : Nat) (l : List AV), l.length = k * n → (chunks n k l).flatten = l ∧ ∀ row ∈ chunks n k l, row.length = n
  | 0, l, h => by simp at h; simp [chunks, h]
  | k + 1, l, h => by
    have hn : n ≤ l.length := by rw [h, Nat.add_mul]; omega
    obtain ⟨h1, h2⟩ := chunks_flatten n k (l.drop n) (by simp [h, Nat.add_mul])
    refine ⟨by simp [chunks, h1], fun row hr => ?_⟩
    simp only [chunks, List.mem_cons] at hr
    rcases hr with rfl | hr
    · simp [hn]
    · exact h2 row hr
theorem chunks_length (n : Nat) : ∀ (k : Nat) (l : List AV), (chunks n k l).length = k
  | 0, l => rfl
  | k + 1, l => by simp [chunks, chunks_length n k]

theorem afill_length {place : Nat → Option (Nat × Nat)} : ∀ {parts : List (Nat × AV)} {cells cs : List AV}, afill place cells parts = some cs → cs.length = cells.length
  | [], cells, cs, h => by cases h; rfl
  | (k, a) :: parts, cells, cs, h => by
    simp only [afill] at h
    split at h
    · cases h
    · split at h
      · cases h
      · rename_i hc
        simp only [Bool.or_eq_true, decide_eq_true_eq, not_or, Nat.not_lt, ne_eq, Decidable.not_not, Bool.not_eq_false] at hc
        rw [afill_length h]
        simp [lay]; omega

theorem aBuildSlice_wr (hh : HeapOk base w E ah F) (hid : F id) {t : TypeId} {len : Nat} {parts : List (Nat × AV)} {vparts : List (Nat × Value)} (h : aBuildSlice P t id len parts K) (hl : parts.length = vparts.length)
    (hp : ∀ (i : Nat) (p : Nat × AV) (q : Nat × Value), parts[i]? = some p → vparts[i]? = some q → p.1 = q.1 ∧ Rep w E p.2 q.2) :
    WrOk P base w E ah F id (Instr.buildSlice t len vparts.toArray) K := by
  unfold aBuildSlice at h
  split at h
  · rename_i e hu
    obtain ⟨inf, hi, h⟩ := withO_iff.1 h
    obtain ⟨z, hz, hzl, hle, h⟩ := withO_iff.1 h
    obtain ⟨cs, hcs, hK⟩ := withO_iff.1 h
    obtain ⟨zv, hzr, hzc, hzs⟩ := zeroOf_run (w := w) (E := E) hz
    have hzeros := zeros_rep hzc len
    rw [hzl] at hzeros
    obtain ⟨vcs, hf, h1, h2⟩ := afill_run hcs hl hp hzeros (fun c hc => by
      obtain ⟨l, hl, hc⟩ := List.mem_flatten.1 hc
      obtain ⟨-, e⟩ := List.mem_replicate.1 hl
      rw [e] at hc
      exact hzs c hc)
    have hcl : cs.length = len * inf.size := by rw [afill_length hcs]; simp [hzl]
    obtain ⟨hch1, hch2⟩ := chunks_flatten inf.size len cs hcl
    have hvs : vcs.size = len * inf.size := by rw [← hcl, h1.1]; simp
    obtain ⟨g1, g2⟩ := new_block hh hid (.cells vcs e) (.rows inf.size (chunks inf.size len cs)) (fun w' E' hx hfix ho hn =>
      .inr ⟨w.heap.size, 0, vcs, e, ho, hh.bs, fun off hf => by have := hh.fixlt _ _ (hfix _ _ hf); omega, hn,
        (RowsIn.of_cells hch2 (fun row hr x hx => h2 x (by rw [← hch1]; exact List.mem_flatten.2 ⟨row, hr, hx⟩)) (vs := vcs.toList) (by rw [hch1]; exact h1) 0 (by simp) (fun i v hv => by simpa using hv)).mono hx⟩)
    refine ⟨_, .slice (some ⟨w.heap.size, 0, none⟩) len len, _, _, hK, ?_, g1, g2, ?_⟩
    · have hnl : ¬ (len * inf.size > 2 ^ 24) := by omega
      by_cases h0 : len * inf.size = 0
      · have e0 : ∀ f : Nat → Value, Array.map f (Array.range 0) = #[] := fun f => by apply Array.ext <;> simp
        rw [h0, e0] at hf
        simp only [Instr.buildSlice, Sem.run_bind, run_underlying hu, Result.andThen_ok, sizeOf, typeInfo, run_program, hi, Sem.run_pure, hnl, if_false, h0, if_true, e0, hf, newRow, run_newObj]
        rfl
      · simp only [Instr.buildSlice, Sem.run_bind, run_underlying hu, Result.andThen_ok, sizeOf, typeInfo, run_program, hi, Sem.run_pure, hnl, if_false, h0, hzr, hf, newRow, run_newObj]
        rfl
    · have := Rep.os (w := w.alloc (.cells vcs e)) (E := E.set id (.at w.heap.size 0)) id inf.size 0 len w.heap.size 0 len (by simp [Env.set]) (Nat.le_refl _) ⟨vcs, e, heap_alloc_new w _, by rw [hvs]; simp⟩
      simpa using this
  · exact h.elim

theorem aMakeSlice_wr (hh : HeapOk base w E ah F) (hid : F id) {t : TypeId} {l c : AV} {vl vc : Value} (h : aMakeSlice P t id l c K) (hl : Rep w E l vl) (hc : Rep w E c vc) :
    WrOk P base w E ah F id (Instr.makeSlice t vl vc) K := by
  unfold aMakeSlice at h
  split at h
  · rename_i e kl l kc c hu
    obtain rfl := hl.p_inv
    obtain rfl := hc.p_inv
    obtain ⟨inf, hi, h⟩ := withO_iff.1 h
    obtain ⟨z, hz, hzl, hl0, hlc, hcb, hby, hK⟩ := withO_iff.1 h
    obtain ⟨zv, hzr, hzc, hzs⟩ := zeroOf_run (w := w) (E := E) hz
    have hzv : zv.cells.size = inf.size := by rw [← hzl, hzc.1]; simp
    have hzeros := zeros_rep hzc l.toNat
    rw [hzl] at hzeros
    have wl : IntKind.i64.wrap l = l := by apply IntWalk.i64_in <;> omega
    have wc : IntKind.i64.wrap c = c := by apply IntWalk.i64_in <;> omega
    have big : ∀ n : Int, 0 ≤ n → n ≤ 4294967296 → ¬ ((inf.bytes : Int) * n > 2 ^ 48) := fun n h0 h1 => by
      have : (inf.bytes : Int) * n ≤ 4096 * 4294967296 := Int.mul_le_mul (by omega) h1 h0 (by omega)
      omega
    obtain ⟨arr, harr⟩ : ∃ arr, arr = (Array.range (c.toNat * inf.size)).map (fun i => zv.cells[i % zv.cells.size]!) := ⟨_, rfl⟩
    have hrows : RowsIn w E arr 0 inf.size (List.replicate l.toNat z) := by
      refine RowsIn.of_cells (fun row hr => by rw [(List.mem_replicate.1 hr).2]; exact hzl) (fun row hr x hx => hzs x (by rw [(List.mem_replicate.1 hr).2] at hx; exact hx)) hzeros 0 ?_ (fun i v hv => ?_)
      · rw [harr]; simp; exact Nat.mul_le_mul_right _ (by omega)
      · have hlt : i < l.toNat * inf.size := by have := (List.getElem?_eq_some_iff.1 hv).1; simpa using this
        have hlt2 : i < c.toNat * inf.size := Nat.lt_of_lt_of_le hlt (Nat.mul_le_mul_right _ (by omega))
        rw [harr]
        simp [hlt] at hv
        simp [hlt2, hv]
    obtain ⟨g1, g2⟩ := new_block hh hid (.cells arr e) (.rows inf.size (List.replicate l.toNat z)) (fun w' E' hx hfix ho hn =>
      .inr ⟨w.heap.size, 0, arr, e, ho, hh.bs, fun off hf => by have := hh.fixlt _ _ (hfix _ _ hf); omega, hn, hrows.mono hx⟩)
    refine ⟨_, .slice (some ⟨w.heap.size, 0, none⟩) l.toNat c.toNat, _, _, hK, ?_, g1, g2, ?_⟩
    · have t1 : (decide (c < 0) || decide ((inf.bytes : Int) * c > 2 ^ 48)) = false := by
        rw [Bool.or_eq_false_iff]; exact ⟨by simp; omega, decide_eq_false (big c (by omega) hcb)⟩
      have t3 : decide (l < 0) = false := by simp; omega
      have t4 : decide (l > c) = false := by simp; omega
      have hcond : ((c < 0 || (inf.bytes : Int) * c > 2 ^ 48) || l < 0 || l > c) = false := by
        simp only [t1, t3, t4, Bool.or_self]
      simp only [Instr.makeSlice, asInt, asIntOf, Sem.run_bind, run_underlying hu, Result.andThen_ok, typeInfo, run_program, hi, Sem.run_pure, wl, wc, hcond, Bool.false_eq_true, if_false, run_askRoom, sizeOf]
      by_cases h0 : c.toNat * inf.size = 0
      · have e0 : ∀ f : Nat → Value, Array.map f (Array.range 0) = #[] := fun f => by apply Array.ext <;> simp
        rw [h0, e0] at harr
        subst harr
        simp only [h0, if_true, Sem.run_pure, Result.andThen_ok, e0, newRow, Sem.run_bind, run_newObj]
        rfl
      · simp only [h0, if_false, Sem.run_bind, hzr, Result.andThen_ok, Sem.run_pure, newRow, run_newObj, ← harr]
        rfl
    · have := Rep.os (w := w.alloc (.cells arr e)) (E := E.set id (.at w.heap.size 0)) id inf.size 0 l.toNat w.heap.size 0 c.toNat (by simp [Env.set]) (by omega) ⟨arr, e, heap_alloc_new w _, by rw [harr]; simp⟩
      simpa using this
  · exact h.elim

theorem Rep.op_inv {b sz i off v} (h : Rep w E (.op b sz i off) v) : ∃ c o, v = .pointer (some ⟨c, o + i * sz + off, none⟩) ∧ E.own b = .at c o := by
  cases h with | op _ _ _ _ c o hb => exact ⟨c, o, rfl, hb⟩

theorem lay_length {row cs : List AV} {off : Nat} (h : off + cs.length ≤ row.length) : (lay row off cs).length = row.length := by simp [lay]; omega
theorem lay_scal {row cs : List AV} {off : Nat} (h1 : ∀ x ∈ row, x.scal = true) (h2 : ∀ x ∈ cs, x.scal = true) : ∀ x ∈ lay row off cs, x.scal = true := by
  intro x hx
  unfold lay at hx
  rcases List.mem_append.1 hx with hx | hx
  · rcases List.mem_append.1 hx with hx | hx
    · exact h1 x (List.mem_of_mem_take hx)
    · exact h2 x hx
  · exact h1 x (List.mem_of_mem_drop hx)
theorem lay_get {row cs : List AV} {off j : Nat} (h : off + cs.length ≤ row.length) : (lay row off cs)[j]? = if off ≤ j ∧ j < off + cs.length then cs[j - off]? else row[j]? := by
  unfold lay
  have hm : min off row.length = off := by omega
  by_cases h1 : j < off
  · rw [List.append_assoc, List.getElem?_append_left (by simp; omega)]
    rw [if_neg (by omega), List.getElem?_take, if_pos h1]
  · by_cases h2 : j < off + cs.length
    · rw [if_pos (by omega), List.getElem?_append_left (by simp; omega), List.getElem?_append_right (by simp; omega)]
      simp [hm]
    · rw [if_neg (by omega), List.getElem?_append_right (by simp; omega)]
      simp [hm]
      congr 1; omega

theorem arr_lay {arr : Array Value} {off : Nat} {vs : List Value} (h : off + vs.length ≤ arr.size) (j : Nat) :
    (arr.toList.take off ++ vs ++ arr.toList.drop (off + vs.length)).toArray[j]? = if off ≤ j ∧ j < off + vs.length then vs[j - off]? else arr[j]? := by
  have hm : min off arr.size = off := by omega
  by_cases h1 : j < off
  · rw [if_neg (by omega)]
    simp only [List.getElem?_toArray]
    rw [List.append_assoc, List.getElem?_append_left (by simp; omega), List.getElem?_take, if_pos h1]
    simp
  · by_cases h2 : j < off + vs.length
    · rw [if_pos (by omega)]
      simp only [List.getElem?_toArray]
      rw [List.getElem?_append_left (by simp; omega), List.getElem?_append_right (by simp; omega)]
      simp [hm]
    · rw [if_neg (by omega)]
      simp only [List.getElem?_toArray]
      rw [List.getElem?_append_right (by simp; omega)]
      simp [hm]
      rw [show off + vs.length + (j - (off + vs.length)) = j by omega]

theorem aStore_wr (hh : HeapOk base w E ah F) {t : TypeId} {a v : AV} {va vv : Value} (h : aStore P ah t a v K) (ha : Rep w E a va) (hv : Rep w E v vv) :
    ∃ r w' E', K r ∧ (Instr.storeAt t va vv).run P w = .ok () w' ∧ Step base w E w' E' ∧ HeapOk base w' E' (upds ah r.wr) (fun b => F b ∧ b ≠ id) ∧ r.v = .p undef := by
  obtain ⟨ty, hty, h⟩ := withO_iff.1 h
  cases a with
  | op b sz i off =>
    dsimp only at h
    obtain ⟨c, o, rfl, hb⟩ := ha.op_inv
    split at h
    · rename_i sz' rs hab
      obtain ⟨rfl, hbx, hlen, h⟩ := h
      obtain ⟨row, hrow, hle, hK⟩ := withO_iff.1 h
      obtain ⟨hc, hs⟩ := hv.cells hbx
      have hone : ∀ u ∈ vv.cells.toList, u.oneCell' = true := fun u hu => by
        obtain ⟨j, hj⟩ := List.mem_iff_getElem?.1 hu
        have hlt := (List.getElem?_eq_some_iff.1 hj).1
        rw [← hc.1] at hlt
        exact (hc.2 j v.cells[j] u (by simp [hlt]) hj).one (hs _ (by simp))
      rcases hh.blk b _ hab with ⟨_, h0⟩ | ⟨c', o', arr, tt, h1, h2, h3, h4, h5⟩
      · rw [h0] at hrow; simp at hrow
      · rw [hb] at h1
        cases h1
        have hilt : i < rs.length := (List.getElem?_eq_some_iff.1 hrow).1
        have hrl := h5.2.1 i row hrow
        have hvl : vv.cells.toList.length = ty.2 := by rw [← hc.1]; exact hlen
        have hmul : (i + 1) * sz ≤ rs.length * sz := Nat.mul_le_mul_right _ (by omega)
        rw [Nat.add_mul] at hmul
        have hfit : o + i * sz + off + vv.cells.toList.length ≤ arr.size := by have := h5.1; omega
        have hst := run_storeCells_at P c (o + i * sz + off) tt vv.cells.toList 0 arr w h4 (by simpa using hfit) hone
        simp only [Nat.add_zero] at hst
        obtain ⟨arr', harr⟩ : ∃ arr', arr' = (arr.toList.take (o + i * sz + off) ++ vv.cells.toList ++ arr.toList.drop (o + i * sz + off + vv.cells.toList.length)).toArray := ⟨_, rfl⟩
        rw [← harr] at hst
        have hsz : arr'.size = arr.size := by rw [harr]; simp at hfit ⊢; omega
        have hget := arr_lay hfit
        rw [← harr] at hget
        have hrows : RowsIn w E arr' o sz (rs.set i (lay row off v.cells)) := by
          refine ⟨by rw [hsz]; simpa using h5.1, fun q r hq => ?_, fun r hr => ?_, fun q r j x hq hj => ?_⟩
          · rw [List.getElem?_set] at hq
            split at hq
            · rename_i e; subst e
              simp [hilt] at hq; subst hq
              rw [lay_length (by omega)]; exact hrl
            · exact h5.2.1 q r hq
          · rcases List.mem_or_eq_of_mem_set hr with hr | rfl
            · exact h5.2.2.1 r hr
            · exact lay_scal (h5.2.2.1 row (List.mem_of_getElem? hrow)) hs
          · rw [List.getElem?_set] at hq
            split at hq
            · rename_i e; subst e
              simp [hilt] at hq; subst hq
              rw [lay_get (by omega)] at hj
              split at hj
              · rename_i hin
                have hlt := (List.getElem?_eq_some_iff.1 hj).1
                rw [hc.1] at hlt
                refine ⟨vv.cells.toList[j - off], ?_, hc.2 (j - off) x _ hj (by simp [hlt])⟩
                rw [hget, if_pos (by omega)]
                rw [show o + i * sz + j - (o + i * sz + off) = j - off by omega]
                simp [hlt]
              · rename_i hin
                obtain ⟨u, hu, hr⟩ := h5.2.2.2 i row j x hrow hj
                refine ⟨u, ?_, hr⟩
                rw [hget, if_neg (by omega)]
                exact hu
            · rename_i hne
              obtain ⟨u, hu, hr⟩ := h5.2.2.2 q r j x hq hj
              refine ⟨u, ?_, hr⟩
              have hjl := (List.getElem?_eq_some_iff.1 hj).1
              rw [h5.2.1 q r hq] at hjl
              rw [hget, if_neg]
              · exact hu
              · rcases Nat.lt_or_gt_of_ne hne with hlt | hlt
                · have : (i + 1) * sz ≤ q * sz := Nat.mul_le_mul_right _ (by omega)
                  rw [Nat.add_mul] at this
                  omega
                · have : (q + 1) * sz ≤ i * sz := Nat.mul_le_mul_right _ (by omega)
                  rw [Nat.add_mul] at this
                  omega
        obtain ⟨-, hsize, -⟩ := tyOf_run hty w
        refine ⟨_, _, E, hK, ?_, setRow_ext hh hab hb h4 hsz, (setRow_block hh hab hb h4 hsz hrows).weaken (fun b h => h.1), rfl⟩
        have : vv.cells.size = ty.2 := by simpa using hvl
        simp only [Instr.storeAt, Instr.sureAddr, Sem.run_bind, Sem.run_pure, Result.andThen_ok, storeVar, hsize, this, ne_eq, not_true_eq_false, if_false, hst]
    · exact h.elim
  | _ => exact h.elim

end
end Go.Fw
end

section
namespace Go.Fw
set_option linter.unusedSimpArgs false
set_option linter.unusedVariables false
section
variable {P : Program} {base : Nat} {w w' : World} {E E' : Env} {ah : AH} {F : Nat → Prop} {K : Res → Prop} {id : Nat}

/-- a draw turns nothing -/
theorem draw_ok (hh : HeapOk base w E ah F) (n : Nat) : Step base w E { w with drawn := n } E ∧ HeapOk base { w with drawn := n } E ah F := by
  have hx : Ext w E { w with drawn := n } E := ⟨fun _ _ h => h, fun _ _ _ => rfl, fun _ _ => rfl, fun _ arr _ h => ⟨arr, h, rfl⟩⟩
  exact ⟨⟨hx, ⟨rfl, rfl, rfl, Nat.le_refl _, fun _ _ => rfl⟩, fun _ _ _ h => h⟩,
    ⟨fun b k hb => (hh.blk b k hb).keep hx (fun _ _ _ => rfl) (fun _ _ _ _ h => h), hh.sep, hh.fresh, hh.fixlt, hh.bs, hh.ownlt⟩⟩

theorem flatten_get {n : Nat} (hn : 0 < n) : ∀ {rows : List (List AV)}, (∀ row ∈ rows, row.length = n) → rows.flatten.length = rows.length * n ∧
    ∀ q, q < rows.length * n → ∃ row x, rows[q / n]? = some row ∧ row[q % n]? = some x ∧ rows.flatten[q]? = some x
  | [], h => ⟨by simp, fun q hq => by simp at hq⟩
  | r :: rows, h => by
    have hl := h r (by simp)
    obtain ⟨h1, h2⟩ := flatten_get hn (rows := rows) (fun row hr => h row (by simp [hr]))
    refine ⟨by simp only [List.flatten_cons, List.length_append, h1, hl, List.length_cons, Nat.add_mul]; omega, fun q hq => ?_⟩
    by_cases hlt : q < n
    · refine ⟨r, r[q]'(by omega), by simp [Nat.div_eq_of_lt hlt], by simp [Nat.mod_eq_of_lt hlt, hl, hlt], ?_⟩
      rw [List.flatten_cons, List.getElem?_append_left (by omega)]
      simp [hl, hlt]
    · obtain ⟨row, x, g1, g2, g3⟩ := h2 (q - n) (by simp [Nat.add_mul] at hq; omega)
      have e1 : q / n = (q - n) / n + 1 := by
        have : q = (q - n) + n := by omega
        rw [this, Nat.add_div_right _ hn]; simp
      have e2 : q % n = (q - n) % n := by
        rw [Nat.mod_eq_sub_mod (by omega)]
      refine ⟨row, x, by rw [e1]; simpa using g1, by rw [e2]; exact g2, ?_⟩
      rw [List.flatten_cons, List.getElem?_append_right (by omega), hl]
      exact g3

def CellsAt (w : World) (E : Env) (c o n : Nat) (rows : List (List AV)) : Prop :=
  ∀ (i : Nat) (row : List AV) (j : Nat) (x : AV), rows[i]? = some row → row[j]? = some x → ∃ v, w.cell? ⟨c, o + i * n + j, none⟩ = some v ∧ Rep w E x v

theorem CellsAt.load {c o n rows} (hn : 0 < n) (hr : ∀ row ∈ rows, row.length = n) (h : CellsAt w E c o n rows) :
    ∃ news, (loadCells ⟨c, o, none⟩ (rows.length * n)).run P w = .ok news.toArray w ∧ RepL w E rows.flatten news := by
  obtain ⟨h1, h2⟩ := flatten_get hn hr
  have key : ∀ q, q < rows.length * n → ∃ v, w.cell? ⟨c, o + q, none⟩ = some v ∧ ∀ x, rows.flatten[q]? = some x → Rep w E x v := fun q hq => by
    obtain ⟨row, x, g1, g2, g3⟩ := h2 q hq
    obtain ⟨v, hv, hx⟩ := h _ row _ x g1 g2
    refine ⟨v, ?_, fun y hy => ?_⟩
    · rw [← hv]
      congr 2
      have := Nat.div_add_mod q n
      rw [Nat.mul_comm] at this
      omega
    · rw [g3] at hy; cases hy; exact hx
  refine ⟨(List.range (rows.length * n)).map fun q => (w.cell? ⟨c, o + q, none⟩).getD undef, ?_, by simp [h1], fun q x v hx hv => ?_⟩
  · exact run_loadCells w _ _ (fun q => (w.cell? ⟨c, o + q, none⟩).getD undef) (fun q hq => by
      obtain ⟨v, hv, -⟩ := key q hq
      rw [Addr.add_lit, hv]; rfl)
  · have hq : q < rows.length * n := by rw [← h1]; exact (List.getElem?_eq_some_iff.1 hx).1
    obtain ⟨u, hu, hr⟩ := key q hq
    simp [hq, hu] at hv
    rw [← hv]
    exact hr x hx

/-- what a list of rows is read from -/
theorem rowsOf_run (hh : HeapOk base w E ah F) {n : Nat} (hn : 0 < n) {y : AV} {vy : Value} {k : List (List AV) → List Nat → Prop} (h : rowsOf ah n y k) (hy : Rep w E y vy) :
    ∃ ys rd news, k ys rd ∧ (Builtin.lenOf vy).run P w = .ok ys.length w ∧ (Builtin.firstCells n ys.length vy).run P w = .ok news.toArray w ∧ RepL w E ys.flatten news ∧
      (∀ row ∈ ys, row.length = n) ∧ (∀ row ∈ ys, ∀ x ∈ row, x.scal = true) := by
  cases y with
  | sl rows full =>
    obtain ⟨hr, hk⟩ := h
    cases hy with
    | slnil _ a => exact ⟨[], [], [], hk, rfl, by cases a <;> simp [Builtin.firstCells, loadCells, loadCellsFrom], RepL.nil, by simp, by simp⟩
    | sl _ _ sz c o cap g hcap hfull hsz hfix hcell hscal hrep =>
      have hsz' : ∀ (i : Nat) (row : List AV), rows[i]? = some row → sz = n := fun i row hi => by rw [← hsz i row hi]; exact hr row (List.mem_of_getElem? hi)
      obtain ⟨news, h1, h2⟩ := CellsAt.load (P := P) (w := w) (E := E) (c := c) (o := o) hn hr (fun i row j x hi hj => by
        have e := hsz' i row hi
        subst e
        exact ⟨g i j, hcell i row j x hi hj, hrep i row j x hi hj⟩)
      exact ⟨rows, [], news, hk, rfl, h1, h2, hr, hscal⟩
  | os b sz off len =>
    obtain ⟨rfl, h⟩ := h
    split at h
    · rename_i sz' rs hab
      obtain ⟨rfl, hle, hk⟩ := h
      have hlen : ((rs.drop off).take len).length = len := by simp; omega
      cases hy with
      | osnil =>
        refine ⟨(rs.drop off).take 0, [b], [], hk, rfl, ?_, by simp; exact RepL.nil, by simp, by simp⟩
        cases ‹Option Addr› with
        | none => rfl
        | some a => simp [Builtin.firstCells, loadCells, loadCellsFrom]
      | os _ _ _ _ c o cap hb hcap hsize =>
        rcases hh.blk b _ hab with ⟨h0, -⟩ | ⟨c', o', arr, tt, h1, h2, h3, h4, h5⟩
        · rw [hb] at h0; cases h0
        · rw [hb] at h1
          cases h1
          have hget : ∀ (i : Nat) (row : List AV), ((rs.drop off).take len)[i]? = some row → rs[off + i]? = some row := fun i row hr => by
            rw [List.getElem?_take] at hr
            split at hr
            · simpa using hr
            · cases hr
          have hr : ∀ row ∈ (rs.drop off).take len, row.length = sz := fun row hm => by
            obtain ⟨i, hi⟩ := List.mem_iff_getElem?.1 hm
            exact h5.2.1 _ row (hget i row hi)
          obtain ⟨news, g1, g2⟩ := CellsAt.load (P := P) (w := w) (E := E) (c := c) (o := o + off * sz) hn hr (fun i row j x hi hj => by
            obtain ⟨v, hv, hx⟩ := h5.2.2.2 _ row j x (hget i row hi) hj
            refine ⟨v, ?_, hx⟩
            rw [cell_of_row w c _ arr tt _ h4, ← hv]
            congr 1
            rw [Nat.add_mul]; omega)
          refine ⟨(rs.drop off).take len, [b], news, hk, ?_, ?_, g2, hr, fun row hm x hx => h5.2.2.1 row (List.mem_of_mem_drop (List.mem_of_mem_take hm)) x hx⟩
          · rw [hlen]; rfl
          · exact g1
    · exact h.elim
  | str s =>
    obtain ⟨rfl, hk⟩ := h
    cases hy with | str b _ hb =>
    subst hb
    refine ⟨_, [], b.data.toList.map fun x => .int .u8 x.toNat, hk, by simp [Builtin.lenOf], ?_, ?_, by simp, by simp [AV.scal]⟩
    · have e : b.extract 0 b.size = b := by simp
      simp [Builtin.firstCells, e]
      apply Array.ext'; simp
    · have e : (b.data.toList.map fun x => [AV.p (.int .u8 x.toNat)]).flatten = b.data.toList.map fun x => AV.p (.int .u8 x.toNat) := by
        induction b.data.toList with
        | nil => rfl
        | cons x l ih => simp [ih]
      rw [e]
      refine ⟨by simp, fun i x v hx hv => ?_⟩
      simp only [List.getElem?_map, Option.map_eq_some_iff] at hx hv
      obtain ⟨u, hu, rfl⟩ := hx
      obtain ⟨u', hu', rfl⟩ := hv
      rw [hu] at hu'
      cases hu'
      exact .p rfl
  | _ => exact h.elim

theorem growBy_le (n : Nat) : ∀ (r c : Nat), c ≤ 5 * n + 960 → Builtin.growBy n r c ≤ 5 * n + 960 ∨ Builtin.growBy n r c ≤ n + (n + 768) / 4
  | 0, c, h => .inl h
  | r + 1, c, h => by
    simp only [Builtin.growBy]
    split
    · exact .inl h
    · exact growBy_le n r _ (by omega)
theorem nextslicecap_le {n c : Nat} (h : c < n) : Builtin.nextslicecap n c ≤ 5 * n + 960 := by
  unfold Builtin.nextslicecap
  split
  · omega
  · split
    · omega
    · rcases growBy_le n 4 c (by omega) with h | h <;> omega

end
end Go.Fw
end

section
namespace Go.Fw
set_option linter.unusedSimpArgs false
set_option linter.unusedVariables false
section
variable {P : Program} {base : Nat} {w w' : World} {E E' : Env} {ah : AH} {F : Nat → Prop} {K : Res → Prop} {id : Nat}

/-- append, where the old array has no room -/
theorem append_grow (hh : HeapOk base w E ah F) (hid : F id) {t ty t2 el : TypeId} {d2 : TypeDesc} {inf : TypeInfo} {z : List AV} (hu : P.underlying t = some (.slice el)) (hi : P.info? el = some inf)
    (hu2 : P.underlying t2 = some d2) (hd2 : ∀ k, d2 ≠ .int k) (hz : zeroOf P el = some z) (hzl : z.length = inf.size) (hn : 0 < inf.size) (hby : inf.bytes ≤ 4096)
    {a : Option Addr} {sLen sCap : Nat} {vy : Value} {xs ys : List (List AV)} {olds news : List Value} (hxl : xs.length = sLen)
    (ho : ∀ n, (Builtin.firstCells inf.size sLen (.slice a sLen sCap)).run P { w with drawn := n } = .ok olds.toArray { w with drawn := n }) (ho2 : RepL w E xs.flatten olds)
    (hxr : ∀ row ∈ xs, row.length = inf.size) (hxs : ∀ row ∈ xs, ∀ x ∈ row, x.scal = true)
    (hn0 : (Builtin.lenOf vy).run P w = .ok ys.length w) (hn1 : ∀ n, (Builtin.firstCells inf.size ys.length vy).run P { w with drawn := n } = .ok news.toArray { w with drawn := n }) (hn2 : RepL w E ys.flatten news)
    (hyr : ∀ row ∈ ys, row.length = inf.size) (hys : ∀ row ∈ ys, ∀ x ∈ row, x.scal = true)
    (hroom : ¬ (sLen + ys.length ≤ sCap)) (hmax : sLen + ys.length ≤ 4294967296) :
    ∃ v w' E', (Builtin.append_ #[t, t2] ty #[.slice a sLen sCap, vy]).run P w = .ok v w' ∧ Step base w E w' E' ∧
      HeapOk base w' E' (upd ah id (some (.rows inf.size (xs ++ ys)))) (fun b => F b ∧ b ≠ id) ∧ Rep w' E' (.os id inf.size 0 (sLen + ys.length)) v := by
  obtain ⟨zv, hzr, hzc, hzs⟩ := zeroOf_run (w := w) (E := E) hz
  have hzr' : ∀ n, (zeroValue el).run P { w with drawn := n } = .ok zv { w with drawn := n } := fun n => by
    obtain ⟨zv', h1, -, -⟩ := zeroOf_run (w := { w with drawn := n }) (E := E) hz
    have : (zeroValue el).run P { w with drawn := n } = (match (zeroValue el).run P w with | .ok v _ => .ok v { w with drawn := n } | .halt x _ => .halt x { w with drawn := n }) := by
      simp only [zeroValue, typeInfo, Sem.run_bind, run_program, Result.andThen_ok, hi, Sem.run_pure]
      cases inf.zero <;> simp
    rw [this, hzr]
  have hnb : ¬ (Builtin.nextslicecap (sLen + ys.length) sCap * inf.bytes > 2 ^ 48) := by
    have h1 := nextslicecap_le (n := sLen + ys.length) (c := sCap) (by omega)
    have h2 : Builtin.nextslicecap (sLen + ys.length) sCap * inf.bytes ≤ (5 * 4294967296 + 960) * 4096 := Nat.mul_le_mul (by omega) hby
    omega
  have hni : ¬ (((sLen + ys.length : Nat) : Int) > IntKind.i64.max ∧ (False ∨ inf.bytes = 0)) := by
    have e : IntKind.i64.max = 9223372036854775807 := by rfl
    rw [e]; omega
  obtain ⟨hd1, hd2'⟩ := draw_ok hh (w.drawn + 1)
  obtain ⟨nc, hnc⟩ : ∃ nc, nc = (Question.appendCap (sLen + ys.length) sCap el).cut (w.tape w.drawn (.appendCap (sLen + ys.length) sCap el)) := ⟨_, rfl⟩
  have hge : sLen + ys.length ≤ nc := by rw [hnc]; simp [Question.cut]
  obtain ⟨arr, harr⟩ : ∃ arr, arr = olds.toArray ++ news.toArray ++ Builtin.zeroCells zv.cells (nc - (sLen + ys.length)) := ⟨_, rfl⟩
  have hfl : RepL w E (xs ++ ys).flatten (olds ++ news) := by rw [List.flatten_append]; exact ho2.append hn2
  have hlen : (olds ++ news).length = (sLen + ys.length) * inf.size := by
    rw [← hfl.1, (flatten_get hn (rows := xs ++ ys) (fun row hr => by rcases List.mem_append.1 hr with h | h; exact hxr row h; exact hyr row h)).1]
    simp [hxl]
  have hzsz : zv.cells.size = inf.size := by rw [← hzl, hzc.1]; simp
  have hasz : arr.size = nc * inf.size := by
    rw [harr]
    simp only [Array.size_append, List.size_toArray, size_zeroCells, hzsz]
    have : olds.length + news.length = (sLen + ys.length) * inf.size := by simpa using hlen
    rw [this, ← Nat.add_mul]
    congr 1; omega
  have hrows : RowsIn w E arr 0 inf.size (xs ++ ys) := by
    refine RowsIn.of_cells (fun row hr => by rcases List.mem_append.1 hr with h | h; exact hxr row h; exact hyr row h) (fun row hr => by rcases List.mem_append.1 hr with h | h; exact hxs row h; exact hys row h) hfl 0 ?_ (fun i v hv => ?_)
    · rw [hasz, hlen]; simp; exact Nat.mul_le_mul_right _ hge
    · have hlt := (List.getElem?_eq_some_iff.1 hv).1
      rw [harr, Nat.zero_add, Array.getElem?_append_left (by simpa using hlt)]
      simpa using hv
  obtain ⟨g1, g2⟩ := new_block (w := { w with drawn := w.drawn + 1 }) hd2' hid (.cells arr el) (.rows inf.size (xs ++ ys)) (fun w' E' hx hfix ho hn =>
    .inr ⟨w.heap.size, 0, arr, el, ho, hh.bs, fun off hf => by have := hh.fixlt _ _ (hfix _ _ hf); omega, hn, (hrows.mono hd1.ext).mono hx⟩)
  refine ⟨.slice (some ⟨w.heap.size, 0, none⟩) (sLen + ys.length) nc, _, _, ?_, hd1.trans g1, g2, ?_⟩
  · have hz0 : (match d2 with | .int _ => true | _ => false) = false := by cases d2 <;> simp at hd2 ⊢
    simp only [Builtin.append_, Sem.run_bind, List.getElem?_toArray, List.getElem?_cons_zero, List.getElem?_cons_succ, Option.some.injEq, run_underlying hu, Result.andThen_ok, sizeOf, typeInfo, run_program, hi, Sem.run_pure,
      run_underlying hu2, hz0, Bool.false_eq_true, if_false, hn0, hroom, hni, hnb, run_choose, Question.forced, ← hnc, run_askRoom, ho, Bool.not_false, if_true, hn1, hzr', newRow, run_newObj, ← harr]
    rfl
  · have := Rep.os (w := World.alloc { w with drawn := w.drawn + 1 } (.cells arr el)) (E := E.set id (.at w.heap.size 0)) id inf.size 0 (sLen + ys.length) w.heap.size 0 nc (by simp [Env.set]) hge ⟨arr, el, heap_alloc_new { w with drawn := w.drawn + 1 } _, by rw [hasz]; simp⟩
    simpa using this


theorem rowsOf_draw (hh : HeapOk base w E ah F) {n : Nat} (hn : 0 < n) {y : AV} {vy : Value} {k : List (List AV) → List Nat → Prop} (h : rowsOf ah n y k) (hy : Rep w E y vy) :
    ∃ ys rd news, k ys rd ∧ (Builtin.lenOf vy).run P w = .ok ys.length w ∧ (Builtin.firstCells n ys.length vy).run P w = .ok news.toArray w ∧
      (∀ m, (Builtin.firstCells n ys.length vy).run P { w with drawn := m } = .ok news.toArray { w with drawn := m }) ∧ RepL w E ys.flatten news ∧
      (∀ row ∈ ys, row.length = n) ∧ (∀ row ∈ ys, ∀ x ∈ row, x.scal = true) := by
  obtain ⟨ys, rd, news, h1, h2, h3, h4, h5, h6⟩ := rowsOf_run (P := P) hh hn h hy
  refine ⟨ys, rd, news, h1, h2, h3, fun m => ?_, h4, h5, h6⟩
  have hl : news.length = ys.length * n := by rw [← h4.1, (flatten_get hn h5).1]
  cases vy with
  | slice a len cap =>
    cases a with
    | none => simp [Builtin.firstCells] at h3 ⊢; exact h3
    | some a =>
      simp only [Builtin.firstCells] at h3 ⊢
      have key : ∀ (k i : Nat) (acc res : Array Value), (loadCellsFrom a i k acc).run P w = .ok res w → (loadCellsFrom a i k acc).run P { w with drawn := m } = .ok res { w with drawn := m } := by
        intro k
        induction k with
        | zero => intro i acc res h; simp [loadCellsFrom] at h ⊢; exact h
        | succ k ih =>
          intro i acc res h
          simp only [loadCellsFrom, Sem.run_bind, run_load] at h ⊢
          have e : ({ w with drawn := m } : World).cell? (a.add i) = w.cell? (a.add i) := rfl
          rw [e]
          cases hc : w.cell? (a.add i) with
          | some v => rw [hc] at h; exact ih _ _ _ h
          | none =>
            rw [hc] at h
            dsimp only at h ⊢
            have ef : World.farLoad P { w with drawn := m } (a.add i) (Mode.plain == Mode.atomic) = World.farLoad P w (a.add i) (Mode.plain == Mode.atomic) := rfl
            rw [ef]
            cases hf : World.farLoad P w (a.add i) (Mode.plain == Mode.atomic) with
            | ok r => rw [hf] at h; exact ih _ _ _ h
            | error e => rw [hf] at h; cases h
      exact key _ _ _ _ h3
  | string s => simp [Builtin.firstCells] at h3 ⊢; exact h3
  | _ => simp [Builtin.lenOf] at h2

theorem append_room {t ty t2 el : TypeId} {d2 : TypeDesc} {inf : TypeInfo} (hu : P.underlying t = some (.slice el)) (hi : P.info? el = some inf)
    (hu2 : P.underlying t2 = some d2) (hd2 : ∀ k, d2 ≠ .int k) {a : Option Addr} {sLen sCap m : Nat} {vy : Value} {news : List Value}
    (hn0 : (Builtin.lenOf vy).run P w = .ok m w) (hn1 : (Builtin.firstCells inf.size m vy).run P w = .ok news.toArray w) (hroom : sLen + m ≤ sCap) {w' : World}
    (hst : ∀ b, a = some b → (storeCells (b.add (sLen * inf.size)) news 0).run P w = .ok () w') (hno : a = none → w' = w) :
    (Builtin.append_ #[t, t2] ty #[.slice a sLen sCap, vy]).run P w = .ok (.slice a (sLen + m) sCap) w' := by
  have hz0 : (match d2 with | .int _ => true | _ => false) = false := by cases d2 <;> simp at hd2 ⊢
  cases a with
  | none =>
    obtain rfl := hno rfl
    simp only [Builtin.append_, Sem.run_bind, List.getElem?_toArray, List.getElem?_cons_zero, List.getElem?_cons_succ, run_underlying hu, Result.andThen_ok, sizeOf, typeInfo, run_program, hi, Sem.run_pure,
      run_underlying hu2, hz0, Bool.false_eq_true, if_false, hn0, hroom, if_true, Bool.not_false, hn1]
  | some b =>
    have := hst b rfl
    simp only [Builtin.append_, Sem.run_bind, List.getElem?_toArray, List.getElem?_cons_zero, List.getElem?_cons_succ, run_underlying hu, Result.andThen_ok, sizeOf, typeInfo, run_program, hi, Sem.run_pure,
      run_underlying hu2, hz0, Bool.false_eq_true, if_false, hn0, hroom, if_true, Bool.not_false, hn1, this]

theorem upd_upd (ah : AH) (b : Nat) (x y : Option Blk) : upd (upd ah b x) b y = upd ah b y := by
  funext j; unfold upd; split <;> rfl

set_option maxHeartbeats 1000000 in
theorem aAppend_wr (hh : HeapOk base w E ah F) (hid : F id) {t t2 ty : TypeId} {x y : AV} {vx vy : Value} (h : aAppend P id ah t t2 x y K) (hx : Rep w E x vx) (hy : Rep w E y vy) :
    WrOk P base w E ah F id (Builtin.append_ #[t, t2] ty #[vx, vy]) K := by
  obtain ⟨e, he, hby, hn0, hd2, hz, h⟩ := withO_iff.1 h
  obtain ⟨el, inf, hu, hi, rfl⟩ := slElem_run he
  dsimp only at hby hn0 hz h
  have hn : 0 < inf.size := by omega
  obtain ⟨d2, hu2, hd2⟩ : ∃ d2, P.underlying t2 = some d2 ∧ ∀ k, d2 ≠ .int k := by
    cases e : P.underlying t2 with
    | none => rw [e] at hd2; exact hd2.elim
    | some d2 => rw [e] at hd2; exact ⟨d2, rfl, fun k hk => by subst hk; exact hd2⟩
  rw [hu] at hz
  obtain ⟨z, hz, hzl⟩ := Option.map_eq_some_iff.1 hz
  dsimp only [Option.bind_some] at hz
  obtain ⟨ys, rd, news, h, hl, hf, hfd, hr2, hyr, hys⟩ := rowsOf_draw (P := P) hh hn h hy
  cases x with
  | sl rows full =>
    obtain ⟨hro, hfu, hne, hmax, hK⟩ := h
    subst hfu
    have hxr : rowsOf ah inf.size (.sl rows true) (fun xs rd => xs = rows) := ⟨hro, rfl⟩
    obtain ⟨xs, -, olds, rfl, gl, gf, gfd, gr, gxr, gxs⟩ := rowsOf_draw (P := P) hh hn hxr hx
    by_cases hy0 : ys = []
    · have hx0 : xs = [] := by rcases hne with h | h; exact h; exact absurd hy0 h
      subst hx0
      subst hy0
      obtain ⟨h1, h2⟩ := new_empty hh hid inf.size
      have hnews : news = [] := by have := hr2.1; simp at this; exact List.eq_nil_of_length_eq_zero this.symm
      subst hnews
      have goal : ∀ a cap, (Builtin.append_ #[t, t2] ty #[.slice a 0 cap, vy]).run P w = .ok (.slice a 0 cap) w := fun a cap =>
        append_room (P := P) (m := 0) (sLen := 0) hu hi hu2 hd2 hl hf (by omega) (fun b _ => by simp [storeCells]) (fun _ => rfl)
      cases hx with
      | slnil _ a => exact ⟨_, .slice a 0 0, w, _, hK, goal _ _, h1, h2, .osnil id _ _ _ (by simp [Env.set])⟩
      | sl _ _ sz c o cap g hcap hfull =>
        have : cap = 0 := hfull rfl
        subst this
        exact ⟨_, .slice (some ⟨c, o, none⟩) 0 0, w, _, hK, goal _ _, h1, h2, .osnil id _ _ _ (by simp [Env.set])⟩
    · have hpos : 0 < ys.length := by cases ys with | nil => exact absurd rfl hy0 | cons a l => simp
      obtain ⟨a, cap, rfl, hcap⟩ : ∃ a cap, vx = .slice a xs.length cap ∧ cap = xs.length := by
        cases hx with
        | slnil _ a => exact ⟨a, 0, rfl, rfl⟩
        | sl _ _ sz c o cap g hcap hfull => exact ⟨_, cap, rfl, hfull rfl⟩
      obtain ⟨v, w', E', h1, h2, h3, h4⟩ := append_grow (P := P) (ty := ty) hh hid hu hi hu2 hd2 hz hzl hn hby (xs := xs) (a := a) (sLen := xs.length) (olds := olds) rfl
        (fun n => gfd n) gr gxr gxs hl hfd hr2 hyr hys (sCap := cap) (by omega) hmax
      exact ⟨_, v, w', E', hK, h1, h2, h3, h4⟩
  | os b sz off len =>
    obtain ⟨rfl, h⟩ := h
    split at h
    · rename_i sz' rs hab
      obtain ⟨rfl, hle, hmax, hK⟩ := h
      have hlen : ((rs.drop off).take len).length = len := by simp; omega
      have hxr : rowsOf ah inf.size (.os b inf.size off len) (fun xs rd => xs = (rs.drop off).take len) := ⟨rfl, by rw [hab]; exact ⟨rfl, hle, rfl⟩⟩
      obtain ⟨xs, -, olds, hxs, gl, gf, gfd, gr, gxr, gxs⟩ := rowsOf_draw (P := P) hh hn hxr hx
      rw [← hxs] at hK hlen
      have hne : b ≠ id := fun e => by have := hh.nofresh hid; rw [← e, hab] at this; cases this
      cases hx with
      | osnil _ _ _ a hb =>
        have hx0 : xs = [] := by rw [hxs]; simp
        subst hx0
        by_cases hy0 : ys = []
        · subst hy0
          have hnews : news = [] := by have := hr2.1; simp at this; exact List.eq_nil_of_length_eq_zero this.symm
          subst hnews
          obtain ⟨h1, h2⟩ := new_empty (hh.drop b) hid inf.size
          exact ⟨_, .slice a 0 0, w, _, hK, append_room (P := P) (m := 0) (sLen := 0) hu hi hu2 hd2 hl hf (by omega) (fun b _ => by simp [storeCells]) (fun _ => rfl), h1, h2, .osnil id _ _ _ (by simp [Env.set])⟩
        · have hpos : 0 < ys.length := by cases ys with | nil => exact absurd rfl hy0 | cons a l => simp
          obtain ⟨v, w', E', h1, h2, h3, h4⟩ := append_grow (P := P) (ty := ty) (hh.drop b) hid hu hi hu2 hd2 hz hzl hn hby (xs := ([] : List (List AV))) (a := a) (sLen := 0) rfl
            (fun n => by simpa using gfd n) gr gxr gxs hl hfd hr2 hyr hys (sCap := 0) (by omega) (by simpa using hmax)
          exact ⟨_, v, w', E', hK, h1, h2, h3, h4⟩
      | os _ _ _ _ c o cap hb hcap hsize =>
        by_cases hroom : len + ys.length ≤ cap
        · obtain ⟨arr, tt, hc, hfit⟩ := hsize
          rcases hh.blk b _ hab with ⟨h0, -⟩ | ⟨c', o', arr', tt', h1, h2, h3, h4, h5⟩
          · rw [hb] at h0; cases h0
          · rw [hb] at h1
            cases h1
            rw [hc] at h4
            cases h4
            have hnl : news.length = ys.length * inf.size := by rw [← hr2.1, (flatten_get hn hyr).1]
            have hm1 : (off + (len + ys.length)) * inf.size ≤ (off + cap) * inf.size := Nat.mul_le_mul_right _ (by omega)
            have hfit' : o + off * inf.size + len * inf.size + news.length ≤ arr.size := by
              rw [Nat.add_mul, Nat.add_mul] at hm1
              rw [hnl]; omega
            have hone : ∀ u ∈ news, u.oneCell' = true := fun u hu => by
              obtain ⟨j, hj⟩ := List.mem_iff_getElem?.1 hu
              have hlt := (List.getElem?_eq_some_iff.1 hj).1
              rw [← hr2.1] at hlt
              have hmem : ys.flatten[j] ∈ ys.flatten := by simp
              obtain ⟨row, hrow, hxin⟩ := List.mem_flatten.1 hmem
              exact (hr2.2 j ys.flatten[j] u (by simp [hlt]) hj).one (hys row hrow _ hxin)
            have hst := run_storeCells_at P c (o + off * inf.size + len * inf.size) tt news 0 arr w hc (by simpa using hfit') hone
            simp only [Nat.add_zero] at hst
            obtain ⟨arr2, harr⟩ : ∃ arr2, arr2 = (arr.toList.take (o + off * inf.size + len * inf.size) ++ news ++ arr.toList.drop (o + off * inf.size + len * inf.size + news.length)).toArray := ⟨_, rfl⟩
            rw [← harr] at hst
            have hsz : arr2.size = arr.size := by rw [harr]; simp; omega
            have hget := arr_lay hfit'
            rw [← harr] at hget
            have hrows1 : RowsIn w E arr2 o inf.size (rs.take (off + len)) := by
              have hm2 : (off + len) * inf.size ≤ rs.length * inf.size := Nat.mul_le_mul_right _ hle
              refine ⟨?_, fun i row hr => ?_, fun row hr => h5.2.2.1 row (List.mem_of_mem_take hr), fun i row j x hr hj => ?_⟩
              · rw [hsz]; simp only [List.length_take]; rw [Nat.min_eq_left hle]; have := h5.1; omega
              · rw [List.getElem?_take] at hr
                split at hr
                · exact h5.2.1 i row hr
                · cases hr
              · rw [List.getElem?_take] at hr
                split at hr
                · rename_i hlt
                  obtain ⟨v, hv, hx⟩ := h5.2.2.2 i row j x hr hj
                  refine ⟨v, ?_, hx⟩
                  have hjl := (List.getElem?_eq_some_iff.1 hj).1
                  rw [h5.2.1 i row hr] at hjl
                  have hm3 : (i + 1) * inf.size ≤ (off + len) * inf.size := Nat.mul_le_mul_right _ (by omega)
                  rw [Nat.add_mul, Nat.add_mul] at hm3
                  rw [hget, if_neg (by omega)]
                  exact hv
                · cases hr
            have hB := setRow_block hh hab hb hc hsz hrows1
            have hS := setRow_ext hh hab hb hc hsz
            have hrows2 : RowsIn (w.setRow c arr2) E arr2 (o + off * inf.size) inf.size (xs ++ ys) := by
              refine RowsIn.mono ?_ hS.ext
              refine RowsIn.of_cells (fun row hr => by rcases List.mem_append.1 hr with h | h; exact gxr row h; exact hyr row h) (fun row hr => by rcases List.mem_append.1 hr with h | h; exact gxs row h; exact hys row h)
                (vs := olds ++ news) (by rw [List.flatten_append]; exact gr.append hr2) (o + off * inf.size) ?_ (fun i v hv => ?_)
              · have hol : olds.length = len * inf.size := by rw [← gr.1, (flatten_get hn gxr).1, hlen]
                rw [hsz]; simp only [List.length_append, hol]; omega
              · have hol : olds.length = len * inf.size := by rw [← gr.1, (flatten_get hn gxr).1, hlen]
                rw [List.getElem?_append] at hv
                rw [hget]
                split at hv
                · rename_i hlt
                  rw [if_neg (by omega)]
                  have hld : (loadCells ⟨c, o + off * inf.size, none⟩ (xs.length * inf.size)).run P w = .ok olds.toArray w := gf
                  rw [hlen] at hld
                  have hrl := run_loadCells (P := P) w ⟨c, o + off * inf.size, none⟩ (len * inf.size) (fun j => arr.getD (o + off * inf.size + j) undef) (fun j hj => by
                    rw [Addr.add_lit, cell_of_row w c _ arr tt _ hc]
                    have : o + off * inf.size + j < arr.size := by rw [Nat.add_mul, Nat.add_mul] at hm1; omega
                    simp [this])
                  rw [hrl] at hld
                  have ee : olds = (List.range (len * inf.size)).map fun j => arr.getD (o + off * inf.size + j) undef := by
                    injection hld with e1 e2
                    exact (List.toArray_inj e1).symm
                  rw [ee] at hv hlt
                  have hlt' : i < len * inf.size := by simpa using hlt
                  have hin : o + off * inf.size + i < arr.size := by rw [Nat.add_mul, Nat.add_mul] at hm1; omega
                  rw [List.getElem?_map, List.getElem?_range hlt'] at hv
                  simp [hin] at hv ⊢
                  exact hv
                · rename_i hge
                  have hlt := (List.getElem?_eq_some_iff.1 hv).1
                  rw [if_pos (by omega)]
                  rw [← hv, hol]
                  congr 1
                  omega
            have hc' : (w.setRow c arr2).heap[c]? = some (.cells arr2 tt (0, 0)) := setRow_heap w c arr arr2 tt _ hc
            obtain ⟨k1, k2⟩ := HeapOk.rename hB (b := b) (upd_eq rfl) hb hid hc' hrows2
            rw [upd_upd] at k2
            refine ⟨_, .slice (some ⟨c, o + off * inf.size, none⟩) (len + ys.length) cap, w.setRow c arr2, _, hK, ?_, hS.trans k1, k2, ?_⟩
            · exact append_room (P := P) hu hi hu2 hd2 hl hf hroom (fun b hb => by cases hb; rw [Addr.add_lit]; exact hst) (fun h => by cases h)
            · have := Rep.os (w := w.setRow c arr2) (E := E.set id (.at c (o + off * inf.size))) id inf.size 0 (len + ys.length) c (o + off * inf.size) cap (by simp [Env.set]) hroom ⟨arr2, tt, hc', by rw [hsz]; rw [Nat.add_mul] at hfit; simp; omega⟩
              simpa using this
        · obtain ⟨v, w', E', h1, h2, h3, h4⟩ := append_grow (P := P) (ty := ty) (hh.drop b) hid hu hi hu2 hd2 hz hzl hn hby (xs := xs) (a := some ⟨c, o + off * inf.size, none⟩) (sLen := len) (olds := olds) hlen
            (fun n => by have := gfd n; rw [hlen] at this; exact this) gr gxr gxs hl hfd hr2 hyr hys (sCap := cap) hroom hmax
          exact ⟨_, v, w', E', hK, h1, h2, h3, h4⟩
    · exact h.elim
  | _ => exact h.elim

end
end Go.Fw
end

section
namespace Go.Fw
set_option linter.unusedSimpArgs false
set_option linter.unusedVariables false
section
variable {P : Program} {base : Nat} {w w' : World} {E E' : Env} {ah : AH} {F : Nat → Prop} {K : Res → Prop} {id : Nat}

theorem frzL_spec : ∀ {l l' : List AV}, frzL ah l = some l' → l'.length = l.length ∧ ∀ (i : Nat) (x' : AV), l'[i]? = some x' → ∃ x, l[i]? = some x ∧ frz ah x = some x'
  | [], l', h => by simp [frzL] at h; subst h; exact ⟨rfl, fun i x h => by simp at h⟩
  | a :: r, l', h => by
    simp only [frzL, Option.bind_eq_some_iff, Option.map_eq_some_iff] at h
    obtain ⟨x, hx, y, hy, rfl⟩ := h
    obtain ⟨h1, h2⟩ := frzL_spec hy
    refine ⟨by simp [h1], fun i x' hi => ?_⟩
    cases i with
    | zero => simp at hi; subst hi; exact ⟨a, rfl, hx⟩
    | succ i => simp at hi; simpa using h2 i x' hi
theorem frzLL_spec : ∀ {l l' : List (List AV)}, frzLL ah l = some l' → l'.length = l.length ∧ ∀ (i : Nat) (x' : List AV), l'[i]? = some x' → ∃ x, l[i]? = some x ∧ frzL ah x = some x'
  | [], l', h => by simp [frzLL] at h; subst h; exact ⟨rfl, fun i x h => by simp at h⟩
  | a :: r, l', h => by
    simp only [frzLL, Option.bind_eq_some_iff, Option.map_eq_some_iff] at h
    obtain ⟨x, hx, y, hy, rfl⟩ := h
    obtain ⟨h1, h2⟩ := frzLL_spec hy
    refine ⟨by simp [h1], fun i x' hi => ?_⟩
    cases i with
    | zero => simp at hi; subst hi; exact ⟨a, rfl, hx⟩
    | succ i => simp at hi; simpa using h2 i x' hi

theorem frz_scal {a a' : AV} (h : frz ah a = some a') (hs : a.scal = true) : a'.scal = true := by
  cases a with
  | p v => simp [frz] at h; subst h; exact hs
  | str s => simp [frz] at h; subst h; rfl
  | agg cs => simp [AV.scal] at hs
  | tup cs => simp [AV.scal] at hs
  | sl rows full => simp only [frz, Option.map_eq_some_iff] at h; obtain ⟨r, -, rfl⟩ := h; rfl
  | vp row off => simp only [frz, Option.map_eq_some_iff] at h; obtain ⟨r, -, rfl⟩ := h; rfl
  | os b sz off len =>
    simp only [frz] at h
    split at h
    · split at h
      · cases h; rfl
      · cases h
    · cases h
  | op b sz i off =>
    simp only [frz] at h
    split at h
    · split at h
      · simp only [Option.map_eq_some_iff] at h; obtain ⟨r, -, rfl⟩ := h; rfl
      · cases h
    · cases h
  | fn f x y => simp only [frz, Option.bind_eq_some_iff, Option.map_eq_some_iff] at h; obtain ⟨r, -, s, -, rfl⟩ := h; rfl
  | ifc t v => simp only [frz, Option.map_eq_some_iff] at h; obtain ⟨r, -, rfl⟩ := h; rfl
  | mp b => simp [frz] at h

theorem mem_get {α : Type} {l : List α} {x : α} (h : x ∈ l) : ∃ i : Nat, l[i]? = some x := List.mem_iff_getElem?.1 h

theorem cleanL_get : ∀ {l : List AV}, cleanL l = true → ∀ (i : Nat) (x : AV), l[i]? = some x → x.clean = true
  | [], _, i, x, h => by simp at h
  | a :: r, hc, i, x, h => by
    simp only [cleanL, Bool.and_eq_true] at hc
    cases i with
    | zero => simp at h; subst h; exact hc.1
    | succ i => simp at h; exact cleanL_get hc.2 i x h
theorem cleanLL_get : ∀ {l : List (List AV)}, cleanLL l = true → ∀ (i : Nat) (x : List AV), l[i]? = some x → cleanL x = true
  | [], _, i, x, h => by simp at h
  | a :: r, hc, i, x, h => by
    simp only [cleanLL, Bool.and_eq_true] at hc
    cases i with
    | zero => simp at h; subst h; exact hc.1
    | succ i => simp at h; exact cleanLL_get hc.2 i x h
theorem refsL_get : ∀ {l : List AV} {b : Nat} (i : Nat) (x : AV), l[i]? = some x → b ∈ x.refs → b ∈ refsL l
  | [], b, i, x, h, _ => by simp at h
  | a :: r, b, i, x, h, hb => by
    simp only [refsL, List.mem_append]
    cases i with
    | zero => simp at h; subst h; exact .inl hb
    | succ i => simp at h; exact .inr (refsL_get i x h hb)
theorem refsLL_get : ∀ {l : List (List AV)} {b : Nat} (i : Nat) (x : List AV), l[i]? = some x → b ∈ refsL x → b ∈ refsLL l
  | [], b, i, x, h, _ => by simp at h
  | a :: r, b, i, x, h, hb => by
    simp only [refsLL, List.mem_append]
    cases i with
    | zero => simp at h; subst h; exact .inl hb
    | succ i => simp at h; exact .inr (refsLL_get i x h hb)

theorem clean_rep {fix : Nat → Nat → Prop} (hf : ∀ c o, E.fix c o → fix c o) {a v} (h : Rep w E a v) (hc : a.clean = true) : Rep w (freeEnv fix) a v := by
  induction h with
  | p h => exact .p h
  | str s l h => exact .str s l h
  | agg cs vs hl hs _ ih => exact .agg cs vs hl hs (fun i c v h1 h2 => ih i c v h1 h2 (cleanL_get hc i c h1))
  | tup cs vs hl _ ih => exact .tup cs vs hl (fun i c v h1 h2 => ih i c v h1 h2 (cleanL_get hc i c h1))
  | slnil full a => exact .slnil full a
  | sl rows full sz c o cap g hcap hfull hsz hfix hcell hscal _ ih =>
    exact .sl rows full sz c o cap g hcap hfull hsz (fun i row j x h1 h2 => hf _ _ (hfix i row j x h1 h2)) hcell hscal
      (fun i row j x h1 h2 => ih i row j x h1 h2 (cleanL_get (cleanLL_get hc i row h1) j x h2))
  | vp row off c o g hfix hcell hscal _ ih =>
    exact .vp row off c o g (fun j x h => hf _ _ (hfix j x h)) hcell hscal (fun j x h => ih j x h (cleanL_get hc j x h))
  | osnil => simp [AV.clean] at hc
  | os => simp [AV.clean] at hc
  | op => simp [AV.clean] at hc
  | fn f first captured vs us hl hl' _ _ ih ih' =>
    simp only [AV.clean, Bool.and_eq_true] at hc
    exact .fn f first captured vs us hl hl' (fun i c v h1 h2 => ih i c v h1 h2 (cleanL_get hc.1 i c h1)) (fun i c v h1 h2 => ih' i c v h1 h2 (cleanL_get hc.2 i c h1))
  | ifc t a v _ ih => exact .ifc t a v (ih hc)
  | mp => simp [AV.clean] at hc

theorem frz_rep (hh : HeapOk base w E ah F) {fix : Nat → Nat → Prop} (hf : ∀ c o, E.fix c o → fix c o) {a v} (h : Rep w E a v) :
    ∀ {a'}, frz ah a = some a' → (∀ b ∈ a.refs, ∀ c o, E.own b = .at c o → ∀ off, fix c off) → Rep w (freeEnv fix) a' v := by
  induction h with
  | p h => intro a' e _; simp [frz] at e; subst e; exact .p h
  | str s l h => intro a' e _; simp [frz] at e; subst e; exact .str s l h
  | agg cs vs hl hs _ ih =>
    intro a' e hr
    simp only [frz, Option.map_eq_some_iff] at e
    obtain ⟨cs', hcs, rfl⟩ := e
    obtain ⟨h1, h2⟩ := frzL_spec hcs
    refine .agg cs' vs (by rw [h1, hl]) (fun c hc => ?_) (fun i c v hc hv => ?_)
    · obtain ⟨i, hi⟩ := mem_get hc
      obtain ⟨x, hx, hfx⟩ := h2 i c hi
      exact frz_scal hfx (hs x (List.mem_of_getElem? hx))
    · obtain ⟨x, hx, hfx⟩ := h2 i c hc
      exact ih i x v hx hv hfx (fun b hb => hr b (refsL_get i x hx hb))
  | tup cs vs hl _ ih =>
    intro a' e hr
    simp only [frz, Option.map_eq_some_iff] at e
    obtain ⟨cs', hcs, rfl⟩ := e
    obtain ⟨h1, h2⟩ := frzL_spec hcs
    refine .tup cs' vs (by rw [h1, hl]) (fun i c v hc hv => ?_)
    obtain ⟨x, hx, hfx⟩ := h2 i c hc
    exact ih i x v hx hv hfx (fun b hb => hr b (refsL_get i x hx hb))
  | slnil full a => intro a' e _; simp [frz, frzLL] at e; subst e; exact .slnil _ _
  | sl rows full sz c o cap g hcap hfull hsz hfix hcell hscal _ ih =>
    intro a' e hr
    simp only [frz, Option.map_eq_some_iff] at e
    obtain ⟨rows', hrows, rfl⟩ := e
    obtain ⟨h1, h2⟩ := frzLL_spec hrows
    have key : ∀ (i : Nat) (row' : List AV) (j : Nat) (x' : AV), rows'[i]? = some row' → row'[j]? = some x' → ∃ row x, rows[i]? = some row ∧ row[j]? = some x ∧ frz ah x = some x' := fun i row' j x' hi hj => by
      obtain ⟨row, hrow, hfr⟩ := h2 i row' hi
      obtain ⟨x, hx, hfx⟩ := (frzL_spec hfr).2 j x' hj
      exact ⟨row, x, hrow, hx, hfx⟩
    have := Rep.sl (w := w) (E := freeEnv fix) rows' false sz c o cap g (by rw [h1]; exact hcap) (fun h => by cases h) (fun i row' hi => by
        obtain ⟨row, hrow, hfr⟩ := h2 i row' hi
        rw [(frzL_spec hfr).1]; exact hsz i row hrow)
      (fun i row' j x' hi hj => by obtain ⟨row, x, q1, q2, -⟩ := key i row' j x' hi hj; exact hf _ _ (hfix i row j x q1 q2))
      (fun i row' j x' hi hj => by obtain ⟨row, x, q1, q2, -⟩ := key i row' j x' hi hj; exact hcell i row j x q1 q2)
      (fun row' hm x' hx => by
        obtain ⟨i, hi⟩ := mem_get hm
        obtain ⟨j, hj⟩ := mem_get hx
        obtain ⟨row, x, q1, q2, q3⟩ := key i row' j x' hi hj
        exact frz_scal q3 (hscal row (List.mem_of_getElem? q1) x (List.mem_of_getElem? q2)))
      (fun i row' j x' hi hj => by
        obtain ⟨row, x, q1, q2, q3⟩ := key i row' j x' hi hj
        exact ih i row j x q1 q2 q3 (fun b hb => hr b (refsLL_get i row q1 (refsL_get j x q2 hb))))
    rw [h1] at this
    exact this
  | vp row off c o g hfix hcell hscal _ ih =>
    intro a' e hr
    simp only [frz, Option.map_eq_some_iff] at e
    obtain ⟨row', hrow, rfl⟩ := e
    obtain ⟨h1, h2⟩ := frzL_spec hrow
    exact .vp row' off c o g (fun j x' hj => by obtain ⟨x, q, -⟩ := h2 j x' hj; exact hf _ _ (hfix j x q)) (fun j x' hj => by obtain ⟨x, q, -⟩ := h2 j x' hj; exact hcell j x q)
      (fun x' hx => by obtain ⟨j, hj⟩ := mem_get hx; obtain ⟨x, q, q2⟩ := h2 j x' hj; exact frz_scal q2 (hscal x (List.mem_of_getElem? q)))
      (fun j x' hj => by obtain ⟨x, q, q2⟩ := h2 j x' hj; exact ih j x q q2 (fun b hb => hr b (refsL_get j x q hb)))
  | osnil b sz off a hb =>
    intro a' e hr
    simp only [frz] at e
    split at e
    · split at e
      · cases e
        simp; exact .slnil _ _
      · cases e
    · cases e
  | os b sz off len c o cap hb hcap hsize =>
    intro a' e hr
    simp only [frz] at e
    split at e
    · rename_i sz' rs hab
      split at e
      · rename_i hcond
        obtain ⟨rfl, hle, hcl⟩ := hcond
        cases e
        rcases hh.blk b _ hab with ⟨h0, -⟩ | ⟨c', o', arr, tt, h1, h2, h3, h4, h5⟩
        · rw [hb] at h0; cases h0
        · rw [hb] at h1
          cases h1
          have hget : ∀ (i : Nat) (row : List AV), ((rs.drop off).take len)[i]? = some row → rs[off + i]? = some row := fun i row hr => by
            rw [List.getElem?_take] at hr
            split at hr
            · simpa using hr
            · cases hr
          have hlen : ((rs.drop off).take len).length = len := by simp; omega
          have hoff : ∀ i j : Nat, o + off * sz + i * sz + j = o + (off + i) * sz + j := fun i j => by rw [Nat.add_mul]; omega
          have := Rep.sl (w := w) (E := freeEnv fix) ((rs.drop off).take len) false sz c (o + off * sz) cap (fun i j => arr.getD (o + (off + i) * sz + j) undef) (by rw [hlen]; exact hcap) (fun h => by cases h)
            (fun i row hi => h5.2.1 _ row (hget i row hi)) (fun i row j x hi hj => hr b (by simp [AV.refs]) c o hb _)
            (fun i row j x hi hj => by
              obtain ⟨v, hv, -⟩ := h5.2.2.2 _ row j x (hget i row hi) hj
              rw [hoff, cell_of_row w c _ arr tt _ h4, hv]
              simp [hv])
            (fun row hm x hx => h5.2.2.1 row (List.mem_of_mem_drop (List.mem_of_mem_take hm)) x hx)
            (fun i row j x hi hj => by
              obtain ⟨v, hv, hx⟩ := h5.2.2.2 _ row j x (hget i row hi) hj
              have : arr.getD (o + (off + i) * sz + j) undef = v := by simp [hv]
              rw [this]
              exact clean_rep hf hx (cleanL_get (cleanLL_get hcl _ row (hget i row hi)) j x hj))
          rw [hlen] at this
          exact this
      · cases e
    · cases e
  | op b sz row off c o hb =>
    intro a' e hr
    simp only [frz] at e
    split at e
    · rename_i sz' rs hab
      split at e
      · rename_i hcond
        obtain ⟨rfl, hcl⟩ := hcond
        simp only [Option.map_eq_some_iff] at e
        obtain ⟨rw_, hrow, rfl⟩ := e
        obtain ⟨g, arr, tt, -, -, -, hl, hscal, hcell, hrep⟩ := hh.row hab hrow hb
        exact .vp rw_ off c (o + row * sz) g (fun j x h => hr b (by simp [AV.refs]) c o hb _) hcell hscal
          (fun j x hj => clean_rep hf (hrep j x hj) (cleanL_get (cleanLL_get hcl _ rw_ hrow) j x hj))
      · cases e
    · cases e
  | fn f first captured vs us hl hl' _ _ ih ih' =>
    intro a' e hr
    simp only [frz, Option.bind_eq_some_iff, Option.map_eq_some_iff] at e
    obtain ⟨x, hx, y, hy, rfl⟩ := e
    obtain ⟨h1, h2⟩ := frzL_spec hx
    obtain ⟨h3, h4⟩ := frzL_spec hy
    refine .fn f x y vs us (by rw [h1, hl]) (by rw [h3, hl']) (fun i c v hc hv => ?_) (fun i c v hc hv => ?_)
    · obtain ⟨z, hz, hfz⟩ := h2 i c hc
      exact ih i z v hz hv hfz (fun b hb => hr b (by simp only [AV.refs, List.mem_append]; exact .inl (refsL_get i z hz hb)))
    · obtain ⟨z, hz, hfz⟩ := h4 i c hc
      exact ih' i z v hz hv hfz (fun b hb => hr b (by simp only [AV.refs, List.mem_append]; exact .inr (refsL_get i z hz hb)))
  | ifc t a v _ ih =>
    intro a' e hr
    simp only [frz, Option.map_eq_some_iff] at e
    obtain ⟨x, hx, rfl⟩ := e
    exact .ifc t x v (ih hx hr)
  | mp b c hb => intro a' e hr; simp [frz] at e

end
end Go.Fw
end

section
namespace Go.Fw
set_option linter.unusedSimpArgs false
set_option linter.unusedVariables false
section
variable {P : Program} {base : Nat} {w w' : World} {E E' : Env} {ah : AH} {F : Nat → Prop} {K : Res → Prop} {id : Nat}

theorem flatL_get : ∀ {l : List AV}, flatL l = true → ∀ (i : Nat) (x : AV), l[i]? = some x → x.flat = true
  | [], _, i, x, h => by simp at h
  | a :: r, hc, i, x, h => by
    simp only [flatL, Bool.and_eq_true] at hc
    cases i with
    | zero => simp at h; subst h; exact hc.1
    | succ i => simp at h; exact flatL_get hc.2 i x h

theorem flat_rep {a v} (h : Rep w E a v) (hc : a.flat = true) : Rep w' E' a v := by
  induction h with
  | p h => exact .p h
  | str s l h => exact .str s l h
  | agg cs vs hl hs _ ih => exact .agg cs vs hl hs (fun i c v h1 h2 => ih i c v h1 h2 (flatL_get hc i c h1))
  | tup cs vs hl _ ih => exact .tup cs vs hl (fun i c v h1 h2 => ih i c v h1 h2 (flatL_get hc i c h1))
  | slnil full a => exact .slnil full a
  | sl rows full sz c o cap g hcap hfull hsz hfix hcell hscal _ ih =>
    have : rows = [] := by simpa [AV.flat] using hc
    subst this
    exact .sl [] full sz c o cap g hcap hfull hsz (fun i row j x h => by simp at h) (fun i row j x h => by simp at h) hscal (fun i row j x h => by simp at h)
  | ifc t a v _ ih => exact .ifc t a v (ih hc)
  | _ => simp [AV.flat] at hc

theorem free_rep {fix : Nat → Nat → Prop} (hf : ∀ c o, fix c o → E.fix c o) {a v} (h : Rep w (freeEnv fix) a v) : Rep w E a v := by
  generalize he : freeEnv fix = E0 at h
  induction h with
  | p h => exact .p h
  | str s l h => exact .str s l h
  | agg cs vs hl hs _ ih => exact .agg cs vs hl hs ih
  | tup cs vs hl _ ih => exact .tup cs vs hl ih
  | slnil full a => exact .slnil full a
  | sl rows full sz c o cap g hcap hfull hsz hfix hcell hscal _ ih =>
    subst he
    exact .sl rows full sz c o cap g hcap hfull hsz (fun i row j x h1 h2 => hf _ _ (hfix i row j x h1 h2)) hcell hscal ih
  | vp row off c o g hfix hcell hscal _ ih =>
    subst he
    exact .vp row off c o g (fun j x h => hf _ _ (hfix j x h)) hcell hscal ih
  | osnil b sz off a hb => subst he; exact absurd rfl hb
  | os b sz off len c o cap hb => subst he; cases hb
  | op b sz row off c o hb => subst he; cases hb
  | fn f first captured vs us hl hl' _ _ ih ih' => exact .fn f first captured vs us hl hl' ih ih'
  | ifc t a v _ ih => exact .ifc t a v ih
  | mp b c hb => subst he; cases hb

theorem cleanL_refs : ∀ {l : List AV}, cleanL l = true → ∀ x ∈ l, x.clean = true
  | l, h, x, hx => let ⟨i, hi⟩ := mem_get hx; cleanL_get h i x hi
 mutual
theorem clean_refs : ∀ {a : AV}, a.clean = true → a.refs = []
  | .p _, _ => rfl
  | .str _, _ => rfl
  | .agg cs, h => cleanL_norefs (l := cs) h
  | .tup cs, h => cleanL_norefs (l := cs) h
  | .sl rows _, h => cleanLL_norefs (l := rows) h
  | .vp row _, h => cleanL_norefs (l := row) h
  | .fn _ x y, h => by
    simp only [AV.clean, Bool.and_eq_true] at h
    simp only [AV.refs, cleanL_norefs h.1, cleanL_norefs h.2, List.append_nil]
  | .ifc _ v, h => clean_refs (a := v) h
  | .os .., h => by simp [AV.clean] at h
  | .op .., h => by simp [AV.clean] at h
  | .mp _, h => by simp [AV.clean] at h
theorem cleanL_norefs : ∀ {l : List AV}, cleanL l = true → refsL l = []
  | [], _ => rfl
  | a :: r, h => by
    simp only [cleanL, Bool.and_eq_true] at h
    simp only [refsL, clean_refs h.1, cleanL_norefs h.2, List.append_nil]
theorem cleanLL_norefs : ∀ {l : List (List AV)}, cleanLL l = true → refsLL l = []
  | [], _ => rfl
  | a :: r, h => by
    simp only [cleanLL, Bool.and_eq_true] at h
    simp only [refsLL, cleanL_norefs h.1, cleanLL_norefs h.2, List.append_nil]
end

theorem frzL_rep (hh : HeapOk base w E ah F) {fix : Nat → Nat → Prop} (hf : ∀ c o, E.fix c o → fix c o) {as as' : List AV} {vs : List Value} (h : RepL w E as vs) (hz : frzL ah as = some as')
    (hr : ∀ b ∈ refsL as, ∀ c o, E.own b = .at c o → ∀ off, fix c off) : RepL w (freeEnv fix) as' vs := by
  obtain ⟨h1, h2⟩ := frzL_spec hz
  refine ⟨by rw [h1, h.1], fun i a v ha hv => ?_⟩
  obtain ⟨x, hx, hfx⟩ := h2 i a ha
  exact frz_rep hh hf (h.2 i x v hx hv) hfx (fun b hb => hr b (refsL_get i x hx hb))

theorem upon_value {o : Oper} {a : Act} {next : Act → World → Prop} {Q : Exit → Act → World → Prop} {s : Sem Next} {v : Value} (he : execOp a.eval o = s) (hr : s.run P w = .ok (.value v) w')
    (h : next (a.put o.dst v) w') : o.wp P a w next Q := by
  unfold Oper.wp
  rw [he, hr]
  exact h

/-- a call that keeps nothing -/
theorem aCall_wp (hh : HeapOk base w E ah F) {f : FuncId} {args : List AV} {vs : List Value} (h : aCall P ah f args K) (ha : RepL w E args vs) {o : Oper} {a : Act}
    (he : execOp a.eval o = callFunc f vs.toArray) {next : Act → World → Prop} {Q : Exit → Act → World → Prop}
    (hn : ∀ r v w' E', K r → Step base w E w' E' → HeapOk base w' E' (upds ah r.wr) (fun b => F b ∧ b ≠ id) → Rep w' E' r.v v → next (a.put o.dst v) w') : o.wp P a w next Q := by
  obtain ⟨as, has, as', r, hwk, hpc, hcl, hK⟩ := withO_iff.1 h
  -- the fixed cells for the call
  obtain ⟨fix, hfix, hfixlt, hrep0, hback⟩ : ∃ fix : Nat → Nat → Prop, (∀ c o, E.fix c o → fix c o) ∧ (∀ c o, fix c o → c < w.heap.size) ∧ RepL w (freeEnv fix) as vs ∧
      (r.flat = true ∨ ∀ c o, fix c o → E.fix c o) := by
    rcases hcl with hcl | hcl
    · refine ⟨E.fix, fun _ _ h => h, hh.fixlt, frzL_rep hh (fun _ _ h => h) ha has (fun b hb => ?_), .inr (fun _ _ h => h)⟩
      rw [cleanL_norefs hcl] at hb; cases hb
    · exact ⟨fun c o => c < w.heap.size, hh.fixlt, fun c o h => h, frzL_rep hh hh.fixlt ha has (fun b hb c o h off => (hh.ownlt b c o h).2), .inl hcl⟩
  have hrep := hwk _ _ _ hrep0
  have hp := hpc w fix vs hfixlt hrep
  split at hp
  · exact hp.elim
  · rename_i fn hfn
    split at hp
    · obtain ⟨v, h1, h2⟩ := hp
      refine upon_value he h1 (hn _ v w E hK (Step.refl _ _ _) (hh.weaken fun b h => h.1) ?_)
      rcases hback with hb | hb
      · exact flat_rep h2 hb
      · exact free_rep hb h2
    · rename_i hbody
      obtain ⟨hname, hp⟩ := hp
      unfold Oper.wp
      have hcall : (callFunc f vs.toArray).run P w = .ok (.enter f vs.toArray) w := by
        have : (fn.name == "runtime.NumGoroutine") = false := by simpa using hname
        simp only [callFunc, Sem.run_bind, run_program, Result.andThen_ok, hfn, this, Bool.false_eq_true, if_false, hbody, Sem.run_pure]
      rw [he, hcall]
      refine hp.mono fun e w' hq => ?_
      obtain ⟨v, fix', rfl, hst, hlt, hv⟩ := hq
      let E' : Env := ⟨fun c o => E.fix c o ∨ (w.heap.size ≤ c ∧ fix' c o), E.own⟩
      have hblk : ∀ c, c < w.heap.size → w'.heap[c]? = w.heap[c]? := hst.below.block
      have hx : Ext w E w' E' := by
        refine ⟨fun c o h => .inl h, fun c o h => World.cell?_of_block (w := w) (hblk c (hh.fixlt c o h)), fun _ _ => rfl, fun c arr ty h => ⟨arr, ?_, rfl⟩⟩
        rw [hblk c (Array.getElem?_eq_some_iff.1 h).1]; exact h
      refine hn _ v w' E' hK ⟨hx, hst.below.mono hh.bs, fun c o hc h => ?_⟩ ?_ ?_
      · rcases h with h | ⟨h, -⟩
        · exact h
        · have := hh.bs; omega
      · refine ⟨fun b k hb => ?_, hh.sep, fun b hb => hh.fresh b hb.1, fun c o h => ?_, Nat.le_trans hh.bs hst.below.size, fun b c o h => ⟨(hh.ownlt b c o h).1, Nat.lt_of_lt_of_le (hh.ownlt b c o h).2 hst.below.size⟩⟩
        · have hb' := hh.blk b k hb
          refine hb'.keep hx (fun c o ho => hblk c (hb'.lt ho).1) (fun c o off ho h => ?_)
          rcases h with h | ⟨h, -⟩
          · exact h
          · have := (hb'.lt ho).1; omega
        · rcases h with h | ⟨-, h⟩
          · exact Nat.lt_of_lt_of_le (hh.fixlt c o h) hst.below.size
          · exact hlt c o h
      · rcases hback with hb | hb
        · exact flat_rep hv hb
        · refine free_rep (fun c o h => ?_) hv
          rcases Nat.lt_or_ge c w.heap.size with hc | hc
          · exact .inl (hb c o (hst.fixold c o hc h))
          · exact .inr ⟨hc, h⟩
end
end Go.Fw
end

section
namespace Go.Fw
set_option linter.unusedSimpArgs false
set_option linter.unusedVariables false
section
variable {P : Program} {base : Nat} {w w' : World} {E E' : Env} {ah : AH} {F : Nat → Prop} {K : Res → Prop} {id : Nat}

abbrev NextOk (base : Nat) (w : World) (E : Env) (ah : AH) (F : Nat → Prop) (id : Nat) (K : Res → Prop) (o : Oper) (a : Act) (next : Act → World → Prop) : Prop :=
  ∀ r v w' E', K r → Step base w E w' E' → HeapOk base w' E' (upds ah r.wr) (fun b => F b ∧ b ≠ id) → Rep w' E' r.v v → next (a.put o.dst v) w'

theorem wr_wp {o : Oper} {a : Act} {next : Act → World → Prop} {Q : Exit → Act → World → Prop} {s : Sem Value} (hn : NextOk base w E ah F id K o a next) (h : WrOk P base w E ah F id s K)
    (he : execOp a.eval o = (do pure (.value (← s)))) : o.wp P a w next Q := by
  obtain ⟨r, v, w', E', h1, h2, h3, h4, h5⟩ := h
  exact upon_value (s := do pure (.value (← s))) (v := v) (w' := w') he (by simp [h2]) (hn r v w' E' h1 h3 h4 h5)

theorem evO_rep {fr : AFr} {a : Act} (hfr : FrOk w E fr a.tmps) {x : Option Operand} {l : List (Unit × AV)} (h : evL fr (x.toList.map (((), ·))) = some l) :
    ORep w E (l.head?.map (·.2)) (x.map a.eval) := by
  cases x with
  | none => simp [evL] at h; subst h; exact .none
  | some x =>
    simp only [Option.toList_some, List.map_cons, List.map_nil, evL, Option.bind_eq_some_iff, Option.map_eq_some_iff] at h
    obtain ⟨y, hy, r, hr, rfl⟩ := h
    exact .some (ev_rep hfr hy)

theorem aOp_wp (hh : HeapOk base w E ah F) (hid : F id) {fr : AFr} {a : Act} (hfr : FrOk w E fr a.tmps) {o : Oper} (h : aOp P id fr ah o.op K) {next : Act → World → Prop} {Q : Exit → Act → World → Prop}
    (hn : NextOk base w E ah F id K o a next) : o.wp P a w next Q := by
  unfold aOp at h
  dsimp only at h
  split at h
  · rename_i x hop
    obtain ⟨y, hy, hK⟩ := withO_iff.1 h
    exact wr_wp hn (s := pure (a.eval x)) (RdOk.wr hh ⟨_, _, hK, rfl, rfl, ev_rep hfr hy⟩) (by simp [execOp, hop])
  · rename_i x hop
    obtain ⟨y, hy, hK⟩ := withO_iff.1 h
    exact wr_wp hn (s := pure (a.eval x)) (RdOk.wr hh ⟨_, _, hK, rfl, rfl, ev_rep hfr hy⟩) (by simp [execOp, hop])
  · rename_i c x y hop
    obtain ⟨cv, hc, h⟩ := withO_iff.1 h
    split at h
    · rename_i t
      have hcv := (ev_rep hfr hc).p_inv
      refine wr_wp hn (s := pure (if t = true then a.eval x else a.eval y)) (RdOk.wr hh ?_) (by simp [execOp, hop, hcv, asBool])
      rw [aIf_iff] at h
      split at h
      · rename_i ht; obtain ⟨z, hz, hK⟩ := withO_iff.1 h; exact ⟨_, _, hK, rfl, by simp [ht], ev_rep hfr hz⟩
      · rename_i ht; obtain ⟨z, hz, hK⟩ := withO_iff.1 h; exact ⟨_, _, hK, rfl, by simp [ht], ev_rep hfr hz⟩
    · exact h.elim
  · rename_i t x hop
    obtain ⟨y, hy, h⟩ := withO_iff.1 h
    exact wr_wp hn ((aLoad_rd hh h (ev_rep hfr hy)).wr hh) (by simp [execOp, hop])
  · rename_i t x y hop
    obtain ⟨x', hx, h⟩ := withO_iff.1 h
    obtain ⟨y', hy, h⟩ := withO_iff.1 h
    obtain ⟨r, w', E', h1, h2, h3, h4, h5⟩ := aStore_wr (P := P) (id := id) hh h (ev_rep hfr hx) (ev_rep hfr hy)
    have := hn r undef w' E' h1 h3 h4 (by rw [h5]; exact .p rfl)
    unfold Oper.wp
    have e : (execOp a.eval o).run P w = .ok .skip w' := by simp [execOp, hop, h2]
    rw [e]
    exact this
  · rename_i s x k hop
    obtain ⟨y, hy, h⟩ := withO_iff.1 h
    exact wr_wp hn ((aFieldAddr_rd h (ev_rep hfr hy)).wr hh) (by simp [execOp, hop])
  · rename_i s x k hop
    obtain ⟨y, hy, h⟩ := withO_iff.1 h
    exact wr_wp hn ((aField_rd h (ev_rep hfr hy)).wr hh) (by simp [execOp, hop])
  · rename_i t x i hop
    obtain ⟨x', hx, h⟩ := withO_iff.1 h
    obtain ⟨i', hi, h⟩ := withO_iff.1 h
    exact wr_wp hn ((aIndexAddr_rd h (ev_rep hfr hx) (ev_rep hfr hi)).wr hh) (by simp [execOp, hop])
  · rename_i t x i hop
    obtain ⟨x', hx, h⟩ := withO_iff.1 h
    obtain ⟨i', hi, h⟩ := withO_iff.1 h
    exact wr_wp hn ((aIndex_rd h (ev_rep hfr hx) (ev_rep hfr hi)).wr hh) (by simp [execOp, hop])
  · rename_i x k hop
    obtain ⟨x', hx, h⟩ := withO_iff.1 h
    exact wr_wp hn ((aExtract_rd h (ev_rep hfr hx)).wr hh) (by simp [execOp, hop])
  · rename_i op t x y t2 hop
    obtain ⟨x', hx, h⟩ := withO_iff.1 h
    obtain ⟨y', hy, h⟩ := withO_iff.1 h
    exact wr_wp hn ((aBin_rd x y h (ev_rep hfr hx) (ev_rep hfr hy)).rd.wr hh) (by simp [execOp, hop])
  · rename_i op t x hop
    obtain ⟨x', hx, h⟩ := withO_iff.1 h
    exact wr_wp hn ((aUn_rd (P := P) h (ev_rep hfr hx)).rd.wr hh) (by simp [execOp, hop])
  · rename_i s d x hop
    obtain ⟨x', hx, h⟩ := withO_iff.1 h
    exact wr_wp hn ((aConvert_rd h (ev_rep hfr hx)).rd.wr hh) (by simp [execOp, hop])
  · rename_i t x lo hi mx hop
    obtain ⟨x', hx, h⟩ := withO_iff.1 h
    obtain ⟨l, hl, h⟩ := withO_iff.1 h
    obtain ⟨j, hj, h⟩ := withO_iff.1 h
    obtain ⟨m, hm, h⟩ := withO_iff.1 h
    exact wr_wp hn ((aSlice_rd h (ev_rep hfr hx) (evO_rep hfr hl) (evO_rep hfr hj) (evO_rep hfr hm)).wr hh) (by simp [execOp, hop])
  · rename_i t parts hop
    obtain ⟨ps, hps, h⟩ := withO_iff.1 h
    obtain ⟨h1, h2⟩ := evL_rep hfr hps
    refine wr_wp hn ((aBuild_rd (vparts := parts.toList.map fun q => (q.1, a.eval q.2)) h (by simpa using h1) (fun i p q hp hq => ?_)).wr hh) ?_
    · simp only [List.getElem?_map, Option.map_eq_some_iff] at hq
      obtain ⟨q', hq', rfl⟩ := hq
      exact h2 i p q' hp hq'
    · simp only [execOp, hop]
      congr 2
      · congr 1; apply Array.ext'; simp
  · rename_i t len parts hop
    obtain ⟨ps, hps, h⟩ := withO_iff.1 h
    obtain ⟨h1, h2⟩ := evL_rep hfr hps
    refine wr_wp hn (aBuildSlice_wr (vparts := parts.toList.map fun q => (q.1, a.eval q.2)) hh hid h (by simpa using h1) (fun i p q hp hq => ?_)) ?_
    · simp only [List.getElem?_map, Option.map_eq_some_iff] at hq
      obtain ⟨q', hq', rfl⟩ := hq
      exact h2 i p q' hp hq'
    · simp only [execOp, hop]
      congr 2
      · congr 1; apply Array.ext'; simp
  · rename_i t x hop
    obtain ⟨y, hy, h⟩ := withO_iff.1 h
    exact wr_wp hn (aBox_wr hh hid t h (ev_rep hfr hy)) (by simp [execOp, hop])
  · rename_i t hop
    exact wr_wp hn (aAlloc_wr hh hid h) (by simp [execOp, hop])
  · rename_i t l c hop
    obtain ⟨l', hl, h⟩ := withO_iff.1 h
    obtain ⟨c', hc, h⟩ := withO_iff.1 h
    exact wr_wp hn (aMakeSlice_wr hh hid h (ev_rep hfr hl) (ev_rep hfr hc)) (by simp [execOp, hop])
  · rename_i fn first captured hop
    obtain ⟨x, hx, h⟩ := withO_iff.1 h
    obtain ⟨y, hy, hK⟩ := withO_iff.1 h
    have rx := evA_rep hfr hx
    have ry := evA_rep hfr hy
    refine wr_wp hn (s := pure (.func fn (first.map a.eval) (captured.map a.eval))) (RdOk.wr hh ⟨_, _, hK, rfl, rfl, ?_⟩) (by simp [execOp, hop, Instr.makeFunc])
    exact .fn fn x y _ _ (by simpa using rx.1) (by simpa using ry.1) (fun i c v h1 h2 => rx.2 i c v h1 (by simpa using h2)) (fun i c v h1 h2 => ry.2 i c v h1 (by simpa using h2))
  · rename_i args ts hop
    obtain ⟨l, hl, h⟩ := withO_iff.1 h
    have rl := evA_rep hfr hl
    split at h
    · rename_i x
      obtain ⟨t, ht, h⟩ := withO_iff.1 h
      obtain ⟨v0, hv0⟩ : ∃ v0, args.toList.map a.eval = [v0] := by
        have := rl.1; simp at this
        match hm : args.toList.map a.eval, (show (args.toList.map a.eval).length = 1 by simp [← this]) with
        | [v0], _ => exact ⟨v0, rfl⟩
      have e : args.map a.eval = #[v0] := by apply Array.ext'; simpa using hv0
      rw [hv0] at rl
      have hr := rl.2 0 x v0 rfl rfl
      refine wr_wp hn (s := Builtin.len_ ts o.type #[v0]) (RdOk.wr hh ?_) (by simp [execOp, hop, resolve, invoke, builtin, e])
      obtain ⟨r, v, q1, q2, q3, q4⟩ := aLen_rd (ty := o.type) hh h hr
      refine ⟨r, v, q1, q2, ?_, q4⟩
      rw [← q3]
      simp [Builtin.len_, ht]
    · exact h.elim
  · rename_i args ts hop
    obtain ⟨l, hl, h⟩ := withO_iff.1 h
    have rl := evA_rep hfr hl
    split at h
    · rename_i x y
      obtain ⟨t, ht, h⟩ := withO_iff.1 h
      obtain ⟨t2, ht2, h⟩ := withO_iff.1 h
      obtain ⟨v0, v1, hv0⟩ : ∃ v0 v1, args.toList.map a.eval = [v0, v1] := by
        have := rl.1; simp at this
        match hm : args.toList.map a.eval, (show (args.toList.map a.eval).length = 2 by simp [← this]) with
        | [v0, v1], _ => exact ⟨v0, v1, rfl⟩
      have e : args.map a.eval = #[v0, v1] := by apply Array.ext'; simpa using hv0
      rw [hv0] at rl
      have hr := rl.2 0 x v0 rfl rfl
      have hr1 := rl.2 1 y v1 rfl rfl
      refine wr_wp hn (s := Builtin.append_ ts o.type #[v0, v1]) ?_ (by simp [execOp, hop, resolve, invoke, builtin, e])
      obtain ⟨r, v, w', E', q1, q2, q3⟩ := aAppend_wr (ty := o.type) hh hid h hr hr1
      refine ⟨r, v, w', E', q1, ?_, q3⟩
      rw [← q2]
      simp [Builtin.append_, ht, ht2]
    · exact h.elim
  · rename_i args ts hop
    obtain ⟨l, hl, h⟩ := withO_iff.1 h
    refine wr_wp hn (s := Builtin.min_ ts o.type (args.toList.map a.eval).toArray) ((aMinMax_rd (P := P) (ts := ts) (ty := o.type) h (evA_rep hfr hl)).rd.wr hh) ?_
    have e : args.map a.eval = (args.toList.map a.eval).toArray := by apply Array.ext'; simp
    simp [execOp, hop, resolve, invoke, builtin, e]
  · rename_i args ts hop
    obtain ⟨l, hl, h⟩ := withO_iff.1 h
    refine wr_wp hn (s := Builtin.max_ ts o.type (args.toList.map a.eval).toArray) ((aMinMax_rd (P := P) (ts := ts) (ty := o.type) h (evA_rep hfr hl)).rd.wr hh) ?_
    have e : args.map a.eval = (args.toList.map a.eval).toArray := by apply Array.ext'; simp
    simp [execOp, hop, resolve, invoke, builtin, e]
  · rename_i f args ts hop
    obtain ⟨l, hl, h⟩ := withO_iff.1 h
    refine aCall_wp hh h (evA_rep hfr hl) ?_ hn
    have e : args.map a.eval = (args.toList.map a.eval).toArray := by apply Array.ext'; simp
    simp [execOp, hop, resolve, invoke, Deferred.ofValue, Act.eval, e]
  · exact h.elim
end
end Go.Fw
end

section
namespace Go.Fw
set_option linter.unusedSimpArgs false
set_option linter.unusedVariables false
section
variable {P : Program} {ah : AH} {K : Res → Prop} {id : Nat}

theorem apart_loc {ty row off} {k : AV → Prop} (h : apart ty row off k) : ∃ x, k x ∧ apart ty row off (fun y => y = x) := by
  unfold apart at h ⊢
  split at h
  · rename_i hb; simp only [if_pos hb]; exact ⟨_, h.2, h.1, rfl⟩
  · rename_i hb; simp only [if_neg hb]; obtain ⟨x, hx, hk⟩ := withO_iff.1 h; exact ⟨x, hk, withO_iff.2 ⟨x, hx, rfl⟩⟩

theorem aLoad_loc {t a} (h : aLoad P ah t a K) : ∃ r, K r ∧ ∀ ah' : AH, (∀ b ∈ r.rd, ah' b = ah b) → aLoad P ah' t a (fun r' => r' = r) := by
  obtain ⟨ty, hty, h⟩ := withO_iff.1 h
  cases a with
  | vp row off =>
    obtain ⟨x, hK, hx⟩ := apart_loc h
    refine ⟨_, hK, fun ah' _ => withO_iff.2 ⟨ty, hty, ?_⟩⟩
    obtain ⟨y, rfl, hy⟩ := apart_loc hx
    exact (show apart ty row off _ from by
      unfold apart at hy ⊢
      split at hy
      · rename_i hb; rw [if_pos hb]; exact ⟨hy.1, by rw [hy.2]⟩
      · rename_i hb; rw [if_neg hb]; obtain ⟨z, hz, e⟩ := withO_iff.1 hy; exact withO_iff.2 ⟨z, hz, by rw [e]⟩)
  | op b sz i off =>
    dsimp only at h
    split at h
    · rename_i sz' rs hab
      obtain ⟨rfl, h⟩ := h
      obtain ⟨row, hrow, h⟩ := withO_iff.1 h
      obtain ⟨x, hK, hx⟩ := apart_loc h
      refine ⟨_, hK, fun ah' hag => withO_iff.2 ⟨ty, hty, ?_⟩⟩
      dsimp only
      rw [hag b (by simp), hab]
      refine ⟨rfl, withO_iff.2 ⟨row, hrow, ?_⟩⟩
      unfold apart at hx ⊢
      split at hx
      · rename_i hb; rw [if_pos hb]; exact ⟨hx.1, by rw [hx.2]⟩
      · rename_i hb; rw [if_neg hb]; obtain ⟨z, hz, e⟩ := withO_iff.1 hx; exact withO_iff.2 ⟨z, hz, by rw [e]⟩
    · exact h.elim
  | _ => exact h.elim

theorem apart_map {ty row off} {k k' : AV → Prop} (hk : ∀ x, k x → k' x) (h : apart ty row off k) : apart ty row off k' := by
  unfold apart at h ⊢
  split at h
  · rename_i hb; rw [if_pos hb]; exact ⟨h.1, hk _ h.2⟩
  · rename_i hb; rw [if_neg hb]; obtain ⟨z, hz, e⟩ := withO_iff.1 h; exact withO_iff.2 ⟨z, hz, hk _ e⟩

theorem aStore_loc {t a v} (h : aStore P ah t a v K) : ∃ r, K r ∧ ∀ ah' : AH, (∀ b ∈ r.rd, ah' b = ah b) → aStore P ah' t a v (fun r' => r' = r) := by
  obtain ⟨ty, hty, h⟩ := withO_iff.1 h
  cases a with
  | op b sz i off =>
    dsimp only at h
    split at h
    · rename_i sz' rs hab
      obtain ⟨rfl, hb, hl, h⟩ := h
      obtain ⟨row, hrow, hle, hK⟩ := withO_iff.1 h
      refine ⟨_, hK, fun ah' hag => withO_iff.2 ⟨ty, hty, ?_⟩⟩
      dsimp only
      rw [hag b (by simp), hab]
      exact ⟨rfl, hb, hl, withO_iff.2 ⟨row, hrow, hle, rfl⟩⟩
    · exact h.elim
  | _ => exact h.elim

theorem aFieldAddr_loc {s a k} (h : aFieldAddr P s a k K) : ∃ r, K r ∧ r.rd = [] ∧ aFieldAddr P s a k (fun r' => r' = r) := by
  obtain ⟨f, hf, h0, h⟩ := withO_iff.1 h
  cases a <;> first | exact h.elim | exact ⟨_, h, rfl, withO_iff.2 ⟨f, hf, h0, rfl⟩⟩

theorem aField_loc {s a k} (h : aField P s a k K) : ∃ r, K r ∧ r.rd = [] ∧ aField P s a k (fun r' => r' = r) := by
  obtain ⟨f, hf, h⟩ := withO_iff.1 h
  cases a with
  | agg cs =>
    obtain ⟨x, hK, hx⟩ := apart_loc h
    exact ⟨_, hK, rfl, withO_iff.2 ⟨f, hf, apart_map (fun y e => by rw [e]) hx⟩⟩
  | _ => exact h.elim

theorem aIndexAddr_loc {t x i} (h : aIndexAddr P t x i K) : ∃ r, K r ∧ r.rd = [] ∧ aIndexAddr P t x i (fun r' => r' = r) := by
  unfold aIndexAddr at h ⊢
  split at h
  · split at h
    · obtain ⟨e, he, h0, h⟩ := withO_iff.1 h
      obtain ⟨row, hrow, hl, hK⟩ := withO_iff.1 h
      exact ⟨_, hK, rfl, withO_iff.2 ⟨e, he, h0, withO_iff.2 ⟨row, hrow, hl, rfl⟩⟩⟩
    · obtain ⟨e, he, h0, h1, h2, hK⟩ := withO_iff.1 h; exact ⟨_, hK, rfl, withO_iff.2 ⟨e, he, h0, h1, h2, rfl⟩⟩
    · obtain ⟨e, he, h0, h1, hK⟩ := withO_iff.1 h; exact ⟨_, hK, rfl, withO_iff.2 ⟨e, he, h0, h1, rfl⟩⟩
    · obtain ⟨e, he, h0, h1, hK⟩ := withO_iff.1 h; exact ⟨_, hK, rfl, withO_iff.2 ⟨e, he, h0, h1, rfl⟩⟩
    · exact h.elim
  · exact h.elim

theorem aIndex_loc {t x i} (h : aIndex P t x i K) : ∃ r, K r ∧ r.rd = [] ∧ aIndex P t x i (fun r' => r' = r) := by
  unfold aIndex at h ⊢
  split at h
  · split at h
    · obtain ⟨hu, h0, h⟩ := h
      obtain ⟨b, hb, hK⟩ := withO_iff.1 h
      exact ⟨_, hK, rfl, hu, h0, withO_iff.2 ⟨b, hb, rfl⟩⟩
    · obtain ⟨e, he, h0, h1, h⟩ := withO_iff.1 h
      obtain ⟨x, hK, hx⟩ := apart_loc h
      exact ⟨_, hK, rfl, withO_iff.2 ⟨e, he, h0, h1, apart_map (fun y e => by rw [e]) hx⟩⟩
    · exact h.elim
  · exact h.elim

theorem aExtract_loc {x k} (h : aExtract x k K) : ∃ r, K r ∧ r.rd = [] ∧ aExtract x k (fun r' => r' = r) := by
  unfold aExtract at h ⊢
  split at h
  · obtain ⟨a, ha, hK⟩ := withO_iff.1 h; exact ⟨_, hK, rfl, withO_iff.2 ⟨a, ha, rfl⟩⟩
  · exact h.elim

theorem aBin_loc {op t c x y} {K : AV → Prop} (h : aBin P op t c x y K) : ∃ a, K a ∧ ∀ K' : AV → Prop, K' a → aBin P op t c x y K' := by
  unfold aBin at h ⊢
  split at h
  · exact ⟨_, h.2, fun K' hK' => ⟨h.1, hK'⟩⟩
  · exact ⟨_, h.2, fun K' hK' => ⟨h.1, hK'⟩⟩
  · obtain ⟨rfl, h⟩ := h
    split at h <;> first | exact h.elim | exact ⟨_, h, fun K' hK' => ⟨rfl, hK'⟩⟩ | exact ⟨_, h.2, fun K' hK' => ⟨rfl, h.1, hK'⟩⟩
  · obtain ⟨rfl, h⟩ := h
    split at h <;> first | exact h.elim | exact ⟨_, h, fun K' hK' => ⟨rfl, hK'⟩⟩ | (obtain ⟨r, hr, hk⟩ := withO_iff.1 h; exact ⟨_, hk, fun K' hK' => ⟨rfl, withO_iff.2 ⟨r, hr, hK'⟩⟩⟩)
  · split at h <;> first | exact h.elim | exact ⟨_, h, fun K' hK' => hK'⟩ | exact ⟨_, h.2, fun K' hK' => ⟨h.1, hK'⟩⟩
  · obtain ⟨h0, h⟩ := h; obtain ⟨r, hr, hk⟩ := withO_iff.1 h; exact ⟨_, hk, fun K' hK' => ⟨h0, withO_iff.2 ⟨r, hr, hK'⟩⟩⟩
  · obtain ⟨h0, h⟩ := h; obtain ⟨r, hr, hk⟩ := withO_iff.1 h; exact ⟨_, hk, fun K' hK' => ⟨h0, withO_iff.2 ⟨r, hr, hK'⟩⟩⟩
  · exact h.elim

theorem aUn_loc {op x} {K : AV → Prop} (h : aUn op x K) : ∃ a, K a ∧ ∀ K' : AV → Prop, K' a → aUn op x K' := by
  unfold aUn at h ⊢
  split at h <;> first | exact h.elim | exact ⟨_, h, fun K' hK' => hK'⟩

theorem aConvert_loc {s d x} {K : AV → Prop} (h : aConvert P s d x K) : ∃ a, K a ∧ ∀ K' : AV → Prop, K' a → aConvert P s d x K' := by
  unfold aConvert at h ⊢
  obtain ⟨h0, h⟩ := h
  split at h
  · exact ⟨_, h, fun K' hK' => ⟨h0, hK'⟩⟩
  · exact ⟨_, h, fun K' hK' => ⟨h0, hK'⟩⟩
  · obtain ⟨r, hr, h1, h2, hk⟩ := withO_iff.1 h; exact ⟨_, hk, fun K' hK' => ⟨h0, withO_iff.2 ⟨r, hr, h1, h2, hK'⟩⟩⟩
  · exact ⟨_, h, fun K' hK' => ⟨h0, hK'⟩⟩
  · exact h.elim

theorem oNat_loc {o d} {k : Nat → Prop} (h : oNat o d k) : ∃ n, k n ∧ ∀ k' : Nat → Prop, k' n → oNat o d k' := by
  unfold oNat at h ⊢
  split at h
  · exact ⟨_, h, fun k' h => h⟩
  · exact ⟨_, h.2, fun k' h' => ⟨h.1, h'⟩⟩
  · exact h.elim

theorem aSlice_loc {t x lo hi mx} (h : aSlice P t x lo hi mx K) : ∃ r, K r ∧ r.rd = [] ∧ aSlice P t x lo hi mx (fun r' => r' = r) := by
  unfold aSlice at h ⊢
  split at h
  · obtain ⟨hu, hm, h⟩ := h
    obtain ⟨l, h, hl⟩ := oNat_loc h
    obtain ⟨j, h, hj⟩ := oNat_loc h
    obtain ⟨h1, h2, hK⟩ := h
    exact ⟨_, hK, rfl, hu, hm, hl _ (hj _ ⟨h1, h2, rfl⟩)⟩
  · obtain ⟨e, he, hr, hb, h⟩ := withO_iff.1 h
    obtain ⟨l, h, hl⟩ := oNat_loc h
    obtain ⟨j, h, hj⟩ := oNat_loc h
    obtain ⟨m, h, hm⟩ := oNat_loc h
    obtain ⟨h1, h2, h3, hK⟩ := h
    exact ⟨_, hK, rfl, withO_iff.2 ⟨e, he, hr, hb, hl _ (hj _ (hm _ ⟨h1, h2, h3, rfl⟩))⟩⟩
  · obtain ⟨e, he, hr, hb, h⟩ := withO_iff.1 h
    obtain ⟨l, h, hl⟩ := oNat_loc h
    obtain ⟨j, h, hj⟩ := oNat_loc h
    obtain ⟨m, h, hm⟩ := oNat_loc h
    obtain ⟨h1, h2, h3, hK⟩ := h
    exact ⟨_, hK, rfl, withO_iff.2 ⟨e, he, hr, hb, hl _ (hj _ (hm _ ⟨h1, h2, h3, rfl⟩))⟩⟩
  · exact h.elim

theorem aBuild_loc {t parts} (h : aBuild P t parts K) : ∃ r, K r ∧ r.rd = [] ∧ aBuild P t parts (fun r' => r' = r) := by
  obtain ⟨z, hz, h⟩ := withO_iff.1 h
  obtain ⟨pl, hpl, h⟩ := withO_iff.1 h
  obtain ⟨cs, hcs, hK⟩ := withO_iff.1 h
  exact ⟨_, hK, rfl, withO_iff.2 ⟨z, hz, withO_iff.2 ⟨pl, hpl, withO_iff.2 ⟨cs, hcs, rfl⟩⟩⟩⟩

theorem aBuildSlice_loc {t len parts} (h : aBuildSlice P t id len parts K) : ∃ r, K r ∧ r.rd = [] ∧ aBuildSlice P t id len parts (fun r' => r' = r) := by
  unfold aBuildSlice at h ⊢
  split at h
  · obtain ⟨i, hi, h⟩ := withO_iff.1 h
    obtain ⟨z, hz, h1, h2, h⟩ := withO_iff.1 h
    obtain ⟨cs, hcs, hK⟩ := withO_iff.1 h
    exact ⟨_, hK, rfl, withO_iff.2 ⟨i, hi, withO_iff.2 ⟨z, hz, h1, h2, withO_iff.2 ⟨cs, hcs, rfl⟩⟩⟩⟩
  · exact h.elim

theorem aAlloc_loc {t} (h : aAlloc P t id K) : ∃ r, K r ∧ r.rd = [] ∧ aAlloc P t id (fun r' => r' = r) := by
  obtain ⟨z, hz, hK⟩ := withO_iff.1 h
  exact ⟨_, hK, rfl, withO_iff.2 ⟨z, hz, rfl⟩⟩

theorem aMakeSlice_loc {t l c} (h : aMakeSlice P t id l c K) : ∃ r, K r ∧ r.rd = [] ∧ aMakeSlice P t id l c (fun r' => r' = r) := by
  unfold aMakeSlice at h ⊢
  split at h
  · obtain ⟨i, hi, h⟩ := withO_iff.1 h
    obtain ⟨z, hz, h1, h2, h3, h4, h5, hK⟩ := withO_iff.1 h
    exact ⟨_, hK, rfl, withO_iff.2 ⟨i, hi, withO_iff.2 ⟨z, hz, h1, h2, h3, h4, h5, rfl⟩⟩⟩
  · exact h.elim

theorem rowsOf_loc {n y} {k : List (List AV) → List Nat → Prop} (h : rowsOf ah n y k) : ∃ ys rd, k ys rd ∧ ∀ ah' : AH, (∀ b ∈ rd, ah' b = ah b) → ∀ k' : List (List AV) → List Nat → Prop, k' ys rd → rowsOf ah' n y k' := by
  unfold rowsOf at h ⊢
  split at h
  · exact ⟨_, _, h.2, fun ah' _ k' hk => ⟨h.1, hk⟩⟩
  · rename_i b sz off len
    obtain ⟨h0, h⟩ := h
    split at h
    · rename_i sz' rs hab
      obtain ⟨h1, h2, h⟩ := h
      exact ⟨_, _, h, fun ah' hag k' hk => ⟨h0, by rw [hag b (by simp), hab]; exact ⟨h1, h2, hk⟩⟩⟩
    · exact h.elim
  · exact ⟨_, _, h.2, fun ah' _ k' hk => ⟨h.1, hk⟩⟩
  · exact h.elim

theorem aAppend_loc {t t2 x y} (h : aAppend P id ah t t2 x y K) : ∃ r, K r ∧ ∀ ah' : AH, (∀ b ∈ r.rd, ah' b = ah b) → aAppend P id ah' t t2 x y (fun r' => r' = r) := by
  obtain ⟨e, he, h1, h2, h3, h4, h⟩ := withO_iff.1 h
  obtain ⟨ys, rd, h, hy⟩ := rowsOf_loc h
  cases x with
  | sl rows full =>
    obtain ⟨g1, g2, g3, g4, hK⟩ := h
    exact ⟨_, hK, fun ah' hag => withO_iff.2 ⟨e, he, h1, h2, h3, h4, hy ah' hag _ ⟨g1, g2, g3, g4, rfl⟩⟩⟩
  | os b sz off len =>
    obtain ⟨g0, h⟩ := h
    split at h
    · rename_i sz' rs hab
      obtain ⟨g1, g2, g3, hK⟩ := h
      refine ⟨_, hK, fun ah' hag => withO_iff.2 ⟨e, he, h1, h2, h3, h4, hy ah' (fun b' hb' => hag b' (by simp [hb'])) _ ⟨g0, ?_⟩⟩⟩
      rw [hag b (by simp), hab]
      exact ⟨g1, g2, g3, rfl⟩
    · exact h.elim
  | _ => exact h.elim

theorem aLen_loc {t x} (h : aLen P ah t x K) : ∃ r, K r ∧ ∀ ah' : AH, (∀ b ∈ r.rd, ah' b = ah b) → aLen P ah' t x (fun r' => r' = r) := by
  unfold aLen at h ⊢
  split at h
  · exact ⟨_, h, fun _ _ => rfl⟩
  · exact ⟨_, h, fun _ _ => rfl⟩
  · exact ⟨_, h, fun _ _ => rfl⟩
  · exact ⟨_, h, fun _ _ => rfl⟩
  · rename_i b hu
    split at h
    · rename_i es hab; exact ⟨_, h, fun ah' hag => by rw [hag b (by simp), hab]⟩
    · exact h.elim
  · exact h.elim

theorem aMinMax_loc {mx l} {K : AV → Prop} (h : aMinMax mx l K) : ∃ a, K a ∧ ∀ K' : AV → Prop, K' a → aMinMax mx l K' := by
  unfold aMinMax at h ⊢
  split at h
  · exact ⟨_, h.2, fun K' hK => ⟨h.1, hK⟩⟩
  · exact h.elim

 mutual
theorem frz_congr {ah ah' : AH} : ∀ {a : AV}, (∀ b ∈ a.refs, ah' b = ah b) → frz ah' a = frz ah a
  | .p _, _ => rfl
  | .str _, _ => rfl
  | .agg cs, h => by simp only [frz, frzL_congr (l := cs) h]
  | .tup cs, h => by simp only [frz, frzL_congr (l := cs) h]
  | .sl rows _, h => by simp only [frz, frzLL_congr (l := rows) h]
  | .vp row _, h => by simp only [frz, frzL_congr (l := row) h]
  | .os b sz off len, h => by simp only [frz, h b (by simp [AV.refs])]
  | .op b sz row off, h => by simp only [frz, h b (by simp [AV.refs])]
  | .fn f x y, h => by
    simp only [AV.refs, List.mem_append] at h
    simp only [frz, frzL_congr (l := x) (fun b hb => h b (.inl hb)), frzL_congr (l := y) (fun b hb => h b (.inr hb))]
  | .ifc t v, h => by simp only [frz, frz_congr (a := v) h]
  | .mp b, _ => rfl
theorem frzL_congr {ah ah' : AH} : ∀ {l : List AV}, (∀ b ∈ refsL l, ah' b = ah b) → frzL ah' l = frzL ah l
  | [], _ => rfl
  | a :: r, h => by
    simp only [refsL, List.mem_append] at h
    simp only [frzL, frz_congr (a := a) (fun b hb => h b (.inl hb)), frzL_congr (l := r) (fun b hb => h b (.inr hb))]
theorem frzLL_congr {ah ah' : AH} : ∀ {l : List (List AV)}, (∀ b ∈ refsLL l, ah' b = ah b) → frzLL ah' l = frzLL ah l
  | [], _ => rfl
  | a :: r, h => by
    simp only [refsLL, List.mem_append] at h
    simp only [frzLL, frzL_congr (l := a) (fun b hb => h b (.inl hb)), frzLL_congr (l := r) (fun b hb => h b (.inr hb))]
end

theorem aCall_loc {f args} (h : aCall P ah f args K) : ∃ r, K r ∧ ∀ ah' : AH, (∀ b ∈ r.rd, ah' b = ah b) → aCall P ah' f args (fun r' => r' = r) := by
  obtain ⟨as, has, as', r, hwk, hpc, hcl, hK⟩ := withO_iff.1 h
  exact ⟨_, hK, fun ah' hag => withO_iff.2 ⟨as, by rw [frzL_congr hag]; exact has, as', r, hwk, hpc, hcl, rfl⟩⟩

/-- do two frames agree on the operands of an operation? -/
def Agree (fr fr' : AFr) (xs : List Operand) : Prop := ∀ t, Operand.tmp t ∈ xs → fget fr' t = fget fr t
theorem ev_congr {fr fr' : AFr} {x : Operand} {xs : List Operand} (h : Agree fr fr' xs) (hx : x ∈ xs) : ev fr' x = ev fr x := by
  cases x with
  | tmp t => exact h t hx
  | _ => rfl
theorem evA_congr {fr fr' : AFr} : ∀ {l xs : List Operand}, Agree fr fr' xs → (∀ x ∈ l, x ∈ xs) → evA fr' l = evA fr l
  | [], xs, _, _ => rfl
  | x :: r, xs, h, hm => by
    have e := evA_congr (l := r) h (fun y hy => hm y (List.mem_cons_of_mem _ hy))
    simp only [evA, ev_congr h (hm x (by simp)), e]
theorem evL_congr {α : Type} {fr fr' : AFr} : ∀ {l : List (α × Operand)} {xs : List Operand}, Agree fr fr' xs → (∀ x ∈ l, x.2 ∈ xs) → evL fr' l = evL fr l
  | [], xs, _, _ => rfl
  | (i, x) :: r, xs, h, hm => by
    have e := evL_congr (l := r) h (fun y hy => hm y (List.mem_cons_of_mem _ hy))
    simp only [evL, ev_congr h (hm (i, x) (by simp)), e]

/-- AN OPERATION LOOKS AT ITS OPERANDS, AND AT THE OWNED BLOCKS THAT IT NAMES, AND AT NOTHING ELSE -/
theorem aOp_loc {fr : AFr} {op : Op} (h : aOp P id fr ah op K) : ∃ r, K r ∧ ∀ (fr' : AFr) (ah' : AH), Agree fr fr' op.operands.toList → (∀ b ∈ r.rd, ah' b = ah b) → aOp P id fr' ah' op (fun r' => r' = r) := by
  unfold aOp at h
  dsimp only at h
  split at h
  · obtain ⟨y, hy, hK⟩ := withO_iff.1 h
    exact ⟨_, hK, fun fr' ah' hf _ => withO_iff.2 ⟨y, by rw [ev_congr hf (by simp [Op.operands])]; exact hy, rfl⟩⟩
  · obtain ⟨y, hy, hK⟩ := withO_iff.1 h
    exact ⟨_, hK, fun fr' ah' hf _ => withO_iff.2 ⟨y, by rw [ev_congr hf (by simp [Op.operands])]; exact hy, rfl⟩⟩
  · rename_i c x y
    obtain ⟨cv, hc, h⟩ := withO_iff.1 h
    split at h
    · rename_i t
      rw [aIf_iff] at h
      split at h
      · rename_i ht; obtain ⟨z, hz, hK⟩ := withO_iff.1 h
        refine ⟨_, hK, fun fr' ah' hf _ => withO_iff.2 ⟨_, by rw [ev_congr hf (by simp [Op.operands])]; exact hc, ?_⟩⟩
        dsimp only
        rw [aIf_iff, if_pos ht]
        exact withO_iff.2 ⟨z, by rw [ev_congr hf (by simp [Op.operands])]; exact hz, rfl⟩
      · rename_i ht; obtain ⟨z, hz, hK⟩ := withO_iff.1 h
        refine ⟨_, hK, fun fr' ah' hf _ => withO_iff.2 ⟨_, by rw [ev_congr hf (by simp [Op.operands])]; exact hc, ?_⟩⟩
        dsimp only
        rw [aIf_iff, if_neg ht]
        exact withO_iff.2 ⟨z, by rw [ev_congr hf (by simp [Op.operands])]; exact hz, rfl⟩
    · exact h.elim
  · obtain ⟨y, hy, h⟩ := withO_iff.1 h
    obtain ⟨r, hK, hl⟩ := aLoad_loc h
    exact ⟨r, hK, fun fr' ah' hf ha => withO_iff.2 ⟨y, by rw [ev_congr hf (by simp [Op.operands])]; exact hy, hl ah' ha⟩⟩
  · obtain ⟨x', hx, h⟩ := withO_iff.1 h
    obtain ⟨y', hy, h⟩ := withO_iff.1 h
    obtain ⟨r, hK, hl⟩ := aStore_loc h
    exact ⟨r, hK, fun fr' ah' hf ha => withO_iff.2 ⟨x', by rw [ev_congr hf (by simp [Op.operands])]; exact hx, withO_iff.2 ⟨y', by rw [ev_congr hf (by simp [Op.operands])]; exact hy, hl ah' ha⟩⟩⟩
  · obtain ⟨y, hy, h⟩ := withO_iff.1 h
    obtain ⟨r, hK, -, hl⟩ := aFieldAddr_loc h
    exact ⟨r, hK, fun fr' ah' hf ha => withO_iff.2 ⟨y, by rw [ev_congr hf (by simp [Op.operands])]; exact hy, hl⟩⟩
  · obtain ⟨y, hy, h⟩ := withO_iff.1 h
    obtain ⟨r, hK, -, hl⟩ := aField_loc h
    exact ⟨r, hK, fun fr' ah' hf ha => withO_iff.2 ⟨y, by rw [ev_congr hf (by simp [Op.operands])]; exact hy, hl⟩⟩
  · obtain ⟨x', hx, h⟩ := withO_iff.1 h
    obtain ⟨y', hy, h⟩ := withO_iff.1 h
    obtain ⟨r, hK, -, hl⟩ := aIndexAddr_loc h
    exact ⟨r, hK, fun fr' ah' hf ha => withO_iff.2 ⟨x', by rw [ev_congr hf (by simp [Op.operands])]; exact hx, withO_iff.2 ⟨y', by rw [ev_congr hf (by simp [Op.operands])]; exact hy, hl⟩⟩⟩
  · obtain ⟨x', hx, h⟩ := withO_iff.1 h
    obtain ⟨y', hy, h⟩ := withO_iff.1 h
    obtain ⟨r, hK, -, hl⟩ := aIndex_loc h
    exact ⟨r, hK, fun fr' ah' hf ha => withO_iff.2 ⟨x', by rw [ev_congr hf (by simp [Op.operands])]; exact hx, withO_iff.2 ⟨y', by rw [ev_congr hf (by simp [Op.operands])]; exact hy, hl⟩⟩⟩
  · obtain ⟨y, hy, h⟩ := withO_iff.1 h
    obtain ⟨r, hK, -, hl⟩ := aExtract_loc h
    exact ⟨r, hK, fun fr' ah' hf ha => withO_iff.2 ⟨y, by rw [ev_congr hf (by simp [Op.operands])]; exact hy, hl⟩⟩
  · obtain ⟨x', hx, h⟩ := withO_iff.1 h
    obtain ⟨y', hy, h⟩ := withO_iff.1 h
    obtain ⟨r, hK, hl⟩ := aBin_loc h
    exact ⟨_, hK, fun fr' ah' hf ha => withO_iff.2 ⟨x', by rw [ev_congr hf (by simp [Op.operands])]; exact hx, withO_iff.2 ⟨y', by rw [ev_congr hf (by simp [Op.operands])]; exact hy, hl _ rfl⟩⟩⟩
  · obtain ⟨y, hy, h⟩ := withO_iff.1 h
    obtain ⟨r, hK, hl⟩ := aUn_loc h
    exact ⟨_, hK, fun fr' ah' hf ha => withO_iff.2 ⟨y, by rw [ev_congr hf (by simp [Op.operands])]; exact hy, hl _ rfl⟩⟩
  · obtain ⟨y, hy, h⟩ := withO_iff.1 h
    obtain ⟨r, hK, hl⟩ := aConvert_loc h
    exact ⟨_, hK, fun fr' ah' hf ha => withO_iff.2 ⟨y, by rw [ev_congr hf (by simp [Op.operands])]; exact hy, hl _ rfl⟩⟩
  · rename_i t x lo hi mx
    obtain ⟨x', hx, h⟩ := withO_iff.1 h
    obtain ⟨l, hl, h⟩ := withO_iff.1 h
    obtain ⟨j, hj, h⟩ := withO_iff.1 h
    obtain ⟨m, hm, h⟩ := withO_iff.1 h
    obtain ⟨r, hK, -, hr⟩ := aSlice_loc h
    refine ⟨r, hK, fun fr' ah' hf ha => withO_iff.2 ⟨x', by rw [ev_congr hf (by simp [Op.operands])]; exact hx, withO_iff.2 ⟨l, ?_, withO_iff.2 ⟨j, ?_, withO_iff.2 ⟨m, ?_, hr⟩⟩⟩⟩⟩
    · rw [evL_congr hf (fun y hy => by cases lo <;> simp at hy; subst hy; simp [Op.operands])]; exact hl
    · rw [evL_congr hf (fun y hy => by cases hi <;> simp at hy; subst hy; simp [Op.operands])]; exact hj
    · rw [evL_congr hf (fun y hy => by cases mx <;> simp at hy; subst hy; simp [Op.operands])]; exact hm
  · rename_i t parts
    obtain ⟨ps, hps, h⟩ := withO_iff.1 h
    obtain ⟨r, hK, -, hl⟩ := aBuild_loc h
    refine ⟨r, hK, fun fr' ah' hf ha => withO_iff.2 ⟨ps, ?_, hl⟩⟩
    rw [evL_congr hf (fun y hy => by simp [Op.operands]; exact ⟨y.1, by simpa using hy⟩)]; exact hps
  · rename_i t len parts
    obtain ⟨ps, hps, h⟩ := withO_iff.1 h
    obtain ⟨r, hK, -, hl⟩ := aBuildSlice_loc h
    refine ⟨r, hK, fun fr' ah' hf ha => withO_iff.2 ⟨ps, ?_, hl⟩⟩
    rw [evL_congr hf (fun y hy => by simp [Op.operands]; exact ⟨y.1, by simpa using hy⟩)]; exact hps
  · obtain ⟨y, hy, h⟩ := withO_iff.1 h
    exact ⟨_, h.2, fun fr' ah' hf ha => withO_iff.2 ⟨y, by rw [ev_congr hf (by simp [Op.operands])]; exact hy, h.1, rfl⟩⟩
  · obtain ⟨r, hK, -, hl⟩ := aAlloc_loc h
    exact ⟨r, hK, fun fr' ah' hf ha => hl⟩
  · obtain ⟨x', hx, h⟩ := withO_iff.1 h
    obtain ⟨y', hy, h⟩ := withO_iff.1 h
    obtain ⟨r, hK, -, hl⟩ := aMakeSlice_loc h
    exact ⟨r, hK, fun fr' ah' hf ha => withO_iff.2 ⟨x', by rw [ev_congr hf (by simp [Op.operands])]; exact hx, withO_iff.2 ⟨y', by rw [ev_congr hf (by simp [Op.operands])]; exact hy, hl⟩⟩⟩
  · obtain ⟨x', hx, h⟩ := withO_iff.1 h
    obtain ⟨y', hy, hK⟩ := withO_iff.1 h
    exact ⟨_, hK, fun fr' ah' hf ha => withO_iff.2 ⟨x', by rw [evA_congr hf (by simp [Op.operands]; intro x hx; exact .inl hx)]; exact hx, withO_iff.2 ⟨y', by rw [evA_congr hf (by simp [Op.operands]; intro x hx; exact .inr hx)]; exact hy, rfl⟩⟩⟩
  · obtain ⟨l, hl, h⟩ := withO_iff.1 h
    split at h
    · rename_i x
      obtain ⟨t, ht, h⟩ := withO_iff.1 h
      obtain ⟨r, hK, hr⟩ := aLen_loc h
      exact ⟨r, hK, fun fr' ah' hf ha => withO_iff.2 ⟨[x], by rw [evA_congr hf (by simp [Op.operands, Call.operands])]; exact hl, withO_iff.2 ⟨t, ht, hr ah' ha⟩⟩⟩
    · exact h.elim
  · obtain ⟨l, hl, h⟩ := withO_iff.1 h
    split at h
    · rename_i x y
      obtain ⟨t, ht, h⟩ := withO_iff.1 h
      obtain ⟨t2, ht2, h⟩ := withO_iff.1 h
      obtain ⟨r, hK, hr⟩ := aAppend_loc h
      exact ⟨r, hK, fun fr' ah' hf ha => withO_iff.2 ⟨[x, y], by rw [evA_congr hf (by simp [Op.operands, Call.operands])]; exact hl, withO_iff.2 ⟨t, ht, withO_iff.2 ⟨t2, ht2, hr ah' ha⟩⟩⟩⟩
    · exact h.elim
  · obtain ⟨l, hl, h⟩ := withO_iff.1 h
    obtain ⟨r, hK, hr⟩ := aMinMax_loc h
    exact ⟨_, hK, fun fr' ah' hf ha => withO_iff.2 ⟨l, by rw [evA_congr hf (by simp [Op.operands, Call.operands])]; exact hl, hr _ rfl⟩⟩
  · obtain ⟨l, hl, h⟩ := withO_iff.1 h
    obtain ⟨r, hK, hr⟩ := aMinMax_loc h
    exact ⟨_, hK, fun fr' ah' hf ha => withO_iff.2 ⟨l, by rw [evA_congr hf (by simp [Op.operands, Call.operands])]; exact hl, hr _ rfl⟩⟩
  · obtain ⟨l, hl, h⟩ := withO_iff.1 h
    obtain ⟨r, hK, hr⟩ := aCall_loc h
    exact ⟨r, hK, fun fr' ah' hf ha => withO_iff.2 ⟨l, by rw [evA_congr hf (by simp [Op.operands, Call.operands]; intro x hx; exact .inr hx)]; exact hl, hr ah' ha⟩⟩
  · exact h.elim

end
end Go.Fw
end

section
namespace Go.Fw
set_option linter.unusedSimpArgs false
set_option linter.unusedVariables false

def aWanted (ops : Array Oper) (fr : AFr) (o : Oper) (k : Bool → Prop) : Prop :=
  match o.guard with
  | none => k true
  | some (j, want) => withO ((ops[j]?).bind (·.dst)) fun d => withO (fget fr d) fun a =>
      match a with
      | .p (.bool t) => k (t == want)
      | .p _ => k false
      | _ => False

structure Foot where
  i : Nat
  rd : List Nat
  wr : List Nat

def apartF (M : List Nat) (i : Nat) (rd wr : List Nat) (f : Foot) : Prop :=
  (M.getD i 0).testBit f.i = true ∨ ((∀ b ∈ f.wr, b ∉ rd ∧ b ∉ wr) ∧ ∀ b ∈ f.rd, b ∉ wr)
def compat (M : Option (List Nat)) (fs : List Foot) (i : Nat) (rd wr : List Nat) : Prop :=
  match M with
  | none => True
  | some M => ∀ f ∈ fs, apartF M i rd wr f
def addFoot (M : Option (List Nat)) (fs : List Foot) (i : Nat) (rd wr : List Nat) : List Foot :=
  match M with
  | none => fs
  | some _ => if (rd.isEmpty && wr.isEmpty) = true then fs else ⟨i, rd, wr⟩ :: fs

/-- the operations of a region, one behind the other -/
def aRun (P : Program) (ops : Array Oper) (M : Option (List Nat)) (id0 : Nat) : Nat → List Oper → AFr → AH → List Foot → (AFr → AH → Prop) → Prop
  | _, [], fr, ah, _, k => k fr ah
  | i, o :: rest, fr, ah, fs, k => aWanted ops fr o fun wt =>
      aIf wt (aOp P (id0 + i) fr ah o.op fun r => compat M fs i r.rd (r.wr.map (·.1)) ∧
        aRun P ops M id0 (i + 1) rest (fput fr o.dst r.v) (upds ah r.wr) (addFoot M fs i r.rd (r.wr.map (·.1))) k)
      (aRun P ops M id0 (i + 1) rest (fput fr o.dst (.p undef)) ah fs k)

section
variable {P : Program} {ops : Array Oper}

theorem aWanted_run {w E fr} {a : Act} (hfr : FrOk w E fr a.tmps) {o : Oper} {k : Bool → Prop} (h : aWanted ops fr o k) : ∃ wt, k wt ∧ Region.wanted o (yielded ops a.tmps) = wt := by
  unfold aWanted at h
  unfold Region.wanted
  split at h
  · rename_i hg; rw [hg]; exact ⟨true, h, rfl⟩
  · rename_i j want hg
    obtain ⟨d, hd, h⟩ := withO_iff.1 h
    obtain ⟨x, hx, h⟩ := withO_iff.1 h
    obtain ⟨v, hv, hr⟩ := hfr.get d x hx
    rw [hg]
    dsimp only
    unfold yielded
    rw [hd]
    simp only [Option.bind_some, hv]
    split at h
    · rename_i t
      obtain rfl := hr.p_inv
      refine ⟨_, h, ?_⟩
      cases t <;> cases want <;> rfl
    · rename_i u hu
      obtain rfl := hr.p_inv
      refine ⟨_, h, ?_⟩
      cases v <;> first | rfl | exact absurd rfl (hu _)
    · exact h.elim

/-- the end of a region's run -/
def RunPost (base : Nat) (w : World) (E : Env) (a : Act) (n : Nat) (k : AFr → AH → Prop) (a' : Act) (w' : World) : Prop :=
  ∃ E' fr' ah', k fr' ah' ∧ Step base w E w' E' ∧ HeapOk base w' E' ah' (fun b => n ≤ b) ∧ FrOk w' E' fr' a'.tmps ∧ a'.defers = a.defers

theorem put_defers (a : Act) (d : Option Tmp) (v : Value) : (a.put d v).defers = a.defers := by cases d <;> rfl

theorem aRun_seq {Q : Exit → Act → World → Prop} {base id0 : Nat} {k : AFr → AH → Prop} : ∀ (l : List Oper) (i : Nat) (fr : AFr) (ah : AH) (w : World) (E : Env) (a : Act),
    aRun P ops none id0 i l fr ah [] k → (∀ j : Nat, l[j]? = ops[i + j]?) → HeapOk base w E ah (fun b => id0 + i ≤ b) → FrOk w E fr a.tmps →
    (∀ a' w', RunPost base w E a (id0 + i + l.length) k a' w' → Q .normal a' w') → wpOps P ops Q (List.range' i l.length) a w
  | [], i, fr, ah, w, E, a, h, hl, hh, hfr, hQ => by
    simp only [List.length_nil, List.range'_zero, wpOps]
    exact hQ a w ⟨E, fr, ah, h, Step.refl _ _ _, by simpa using hh, hfr, rfl⟩
  | o :: rest, i, fr, ah, w, E, a, h, hl, hh, hfr, hQ => by
    have ho : ops[i]? = some o := by simpa using (hl 0).symm
    simp only [List.length_cons, List.range'_succ]
    rw [wpOps_cons]
    unfold wpOp
    rw [ho]
    dsimp only
    obtain ⟨wt, hk, hw⟩ := aWanted_run hfr h
    have hl' : ∀ j : Nat, rest[j]? = ops[i + 1 + j]? := fun j => by have := hl (j + 1); simp at this; rw [this]; congr 1; omega
    cases wt with
    | true =>
      rw [aIf_iff, if_pos rfl] at hk
      rw [if_pos hw]
      refine .inl (aOp_wp hh (Nat.le_refl _) hfr hk (fun r v w' E' hr hst hh' hv => ?_))
      refine aRun_seq rest (i + 1) _ _ w' E' (a.put o.dst v) hr.2 hl' (hh'.weaken fun b hb => ⟨by omega, by omega⟩) ((hfr.mono hst.ext).put o.dst hv) (fun a' w'' hp => hQ a' w'' ?_)
      obtain ⟨E2, fr2, ah2, q1, q2, q3, q4, q5⟩ := hp
      exact ⟨E2, fr2, ah2, q1, hst.trans q2, q3.weaken fun b hb => by simp at hb; omega, q4, by rw [q5, put_defers]⟩
    | false =>
      rw [aIf_iff, if_neg (by simp)] at hk
      rw [if_neg (by rw [hw]; simp)]
      refine aRun_seq rest (i + 1) _ _ w E (a.put o.dst undef) hk hl' (hh.weaken fun b hb => by omega) (hfr.put o.dst (.p rfl)) (fun a' w'' hp => hQ a' w'' ?_)
      obtain ⟨E2, fr2, ah2, q1, q2, q3, q4, q5⟩ := hp
      exact ⟨E2, fr2, ah2, q1, q2, q3.weaken fun b hb => by simp at hb; omega, q4, by rw [q5, put_defers]⟩

/-! a region that draws its order -/

def maskOf (acc : List Nat) (o : Oper) : Nat := o.after.toList.foldl (fun s e => if Region.binds .any e = true then s ||| 2 ^ e.on ||| acc.getD e.on 0 else s) 0
def masks : List Oper → List Nat → List Nat
  | [], acc => acc
  | o :: r, acc => masks r (acc ++ [maskOf acc o])

theorem maskOf_bit {acc : List Nat} {o : Oper} {i : Nat} (h : (maskOf acc o).testBit i = true) :
    ∃ e ∈ o.after.toList, Region.binds .any e = true ∧ (e.on = i ∨ (acc.getD e.on 0).testBit i = true) := by
  unfold maskOf at h
  have key : ∀ (l : List Edge) (s : Nat), (l.foldl (fun s e => if Region.binds .any e = true then s ||| 2 ^ e.on ||| acc.getD e.on 0 else s) s).testBit i = true →
      s.testBit i = true ∨ ∃ e ∈ l, Region.binds .any e = true ∧ (e.on = i ∨ (acc.getD e.on 0).testBit i = true) := by
    intro l
    induction l with
    | nil => intro s h; exact .inl h
    | cons e l ih =>
      intro s h
      simp only [List.foldl_cons] at h
      rcases ih _ h with h | ⟨e', he', h⟩
      · split at h
        · rename_i hb
          simp only [Nat.testBit_or, Bool.or_eq_true, Nat.testBit_two_pow, decide_eq_true_eq] at h
          rcases h with (h | h) | h
          · exact .inl h
          · exact .inr ⟨e, by simp, hb, .inl h⟩
          · exact .inr ⟨e, by simp, hb, .inr h⟩
        · exact .inl h
      · exact .inr ⟨e', by simp [he'], h⟩
  rcases key _ _ h with h | h
  · simp at h
  · exact h

theorem masks_get : ∀ (l : List Oper) (acc : List Nat) (j : Nat) (o : Oper), l[j]? = some o → (masks l acc).length = acc.length + l.length ∧ (∀ i, i < acc.length → (masks l acc)[i]? = acc[i]?) ∧
    (masks l acc)[acc.length + j]? = some (maskOf ((masks l acc).take (acc.length + j)) o)
  | [], acc, j, o, h => by simp at h
  | o' :: r, acc, j, o, h => by
    have pre : ∀ (l : List Oper) (acc : List Nat), (masks l acc).length = acc.length + l.length ∧ ∀ i, i < acc.length → (masks l acc)[i]? = acc[i]? := by
      intro l
      induction l with
      | nil => intro acc; exact ⟨by simp [masks], fun i _ => rfl⟩
      | cons o r ih =>
        intro acc
        obtain ⟨h1, h2⟩ := ih (acc ++ [maskOf acc o])
        refine ⟨by simp [masks, h1]; omega, fun i hi => ?_⟩
        simp only [masks]
        rw [h2 i (by simp; omega), List.getElem?_append_left hi]
    obtain ⟨p1, p2⟩ := pre (o' :: r) acc
    refine ⟨p1, p2, ?_⟩
    cases j with
    | zero =>
      simp at h; subst h
      simp only [masks, Nat.add_zero]
      obtain ⟨q1, q2⟩ := pre r (acc ++ [maskOf acc o'])
      rw [q2 acc.length (by simp)]
      have : (masks r (acc ++ [maskOf acc o'])).take acc.length = acc := by
        apply List.ext_getElem?
        intro i
        rw [List.getElem?_take]
        split
        · rename_i hi; rw [q2 i (by simp; omega), List.getElem?_append_left hi]
        · rename_i hi; rw [List.getElem?_eq_none (by omega)]
      rw [this]
      simp
    | succ j =>
      simp at h
      obtain ⟨-, -, h3⟩ := masks_get r (acc ++ [maskOf acc o']) j o h
      simp only [masks]
      rw [List.length_append] at h3
      rw [show acc.length + (j + 1) = acc.length + [maskOf acc o'].length + j by simp; omega]
      exact h3

/-- static facts of a region: its edges go back; what shares a slot is ordered -/
def edgesOk (ops : Array Oper) : Bool := ops.toList.zipIdx.all fun (o, i) => o.after.toList.all fun e => !Region.binds .any e || decide (e.on < i)
def slotsOk (ops : Array Oper) (M : List Nat) : Bool :=
  (List.range ops.size).all fun j => (List.range j).all fun i => (M.getD j 0).testBit i || (match ops[i]?, ops[j]? with | some x, some y => x.apart ops y | _, _ => true)

theorem edgesOk_spec (h : edgesOk ops = true) {i : Nat} {o : Oper} (ho : ops[i]? = some o) {e : Edge} (he : e ∈ o.after.toList) (hb : Region.binds .any e = true) : e.on < i := by
  unfold edgesOk at h
  rw [List.all_eq_true] at h
  have hm : (o, i) ∈ ops.toList.zipIdx := by
    rw [List.mem_iff_getElem?]
    exact ⟨i, by simp [List.getElem?_zipIdx, ho]⟩
  have h1 := h (o, i) hm
  rw [List.all_eq_true] at h1
  have h2 := h1 e he
  simpa [hb] using h2
theorem slotsOk_spec {M} (h : slotsOk ops M = true) {i j : Nat} {x y : Oper} (hx : ops[i]? = some x) (hy : ops[j]? = some y) (hij : i < j) : (M.getD j 0).testBit i = true ∨ x.apart ops y = true := by
  unfold slotsOk at h
  rw [List.all_eq_true] at h
  have hj : j < ops.size := (Array.getElem?_eq_some_iff.1 hy).1
  have h1 := h j (by simpa using hj)
  rw [List.all_eq_true] at h1
  have h2 := h1 i (by simpa using hij)
  rw [hx, hy] at h2
  simpa using h2

end
end Go.Fw
end

section
namespace Go.Fw
set_option linter.unusedSimpArgs false
set_option linter.unusedVariables false
section
variable {P : Program} {ops : Array Oper} {id0 : Nat} {M : List Nat}

def AgreeS (fr fr' : AFr) (ts : List Tmp) : Prop := ∀ t ∈ ts, fget fr' t = fget fr t

/-- what the run of one operation needs, wherever it is met -/
def StepOk (P : Program) (ops : Array Oper) (id0 j : Nat) (o : Oper) (fr : AFr) (ah : AH) (r : Res) : Prop :=
  ∀ (fr' : AFr) (ah' : AH), AgreeS fr fr' (o.looksAt ops) → (∀ b ∈ r.rd, ah' b = ah b) →
    aWanted ops fr' o fun wt => if wt = true then aOp P (id0 + j) fr' ah' o.op (fun r' => r' = r) else r = ⟨.p undef, [], []⟩

theorem aWanted_loc {fr : AFr} {o : Oper} {k : Bool → Prop} (h : aWanted ops fr o k) : ∃ wt, k wt ∧ ∀ fr' : AFr, AgreeS fr fr' (o.looksAt ops) → ∀ k' : Bool → Prop, k' wt → aWanted ops fr' o k' := by
  unfold aWanted at h ⊢
  split at h
  · rename_i hg; exact ⟨true, h, fun fr' _ k' hk => hk⟩
  · rename_i j want hg
    obtain ⟨d, hd, h⟩ := withO_iff.1 h
    obtain ⟨x, hx, h⟩ := withO_iff.1 h
    have hag : ∀ fr' : AFr, AgreeS fr fr' (o.looksAt ops) → fget fr' d = some x := fun fr' hag => by
      rw [hag d (by unfold Oper.looksAt; rw [hg]; dsimp only; rw [hd]; simp), hx]
    split at h
    · exact ⟨_, h, fun fr' ha k' hk => withO_iff.2 ⟨d, hd, withO_iff.2 ⟨_, hag fr' ha, hk⟩⟩⟩
    · rename_i u hu
      refine ⟨_, h, fun fr' ha k' hk => ?_⟩
      refine withO_iff.2 ⟨d, hd, withO_iff.2 ⟨_, hag fr' ha, ?_⟩⟩
      split
      · rename_i t e; cases e; exact absurd rfl (hu t)
      · exact hk
      · rename_i h1 h2; exact absurd rfl (h2 u)
    · exact h.elim

theorem looks_agree {fr fr' : AFr} {o : Oper} (h : AgreeS fr fr' (o.looksAt ops)) : Agree fr fr' o.op.operands.toList := by
  intro t ht
  refine h t ?_
  unfold Oper.looksAt
  simp only [List.mem_append, List.mem_filterMap]
  exact .inl ⟨_, ht, rfl⟩

def ids (r : Res) : List Nat := r.wr.map (·.1)

theorem aRun_rec {k : AFr → AH → Prop} : ∀ (l : List Oper) (i : Nat) (fr : AFr) (ah : AH) (fs : List Foot), aRun P ops (some M) id0 i l fr ah fs k →
    ∃ (FR : Nat → AFr) (AHs : Nat → AH) (R : Nat → Res), FR i = fr ∧ AHs i = ah ∧ k (FR (i + l.length)) (AHs (i + l.length)) ∧
      (∀ (j : Nat) (o : Oper), l[j]? = some o → StepOk P ops id0 (i + j) o (FR (i + j)) (AHs (i + j)) (R (i + j)) ∧ FR (i + j + 1) = fput (FR (i + j)) o.dst (R (i + j)).v ∧ AHs (i + j + 1) = upds (AHs (i + j)) (R (i + j)).wr ∧
        (∀ f ∈ fs, apartF M (i + j) (R (i + j)).rd (ids (R (i + j))) f) ∧
        (∀ j' < j, apartF M (i + j) (R (i + j)).rd (ids (R (i + j))) ⟨i + j', (R (i + j')).rd, ids (R (i + j'))⟩))
  | [], i, fr, ah, fs, h => ⟨fun _ => fr, fun _ => ah, fun _ => ⟨.p undef, [], []⟩, rfl, rfl, h, fun j o h => by simp at h⟩
  | o :: l, i, fr, ah, fs, h => by
    obtain ⟨wt, hk, hloc⟩ := aWanted_loc h
    -- the first step's result, and the rest
    have main : ∃ (r : Res) (fs' : List Foot), StepOk P ops id0 i o fr ah r ∧ (∀ f ∈ fs, apartF M i r.rd (ids r) f) ∧ (∀ f ∈ fs, f ∈ fs') ∧
        ((r.rd = [] ∧ ids r = []) ∨ (⟨i, r.rd, ids r⟩ : Foot) ∈ fs') ∧ aRun P ops (some M) id0 (i + 1) l (fput fr o.dst r.v) (upds ah r.wr) fs' k := by
      cases wt with
      | true =>
        rw [aIf_iff, if_pos rfl] at hk
        obtain ⟨r, ⟨hc, hrest⟩, hop⟩ := aOp_loc hk
        refine ⟨r, _, fun fr' ah' ha hb => hloc fr' ha _ (by rw [if_pos rfl]; exact hop fr' ah' (looks_agree ha) hb), hc, fun f hf => ?_, ?_, hrest⟩
        · unfold addFoot; dsimp only; split
          · exact hf
          · exact List.mem_cons_of_mem _ hf
        · unfold addFoot; dsimp only
          split
          · rename_i he
            simp only [Bool.and_eq_true, List.isEmpty_iff] at he
            exact .inl he
          · exact .inr (by simp [ids])
      | false =>
        rw [aIf_iff, if_neg (by simp)] at hk
        refine ⟨⟨.p undef, [], []⟩, fs, fun fr' ah' ha hb => hloc fr' ha _ (by rw [if_neg (by simp)]), fun f _ => .inr ⟨fun b _ => ⟨by simp, by simp [ids]⟩, fun b _ => by simp [ids]⟩, fun f hf => hf, .inl ⟨rfl, rfl⟩, hk⟩
    obtain ⟨r, fs', hst, hcf, hsub, hin, hrest⟩ := main
    obtain ⟨FR, AHs, R, h1, h2, h3, h4⟩ := aRun_rec l (i + 1) _ _ fs' hrest
    refine ⟨fun m => if m = i then fr else FR m, fun m => if m = i then ah else AHs m, fun m => if m = i then r else R m, by simp, by simp, ?_, fun j o' hj => ?_⟩
    · have e : i + (o :: l).length = i + 1 + l.length := by simp; omega
      have ne : ¬ (i + 1 + l.length = i) := by omega
      rw [e]; simp only [if_neg ne]
      exact h3
    · cases j with
      | zero =>
        simp at hj; subst hj
        have ne : ¬ (i + 1 = i) := by omega
        simp only [Nat.add_zero, if_true]
        rw [if_neg ne, if_neg ne]
        exact ⟨hst, h1, h2, hcf, fun j' hj' => by omega⟩
      | succ j =>
        simp at hj
        have e1 : i + (j + 1) = i + 1 + j := by omega
        have ne1 : ¬ (i + 1 + j = i) := by omega
        have ne2 : ¬ (i + 1 + j + 1 = i) := by omega
        obtain ⟨q1, q2, q3, q4, q5⟩ := h4 j o' hj
        rw [e1]
        simp only [if_neg ne1, if_neg ne2]
        refine ⟨q1, q2, q3, fun f hf => q4 f (hsub f hf), fun j' hj' => ?_⟩
        cases j' with
        | zero =>
          simp only [Nat.add_zero, if_true]
          rcases hin with ⟨g1, g2⟩ | hin
          · exact .inr ⟨fun b hb => by simp [g2] at hb, fun b hb => by simp [g1] at hb⟩
          · exact q4 _ hin
        | succ j' =>
          have e2 : i + (j' + 1) = i + 1 + j' := by omega
          have ne3 : ¬ (i + 1 + j' = i) := by omega
          rw [e2]
          simp only [if_neg ne3]
          exact q5 j' (by omega)

/-- the last of the first n that holds, plus one -/
def lastB (q : Nat → Bool) : Nat → Nat
  | 0 => 0
  | n + 1 => if q n = true then n + 1 else lastB q n
theorem lastB_spec (q : Nat → Bool) : ∀ n, lastB q n ≤ n ∧ (∀ i, lastB q n ≤ i → i < n → q i = false) ∧ (0 < lastB q n → q (lastB q n - 1) = true)
  | 0 => ⟨Nat.le_refl _, fun i h1 h2 => by omega, fun h => by simp [lastB] at h⟩
  | n + 1 => by
    obtain ⟨h1, h2, h3⟩ := lastB_spec q n
    simp only [lastB]
    split
    · rename_i hq; exact ⟨Nat.le_refl _, fun i a b => by omega, fun _ => hq⟩
    · rename_i hq
      refine ⟨by omega, fun i a b => ?_, h3⟩
      by_cases e : i = n
      · subst e; simpa using hq
      · exact h2 i a (by omega)

theorem hist_stay {α : Type} {val : Nat → α} {wr : Nat → Bool} {n : Nat} (hs : ∀ i < n, wr i = false → val (i + 1) = val i) {m m' : Nat} (hm : m ≤ m') (hn : m' ≤ n) (hw : ∀ i, m ≤ i → i < m' → wr i = false) : val m' = val m := by
  induction m' with
  | zero => have : m = 0 := by omega
            subst this; rfl
  | succ m' ih =>
    by_cases e : m = m' + 1
    · subst e; rfl
    · rw [hs m' (by omega) (hw m' (by omega) (by omega))]
      exact ih (by omega) (by omega) (fun i a b => hw i a (by omega))

theorem hist_read {α : Type} {val : Nat → α} {wr L : Nat → Bool} {n j : Nat} (hs : ∀ i < n, wr i = false → val (i + 1) = val i) (hj : j ≤ n)
    (h1 : ∀ i < n, L i = true → wr i = true → i < j) (h2 : ∀ i < j, wr i = true → L i = true) : val (lastB (fun i => L i && wr i) n) = val j := by
  obtain ⟨a, b, c⟩ := lastB_spec (fun i => L i && wr i) n
  have hle : lastB (fun i => L i && wr i) n ≤ j := by
    rcases Nat.eq_zero_or_pos (lastB (fun i => L i && wr i) n) with e | e
    · omega
    · have := c e
      simp only [Bool.and_eq_true] at this
      have := h1 _ (by omega) this.1 this.2
      omega
  refine (hist_stay hs hle hj (fun i q1 q2 => ?_)).symm
  have hb := b i q1 (by omega)
  cases hw : wr i with
  | false => rfl
  | true => simp [hw, h2 i q2 hw] at hb

theorem lastB_congr {q q' : Nat → Bool} {n : Nat} (h : ∀ i < n, q i = q' i) : lastB q n = lastB q' n := by
  induction n with
  | zero => rfl
  | succ n ih => simp only [lastB, h n (by omega), ih (fun i hi => h i (by omega))]
theorem lastB_eq {q : Nat → Bool} {n j : Nat} (hj : j < n) (hq : q j = true) (hn : ∀ i, j < i → i < n → q i = false) : lastB q n = j + 1 := by
  obtain ⟨a, b, c⟩ := lastB_spec q n
  rcases Nat.lt_trichotomy (lastB q n) (j + 1) with h | h | h
  · have := b j (by omega) hj; rw [hq] at this; cases this
  · exact h
  · have h1 := c (by omega)
    have h2 := hn (lastB q n - 1) (by omega) (by omega)
    rw [h1] at h2; cases h2

theorem upds_not {ah : AH} : ∀ {l : List (Nat × Option Blk)} {b : Nat}, b ∉ l.map (·.1) → upds ah l b = ah b
  | [], b, _ => rfl
  | (c, k) :: r, b, h => by
    simp at h
    simp only [upds]
    rw [upds_not (by simpa using h.2), upd_ne h.1]
theorem upds_in : ∀ {l : List (Nat × Option Blk)} {ah ah' : AH} {b : Nat}, b ∈ l.map (·.1) → upds ah l b = upds ah' l b
  | [], ah, ah', b, h => by simp at h
  | (c, k) :: r, ah, ah', b, h => by
    simp only [upds]
    by_cases hb : b ∈ r.map (·.1)
    · exact upds_in hb
    · rw [upds_not hb, upds_not hb]
      simp at h hb
      rcases h with h | h
      · rw [upd_eq h, upd_eq h]
      · exact absurd h.choose_spec (hb _)
end
end Go.Fw
end

section
namespace Go.Fw
set_option linter.unusedSimpArgs false
set_option linter.unusedVariables false
section
variable {P : Program} {ops : Array Oper} {id0 : Nat}

def isL (listed : Array Bool) (i : Nat) : Bool := listed.getD i false
def wrS (ops : Array Oper) (t : Tmp) (i : Nat) : Bool := match ops[i]? with | some o => decide (o.dst = some t) | none => false
def wrA (R : Nat → Res) (b : Nat) (i : Nat) : Bool := decide (b ∈ ids (R i))

structure LexRec (P : Program) (ops : Array Oper) (id0 : Nat) (M : List Nat) (FR : Nat → AFr) (AHs : Nat → AH) (R : Nat → Res) : Prop where
  step : ∀ (j : Nat) (o : Oper), ops[j]? = some o → StepOk P ops id0 j o (FR j) (AHs j) (R j)
  fr : ∀ (j : Nat) (o : Oper), ops[j]? = some o → FR (j + 1) = fput (FR j) o.dst (R j).v
  ah : ∀ (j : Nat) (o : Oper), ops[j]? = some o → AHs (j + 1) = upds (AHs j) (R j).wr
  foot : ∀ (j : Nat) (o : Oper), ops[j]? = some o → ∀ j' < j, apartF M j (R j).rd (ids (R j)) ⟨j', (R j').rd, ids (R j')⟩

def Pre (ops : Array Oper) (listed : Array Bool) (j : Nat) : Prop := ∀ o, ops[j]? = some o → ∀ e ∈ o.after.toList, Region.binds .any e = true → isL listed e.on = true

theorem mask_closed {listed : Array Bool} (hedge : edgesOk ops = true) (hcl : ∀ j, isL listed j = true → Pre ops listed j) {i : Nat} : ∀ j, Pre ops listed j → ((masks ops.toList []).getD j 0).testBit i = true → isL listed i = true := by
  intro j
  induction j using Nat.strongRecOn with
  | _ j ih =>
    intro hp hb
    cases ho : ops[j]? with
    | none =>
      have : (masks ops.toList []).getD j 0 = 0 := by
        have hlen : (masks ops.toList []).length ≤ ops.size := by
          cases hs : ops.toList with
          | nil => simp [masks]
          | cons o r =>
            have := (masks_get (o :: r) [] 0 o rfl).1
            rw [this, ← hs]; simp
        have hj : ops.size ≤ j := by simpa using ho
        simp [List.getD, List.getElem?_eq_none (show (masks ops.toList []).length ≤ j by omega)]
      rw [this] at hb; simp at hb
    | some o =>
      obtain ⟨h1, -, h3⟩ := masks_get ops.toList [] j o (by simpa using ho)
      simp only [List.length_nil, Nat.zero_add] at h3
      have e : (masks ops.toList []).getD j 0 = maskOf ((masks ops.toList []).take j) o := by simp [List.getD, h3]
      rw [e] at hb
      obtain ⟨ed, hed, hbd, hor⟩ := maskOf_bit hb
      have hl := hp o ho ed hed hbd
      rcases hor with rfl | hor
      · exact hl
      · have hlt := edgesOk_spec hedge ho hed hbd
        refine ih ed.on hlt (hcl ed.on hl) ?_
        have : ((masks ops.toList []).take j).getD ed.on 0 = (masks ops.toList []).getD ed.on 0 := by
          simp [List.getD, List.getElem?_take, hlt]
        rwa [this] at hor

structure Inv (P : Program) (ops : Array Oper) (id0 base : Nat) (FR : Nat → AFr) (AHs : Nat → AH) (R : Nat → Res) (w0 : World) (E0 : Env) (a0 : Act) (listed : Array Bool) (a : Act) (w : World) : Prop where
  size : listed.size = ops.size
  closed : ∀ j, isL listed j = true → Pre ops listed j
  body : ∃ E frL ahL, Step base w0 E0 w E ∧ HeapOk base w E ahL (fun b => id0 ≤ b ∧ ∀ i, isL listed i = true → b ≠ id0 + i) ∧ FrOk w E frL a.tmps ∧ frL.length = (FR 0).length ∧
    (∀ t, fget frL t = fget (FR (lastB (fun i => isL listed i && wrS ops t i) ops.size)) t) ∧
    (∀ b, ahL b = AHs (lastB (fun i => isL listed i && wrA R b i) ops.size) b) ∧ a.defers = a0.defers

theorem slot_stay {M FR AHs R} (h : LexRec P ops id0 M FR AHs R) (t : Tmp) : ∀ i < ops.size, wrS ops t i = false → fget (FR (i + 1)) t = fget (FR i) t := by
  intro i hi hw
  have ho : ops[i]? = some ops[i] := by simp [hi]
  rw [h.fr i _ ho]
  unfold wrS at hw
  rw [ho] at hw
  cases hd : ops[i].dst with
  | none => rfl
  | some d =>
    have : t ≠ d := fun e => by dsimp only at hw; rw [hd, e] at hw; simp at hw
    simp [fput, fget_fset, this]
theorem ah_stay {M FR AHs R} (h : LexRec P ops id0 M FR AHs R) (b : Nat) : ∀ i < ops.size, wrA R b i = false → AHs (i + 1) b = AHs i b := by
  intro i hi hw
  have ho : ops[i]? = some ops[i] := by simp [hi]
  rw [h.ah i _ ho]
  exact upds_not (show b ∉ ids (R i) from by simpa [wrA] using hw)

theorem fr_length {M FR AHs R} (h : LexRec P ops id0 M FR AHs R) : ∀ m, m ≤ ops.size → (FR m).length = (FR 0).length
  | 0, _ => rfl
  | m + 1, hm => by
    have ho : ops[m]? = some ops[m] := by simp [show m < ops.size by omega]
    rw [h.fr m _ ho, ← fr_length h m (by omega)]
    cases ops[m].dst <;> simp [fput, length_fset]

theorem isL_set {listed : Array Bool} {i j : Nat} (hj : j < listed.size) : isL (listed.setIfInBounds j true) i = (isL listed i || decide (i = j)) := by
  unfold isL
  simp only [Array.getD_eq_getD_getElem?, Array.getElem?_setIfInBounds]
  by_cases e : j = i
  · subst e; simp [hj]
  · have : ¬ i = j := fun h => e h.symm
    simp [e, this]

theorem inv_step (hedge : edgesOk ops = true) (hslot : slotsOk ops (masks ops.toList []) = true) {base : Nat} {FR : Nat → AFr} {AHs : Nat → AH} {R : Nat → Res} (hL : LexRec P ops id0 (masks ops.toList []) FR AHs R)
    {w0 : World} {E0 : Env} {a0 : Act} {listed : Array Bool} {a : Act} {w : World} (inv : Inv P ops id0 base FR AHs R w0 E0 a0 listed a w) {j : Nat} (hj : j ∈ Region.ready .any ops listed) {Q : Exit → Act → World → Prop} {K : Act → World → Prop}
    (hK : ∀ a' w', Inv P ops id0 base FR AHs R w0 E0 a0 (listed.setIfInBounds j true) a' w' → K a' w') : wpOp P ops Q j K a w := by
  obtain ⟨hun, o, ho, hall⟩ := mem_ready.1 hj
  have hjn : j < ops.size := (Array.getElem?_eq_some_iff.1 ho).1
  have hjl : j < listed.size := by rw [inv.size]; exact hjn
  have hnl : isL listed j = false := by unfold isL; simpa [Array.getD_eq_getD_getElem?, hjl] using hun
  have hpre : Pre ops listed j := fun o' ho' e he hb => by
    rw [ho] at ho'; cases ho'
    have := hall e (by simpa using he) hb
    unfold isL; exact this
  obtain ⟨E, frL, ahL, hst, hh, hfr, hlen, hfrv, hahv, hdef⟩ := inv.body
  have hM : ∀ i, ((masks ops.toList []).getD j 0).testBit i = true → isL listed i = true := fun i => mask_closed hedge inv.closed j hpre
  have hM' : ∀ i, isL listed i = true → ((masks ops.toList []).getD i 0).testBit j = true → False := fun i hi hb => by
    have := mask_closed hedge inv.closed i (inv.closed i hi) hb
    rw [hnl] at this; cases this
  have hne : ∀ i, isL listed i = true → i ≠ j := fun i hi e => by rw [e, hnl] at hi; cases hi
  have hLn : ∀ i, isL listed i = true → i < ops.size := fun i hi => by
    rcases Nat.lt_or_ge i ops.size with h | h
    · exact h
    · unfold isL at hi; simp [Array.getD_eq_getD_getElem?, Array.getElem?_eq_none (show listed.size ≤ i by rw [inv.size]; exact h)] at hi
  -- a slot that op j looks at or writes: its writers among the listed are those ahead of j
  have slotord : ∀ t, (t ∈ o.looksAt ops ∨ o.dst = some t) → (∀ i < ops.size, isL listed i = true → wrS ops t i = true → i < j) ∧ (∀ i < j, wrS ops t i = true → isL listed i = true) := by
    intro t ht
    have wspec : ∀ i, wrS ops t i = true → ∃ oi, ops[i]? = some oi ∧ oi.dst = some t := fun i hi => by
      unfold wrS at hi
      split at hi
      · rename_i oi hoi; exact ⟨oi, hoi, by simpa using hi⟩
      · cases hi
    refine ⟨fun i hi hl hw => ?_, fun i hi hw => ?_⟩
    · obtain ⟨oi, hoi, hd⟩ := wspec i hw
      rcases Nat.lt_trichotomy i j with h | h | h
      · exact h
      · exact absurd h (hne i hl)
      · rcases slotsOk_spec hslot ho hoi h with hb | hap
        · exact (hM' i hl hb).elim
        · obtain ⟨q1, q2, q3⟩ := Oper.apart_spec hap
          rcases ht with ht | ht
          · exact absurd ht (q3 t hd)
          · exact absurd hd (q2 t ht)
    · obtain ⟨oi, hoi, hd⟩ := wspec i hw
      rcases slotsOk_spec hslot hoi ho hi with hb | hap
      · exact hM i hb
      · obtain ⟨q1, q2, q3⟩ := Oper.apart_spec hap
        rcases ht with ht | ht
        · exact absurd ht (q1 t hd)
        · exact absurd ht (q2 t hd)
  have idord : ∀ b, (b ∈ (R j).rd ∨ b ∈ ids (R j)) → (∀ i < ops.size, isL listed i = true → wrA R b i = true → i < j) ∧ (∀ i < j, wrA R b i = true → isL listed i = true) := by
    intro b hb
    refine ⟨fun i hi hl hw => ?_, fun i hi hw => ?_⟩
    · have hw' : b ∈ ids (R i) := by simpa [wrA] using hw
      rcases Nat.lt_trichotomy i j with h | h | h
      · exact h
      · exact absurd h (hne i hl)
      · have hoi : ops[i]? = some ops[i] := by simp [hi]
        rcases hL.foot i _ hoi j h with hbit | ⟨q1, q2⟩
        · exact (hM' i hl hbit).elim
        · rcases hb with hb | hb
          · exact absurd hw' (q2 b hb)
          · exact absurd hw' (q1 b hb).2
    · have hw' : b ∈ ids (R i) := by simpa [wrA] using hw
      rcases hL.foot j o ho i hi with hbit | ⟨q1, q2⟩
      · exact hM i hbit
      · rcases hb with hb | hb
        · exact absurd hb (q1 b hw').1
        · exact absurd hb (q1 b hw').2
  have hag : AgreeS (FR j) frL (o.looksAt ops) := fun t ht => by
    obtain ⟨q1, q2⟩ := slotord t (.inl ht)
    rw [hfrv t]
    exact hist_read (val := fun m => fget (FR m) t) (slot_stay hL t) (by omega) q1 q2
  have haga : ∀ b ∈ (R j).rd, ahL b = AHs j b := fun b hb => by
    obtain ⟨q1, q2⟩ := idord b (.inl hb)
    rw [hahv b]
    exact hist_read (val := fun m => AHs m b) (ah_stay hL b) (by omega) q1 q2
  -- the new listing
  have hset : ∀ i, isL (listed.setIfInBounds j true) i = (isL listed i || decide (i = j)) := fun i => isL_set hjl
  have finish : ∀ (E' : Env) (v : Value) (w' : World), Step base w E w' E' → HeapOk base w' E' (upds ahL (R j).wr) (fun b => (id0 ≤ b ∧ ∀ i, isL listed i = true → b ≠ id0 + i) ∧ b ≠ id0 + j) → Rep w' E' (R j).v v →
      K (a.put o.dst v) w' := by
    intro E' v w' hs' hh' hv
    refine hK _ _ ⟨by simpa using inv.size, fun i hi => ?_, E', fput frL o.dst (R j).v, upds ahL (R j).wr, hst.trans hs', hh'.weaken (fun b hb => ⟨⟨hb.1, fun i hi => hb.2 i (by rw [hset, hi]; rfl)⟩, hb.2 j (by rw [hset]; simp)⟩), (hfr.mono hs'.ext).put o.dst hv, ?_, fun t => ?_, fun b => ?_, by rw [put_defers]; exact hdef⟩
    · intro o' ho' e he hb
      rw [hset]
      rw [hset] at hi
      simp only [Bool.or_eq_true, decide_eq_true_eq] at hi
      rcases hi with hi | rfl
      · rw [inv.closed i hi o' ho' e he hb]; rfl
      · rw [hpre o' ho' e he hb]; rfl
    · rw [← hlen]; cases o.dst <;> simp [fput, length_fset]
    · by_cases e : o.dst = some t
      · obtain ⟨q1, q2⟩ := slotord t (.inr e)
        have hlast : lastB (fun i => isL (listed.setIfInBounds j true) i && wrS ops t i) ops.size = j + 1 := by
          refine lastB_eq hjn ?_ (fun i h1 h2 => ?_)
          · rw [hset]; simp [wrS, ho, e]
          · rw [hset]
            cases hw : wrS ops t i with
            | false => simp
            | true =>
              cases hl : isL listed i with
              | false => simp; omega
              | true => have := q1 i h2 hl hw; omega
        rw [hlast, hL.fr j o ho, e]
        simp only [fput, fget_fset]
        rw [hlen, fr_length hL j (by omega)]
        split
        · rfl
        · rename_i hc
          have : ¬ (t < (FR 0).length) := fun h => hc (by simp [h])
          have g1 : fget frL t = none := by cases hg : fget frL t with | none => rfl | some x => have := fget_lt hg; omega
          have g2 : fget (FR j) t = none := by cases hg : fget (FR j) t with | none => rfl | some x => have := fget_lt hg; rw [fr_length hL j (by omega)] at this; omega
          rw [g1, g2]
      · have hwj : wrS ops t j = false := by simp [wrS, ho, e]
        rw [lastB_congr (q' := fun i => isL listed i && wrS ops t i) (fun i hi => by
          rw [hset]
          by_cases ei : i = j
          · subst ei; simp [hwj]
          · simp [ei])]
        rw [← hfrv t]
        cases hd : o.dst with
        | none => rfl
        | some d =>
          have : t ≠ d := fun h => e (by rw [hd, h])
          simp [fput, fget_fset, this]
    · by_cases e : b ∈ ids (R j)
      · obtain ⟨q1, q2⟩ := idord b (.inr e)
        have hlast : lastB (fun i => isL (listed.setIfInBounds j true) i && wrA R b i) ops.size = j + 1 := by
          refine lastB_eq hjn ?_ (fun i h1 h2 => ?_)
          · rw [hset]; simp [wrA, e]
          · rw [hset]
            cases hw : wrA R b i with
            | false => simp
            | true =>
              cases hl : isL listed i with
              | false => simp; omega
              | true => have := q1 i h2 hl hw; omega
        rw [hlast, hL.ah j o ho]
        exact upds_in e
      · have hwj : wrA R b j = false := by simp [wrA, e]
        rw [lastB_congr (q' := fun i => isL listed i && wrA R b i) (fun i hi => by
          rw [hset]
          by_cases ei : i = j
          · subst ei; simp [hwj]
          · simp [ei])]
        rw [upds_not e]
        exact hahv b
  have hs := hL.step j o ho frL ahL hag haga
  obtain ⟨wt, hk, hw⟩ := aWanted_run hfr hs
  unfold wpOp
  rw [ho]
  dsimp only
  cases wt with
  | true =>
    rw [if_pos rfl] at hk
    rw [if_pos hw]
    refine .inl (aOp_wp hh ⟨by omega, fun i hi e => hne i hi (by omega)⟩ hfr hk (fun r v w' E' hr hs' hh' hv => ?_))
    subst hr
    exact finish E' v w' hs' hh' hv
  | false =>
    rw [if_neg (by simp)] at hk
    rw [if_neg (by rw [hw]; simp)]
    refine finish E undef w (Step.refl _ _ _) ?_ (by rw [hk]; exact .p rfl)
    rw [hk]
    exact hh.weaken fun b hb => hb.1

/-- A REGION THAT DRAWS ITS ORDER: the order of the text stands for all -/
theorem aRun_draw (hedge : edgesOk ops = true) (hslot : slotsOk ops (masks ops.toList []) = true) {base : Nat} {k : AFr → AH → Prop} {fr : AFr} {ah : AH} (h : aRun P ops (some (masks ops.toList [])) id0 0 ops.toList fr ah [] k)
    {w : World} {E : Env} {a : Act} (hh : HeapOk base w E ah (fun b => id0 ≤ b)) (hfr : FrOk w E fr a.tmps) {Q : Exit → Act → World → Prop}
    (hQ : ∀ a' w', RunPost base w E a (id0 + ops.size) k a' w' → Q .normal a' w') : wpAny P .any ops Q ops.size (Array.replicate ops.size false) a w := by
  obtain ⟨FR, AHs, R, h1, h2, h3, h4⟩ := aRun_rec ops.toList 0 fr ah [] h
  simp only [Nat.zero_add] at h3 h4
  have hL : LexRec P ops id0 (masks ops.toList []) FR AHs R :=
    ⟨fun j o ho => (h4 j o (by simpa using ho)).1, fun j o ho => (h4 j o (by simpa using ho)).2.1, fun j o ho => (h4 j o (by simpa using ho)).2.2.1, fun j o ho => (h4 j o (by simpa using ho)).2.2.2.2⟩
  have hlen : ops.toList.length = ops.size := by simp
  rw [hlen] at h3
  have main : ∀ (fuel : Nat) (listed : Array Bool) (a' : Act) (w' : World), Inv P ops id0 base FR AHs R w E a listed a' w' → (List.range ops.size).countP (fun i => !isL listed i) ≤ fuel → wpAny P .any ops Q fuel listed a' w' := by
    intro fuel
    induction fuel with
    | zero =>
      intro listed a' w' inv hc
      have hall : ∀ i, i < ops.size → isL listed i = true := fun i hi => by
        have := List.countP_eq_zero.1 (Nat.le_zero.1 hc) i (by simpa using hi)
        simpa using this
      have hr : Region.ready .any ops listed = [] := by
        cases hr : Region.ready .any ops listed with
        | nil => rfl
        | cons x xs =>
          have hx : x ∈ Region.ready .any ops listed := by rw [hr]; simp
          obtain ⟨hun, o, ho, -⟩ := mem_ready.1 hx
          have hxn := (Array.getElem?_eq_some_iff.1 ho).1
          have := hall x hxn
          unfold isL at this
          have hxl : x < listed.size := by rw [inv.size]; exact hxn
          simp [Array.getD_eq_getD_getElem?, hxl] at this hun
          rw [this] at hun; cases hun
      refine ⟨hr, hQ a' w' ?_⟩
      obtain ⟨E', frL, ahL, q1, q2, q3, q4, q5, q6, q7⟩ := inv.body
      have e1 : ∀ t, fget frL t = fget (FR ops.size) t := fun t => by
        rw [q5 t]
        exact hist_read (val := fun m => fget (FR m) t) (slot_stay hL t) (Nat.le_refl _) (fun i hi _ _ => hi) (fun i hi _ => hall i hi)
      have e2 : ahL = AHs ops.size := by
        funext b
        rw [q6 b]
        exact hist_read (val := fun m => AHs m b) (ah_stay hL b) (Nat.le_refl _) (fun i hi _ _ => hi) (fun i hi _ => hall i hi)
      refine ⟨E', FR ops.size, AHs ops.size, h3, q1, ?_, ⟨by rw [fr_length hL _ (Nat.le_refl _), ← q4]; exact q3.size, fun i x hx => q3.get i x (by rw [e1]; exact hx)⟩, q7⟩
      rw [← e2]
      exact q2.weaken fun b hb => ⟨by omega, fun i hi => by
        have : i < ops.size := by
          rcases Nat.lt_or_ge i ops.size with h | h
          · exact h
          · unfold isL at hi; simp [Array.getD_eq_getD_getElem?, Array.getElem?_eq_none (show listed.size ≤ i by rw [inv.size]; exact h)] at hi
        omega⟩
    | succ fuel ih =>
      intro listed a' w' inv hc
      refine ⟨fun hr => ?_, fun j hj => ?_⟩
      · -- nothing is ready: all are listed
        have hall : ∀ i, i < ops.size → isL listed i = true := by
          intro i
          induction i using Nat.strongRecOn with
          | _ i ihi =>
            intro hi
            cases hl : isL listed i with
            | true => rfl
            | false =>
              have ho : ops[i]? = some ops[i] := by simp [hi]
              have hil : i < listed.size := by rw [inv.size]; exact hi
              have : i ∈ Region.ready .any ops listed := mem_ready.2 ⟨by unfold isL at hl; simpa [Array.getD_eq_getD_getElem?, hil] using hl, ops[i], ho, fun e he hb => by
                have hlt := edgesOk_spec hedge ho (by simpa using he) hb
                exact ihi e.on hlt (by omega)⟩
              rw [hr] at this; cases this
        have hz : (List.range ops.size).countP (fun i => !isL listed i) ≤ 0 := by
          rw [Nat.le_zero, List.countP_eq_zero]
          intro i hi
          simp [hall i (by simpa using hi)]
        -- as in the case of no fuel
        have := hQ a' w' ?_
        · exact this
        · obtain ⟨E', frL, ahL, q1, q2, q3, q4, q5, q6, q7⟩ := inv.body
          have e1 : ∀ t, fget frL t = fget (FR ops.size) t := fun t => by
            rw [q5 t]
            exact hist_read (val := fun m => fget (FR m) t) (slot_stay hL t) (Nat.le_refl _) (fun i hi _ _ => hi) (fun i hi _ => hall i hi)
          have e2 : ahL = AHs ops.size := by
            funext b
            rw [q6 b]
            exact hist_read (val := fun m => AHs m b) (ah_stay hL b) (Nat.le_refl _) (fun i hi _ _ => hi) (fun i hi _ => hall i hi)
          refine ⟨E', FR ops.size, AHs ops.size, h3, q1, ?_, ⟨by rw [fr_length hL _ (Nat.le_refl _), ← q4]; exact q3.size, fun i x hx => q3.get i x (by rw [e1]; exact hx)⟩, q7⟩
          rw [← e2]
          exact q2.weaken fun b hb => ⟨by omega, fun i hi => by
            have : i < ops.size := by
              rcases Nat.lt_or_ge i ops.size with h | h
              · exact h
              · unfold isL at hi; simp [Array.getD_eq_getD_getElem?, Array.getElem?_eq_none (show listed.size ≤ i by rw [inv.size]; exact h)] at hi
            omega⟩
      · refine inv_step hedge hslot hL inv hj (fun a2 w2 inv2 => ih _ a2 w2 inv2 ?_)
        obtain ⟨hun, o, ho, -⟩ := mem_ready.1 hj
        have hjn := (Array.getElem?_eq_some_iff.1 ho).1
        have hjl : j < listed.size := by rw [inv.size]; exact hjn
        have hnl : isL listed j = false := by unfold isL; simpa [Array.getD_eq_getD_getElem?, hjl] using hun
        have : (List.range ops.size).countP (fun i => !isL (listed.setIfInBounds j true) i) < (List.range ops.size).countP (fun i => !isL listed i) := by
          have hsub : ∀ l : List Nat, l.Nodup → l.countP (fun i => !isL (listed.setIfInBounds j true) i) + (if j ∈ l then 1 else 0) = l.countP (fun i => !isL listed i) := by
            intro l
            induction l with
            | nil => intro _; simp
            | cons x l ihl =>
              intro hnd
              obtain ⟨hx, hnd⟩ := List.nodup_cons.1 hnd
              have := ihl hnd
              simp only [List.countP_cons, isL_set hjl]
              by_cases e : x = j
              · subst e
                rw [if_neg hx] at this
                have h' : l.countP (fun i => !(isL listed i || decide (i = x))) = l.countP (fun i => !isL listed i) := by
                  simp only [isL_set hjl] at this; simpa using this
                rw [h']; simp [hnl]
              · have ej : (j ∈ x :: l) ↔ j ∈ l := by simp; intro h; exact absurd h.symm e
                simp only [isL_set hjl] at this
                have hsimp : (isL listed x || decide (x = j)) = isL listed x := by simp [e]
                rw [hsimp]
                by_cases hm : j ∈ l
                · rw [if_pos hm] at this; rw [if_pos (ej.2 hm)]; omega
                · rw [if_neg hm] at this; rw [if_neg (fun h => hm (ej.1 h))]; omega
          have := hsub (List.range ops.size) List.nodup_range
          rw [if_pos (by simpa using hjn)] at this
          omega
        omega
  refine main ops.size _ a w ⟨by simp, fun j hj => ?_, E, fr, ah, Step.refl _ _ _, hh.weaken (fun b hb => hb.1), hfr, by rw [h1], fun t => ?_, fun b => ?_, rfl⟩ ?_
  · unfold isL at hj; simp [Array.getD_eq_getD_getElem?, Array.getElem?_replicate] at hj
    split at hj <;> simp at hj
  · have : lastB (fun i => isL (Array.replicate ops.size false) i && wrS ops t i) ops.size = 0 := by
      have h0 : ∀ n, lastB (fun i => isL (Array.replicate ops.size false) i && wrS ops t i) n = 0 := by
        intro n
        induction n with
        | zero => rfl
        | succ n ih =>
          simp only [lastB]
          rw [if_neg, ih]
          unfold isL; simp [Array.getD_eq_getD_getElem?, Array.getElem?_replicate]
          split <;> simp
      exact h0 _
    rw [this, h1]
  · have : lastB (fun i => isL (Array.replicate ops.size false) i && wrA R b i) ops.size = 0 := by
      have h0 : ∀ n, lastB (fun i => isL (Array.replicate ops.size false) i && wrA R b i) n = 0 := by
        intro n
        induction n with
        | zero => rfl
        | succ n ih =>
          simp only [lastB]
          rw [if_neg, ih]
          unfold isL; simp [Array.getD_eq_getD_getElem?, Array.getElem?_replicate]
          split <;> simp
      exact h0 _
    rw [this, h2]
  · exact Nat.le_trans List.countP_le_length (by simp)
end
end Go.Fw
end

section
namespace Go.Fw
set_option linter.unusedSimpArgs false
set_option linter.unusedVariables false

abbrev AQ := Exit → AFr → AH → Nat → Prop

structure Sim (base : Nat) (w : World) (E : Env) (fr : AFr) (ah : AH) (nx : Nat) (a : Act) : Prop where
  heap : HeapOk base w E ah (fun b => nx ≤ b)
  fr : FrOk w E fr a.tmps
  defers : a.defers = []

def APost (base : Nat) (w : World) (E : Env) (Q : AQ) (e : Exit) (a' : Act) (w' : World) : Prop :=
  ∃ E' fr' ah' nx', Q e fr' ah' nx' ∧ Sim base w' E' fr' ah' nx' a' ∧ Step base w E w' E'

/-- THE CODE, FROM THIS ABSTRACT STATE, COMES TO Q -/
def AW (P : Program) (c : Code) (fr : AFr) (ah : AH) (nx : Nat) (Q : AQ) : Prop :=
  ∀ base w E a, Sim base w E fr ah nx a → c.wp P (APost base w E Q) a w

def AThen (K : AFr → AH → Nat → Prop) (Q : AQ) : AQ
  | .normal, fr, ah, nx => K fr ah nx
  | e, fr, ah, nx => Q e fr ah nx
def AIn (id : Nat) (Q : AQ) : AQ
  | .exit id', fr, ah, nx => if id' = id then Q .normal fr ah nx else Q (.exit id') fr ah nx
  | e, fr, ah, nx => Q e fr ah nx

section
variable {P : Program} {fr : AFr} {ah : AH} {nx : Nat} {Q : AQ}

theorem APost.mono {base w E w1 E1} {Q Q' : AQ} {e a' w'} (hs : Step base w E w1 E1) (hq : ∀ fr ah nx, Q e fr ah nx → Q' e fr ah nx) (h : APost base w1 E1 Q e a' w') : APost base w E Q' e a' w' := by
  obtain ⟨E', fr', ah', nx', h1, h2, h3⟩ := h
  exact ⟨E', fr', ah', nx', hq _ _ _ h1, h2, hs.trans h3⟩

theorem AW.mono {c : Code} {Q' : AQ} (h : AW P c fr ah nx Q) (hq : ∀ e fr ah nx, Q e fr ah nx → Q' e fr ah nx) : AW P c fr ah nx Q' :=
  fun base w E a hs => wp_mono (h base w E a hs) fun e a' w' hp => hp.mono (Step.refl _ _ _) (hq e)

theorem AW_skip (h : Q .normal fr ah nx) : AW P .skip fr ah nx Q := fun base w E a hs => wp_skip ⟨E, fr, ah, nx, h, hs, Step.refl _ _ _⟩
theorem AW_exit {id : Nat} (h : Q (.exit id) fr ah nx) : AW P (.exit id) fr ah nx Q := fun base w E a hs => wp_exit ⟨E, fr, ah, nx, h, hs, Step.refl _ _ _⟩
theorem AW_ret (h : Q .ret fr ah nx) : AW P .ret fr ah nx Q := fun base w E a hs => wp_ret ⟨E, fr, ah, nx, h, hs, Step.refl _ _ _⟩

theorem AW_seq {x y : Code} (h : ∀ K : AFr → AH → Nat → Prop, (∀ fr ah nx, AW P y fr ah nx Q → K fr ah nx) → AW P x fr ah nx (AThen K Q)) : AW P (.seq x y) fr ah nx Q := by
  have h' := h (fun fr ah nx => AW P y fr ah nx Q) (fun _ _ _ h => h)
  intro base w E a hs
  refine wp_seq (wp_mono (h' base w E a hs) fun e a' w' hp => ?_)
  cases e with
  | normal =>
    obtain ⟨E', fr', ah', nx', h1, h2, h3⟩ := hp
    exact wp_mono (h1 base w' E' a' h2) fun e a2 w2 hp2 => hp2.mono h3 (fun _ _ _ h => h)
  | _ => exact hp.mono (Step.refl _ _ _) (fun _ _ _ h => h)

theorem AW_seq' {x y : Code} (h : AW P x fr ah nx (AThen (fun fr ah nx => AW P y fr ah nx Q) Q)) : AW P (.seq x y) fr ah nx Q :=
  AW_seq fun _ hk => h.mono fun e fr ah nx hq => by cases e <;> first | exact hk _ _ _ hq | exact hq

theorem AW_cond {c : Operand} {x y : Code} (t : Bool) (hc : ev fr c = some (.p (.bool t))) (h : if t = true then AW P x fr ah nx Q else AW P y fr ah nx Q) : AW P (.cond c x y) fr ah nx Q := by
  intro base w E a hs
  have hv := (ev_rep hs.fr hc).p_inv
  refine wp_cond hv ?_
  cases t with
  | true => exact h base w E a hs
  | false => exact h base w E a hs

theorem AW_block {id : Nat} {c : Code} (h : AW P c fr ah nx (AIn id Q)) : AW P (.block id c) fr ah nx Q := by
  intro base w E a hs
  refine wp_block (wp_mono (h base w E a hs) fun e a' w' hp => ?_)
  cases e with
  | exit id' =>
    obtain ⟨E', fr', ah', nx', h1, h2, h3⟩ := hp
    simp only [AIn] at h1
    simp only [Exit.inBlock]
    split
    · rename_i e; rw [if_pos e] at h1; exact ⟨E', fr', ah', nx', h1, h2, h3⟩
    · rename_i e; rw [if_neg e] at h1; exact ⟨E', fr', ah', nx', h1, h2, h3⟩
  | _ => exact hp.mono (Step.refl _ _ _) (fun _ _ _ h => h)

/-- a region in the order of the text -/
theorem AW_region {id : Nat} {ops : Array Oper} (h : aRun P ops none nx 0 ops.toList fr ah [] (fun fr' ah' => Q .normal fr' ah' (nx + ops.size))) : AW P (.region id ops false) fr ah nx Q := by
  intro base w E a hs
  refine wp_region ?_
  have := aRun_seq (Q := APost base w E Q) (base := base) (id0 := nx) ops.toList 0 fr ah w E a h (by simp) (hs.heap.weaken fun b hb => by simpa using hb) hs.fr (fun a' w' hp => ?_)
  · simpa [List.range_eq_range'] using this
  · obtain ⟨E', fr', ah', h1, h2, h3, h4, h5⟩ := hp
    exact ⟨E', fr', ah', nx + ops.size, h1, ⟨h3.weaken fun b hb => by simpa using hb, h4, by rw [h5]; exact hs.defers⟩, h2⟩

/-- a region that draws its order -/
theorem AW_draw {id : Nat} {ops : Array Oper} (hm : P.follows .mixedOrders = true) (M : List Nat) (hM : masks ops.toList [] = M) (he : edgesOk ops = true) (hsl : slotsOk ops M = true)
    (h : aRun P ops (some M) nx 0 ops.toList fr ah [] (fun fr' ah' => Q .normal fr' ah' (nx + ops.size))) : AW P (.region id ops true) fr ah nx Q := by
  subst hM
  intro base w E a hs
  refine wp_region_any hm ?_
  obtain ⟨d1, d2⟩ := draw_ok hs.heap (w.drawn + 1)
  refine aRun_draw he hsl h d2 (hs.fr.mono d1.ext) (fun a' w' hp => ?_)
  obtain ⟨E', fr', ah', h1, h2, h3, h4, h5⟩ := hp
  exact ⟨E', fr', ah', nx + ops.size, h1, ⟨h3, h4, by rw [h5]; exact hs.defers⟩, d1.trans h2⟩

/-- a frame that knows less -/
def FrLe : AFr → AFr → Prop
  | _, [] => True
  | [], _ :: _ => False
  | _ :: xs, none :: ys => FrLe xs ys
  | x :: xs, some a :: ys => x = some a ∧ FrLe xs ys
theorem FrLe.length : ∀ {fr fr0 : AFr}, FrLe fr fr0 → fr0.length ≤ fr.length
  | _, [], _ => by simp
  | [], _ :: _, h => h.elim
  | _ :: xs, none :: ys, h => by have := FrLe.length (fr := xs) (fr0 := ys) h; simp; omega
  | x :: xs, some a :: ys, h => by have := FrLe.length (fr := xs) (fr0 := ys) h.2; simp; omega
theorem FrLe.get : ∀ {fr fr0 : AFr} {i : Nat} {a : AV}, FrLe fr fr0 → fget fr0 i = some a → fget fr i = some a
  | _, [], i, a, _, h => by simp [fget] at h
  | [], _ :: _, _, _, h, _ => h.elim
  | _ :: xs, none :: ys, 0, a, h, hg => by simp [fget] at hg
  | _ :: xs, none :: ys, i + 1, a, h, hg => FrLe.get (fr := xs) (fr0 := ys) h hg
  | x :: xs, some b :: ys, 0, a, h, hg => by simp [fget] at hg ⊢; rw [h.1, hg]
  | x :: xs, some b :: ys, i + 1, a, h, hg => FrLe.get (fr := xs) (fr0 := ys) h.2 hg

theorem Sim.le {base w E a} {fr0 : AFr} (h : Sim base w E fr ah nx a) (hle : FrLe fr fr0) : Sim base w E fr0 ah nx a :=
  ⟨h.heap, ⟨Nat.le_trans hle.length h.fr.size, fun i x hx => h.fr.get i x (hle.get hx)⟩, h.defers⟩

/-- a frame that knows less -/
theorem AW_le {c : Code} (fr0 : AFr) (hle : FrLe fr fr0) (h : AW P c fr0 ah nx Q) : AW P c fr ah nx Q := fun base w E a hs => h base w E a (hs.le hle)

theorem AW_drop {c : Code} {ah0 : AH} {nx0 : Nat} (hah : ∀ b k, ah0 b = some k → ah b = some k) (hnx : nx ≤ nx0) (h : AW P c fr ah0 nx0 Q) : AW P c fr ah nx Q := by
  intro base w E a hs
  refine h base w E a ⟨⟨fun b k hb => hs.heap.blk b k (hah b k hb), fun b b' k k' c o c' o' hne h1 h2 => hs.heap.sep b b' k k' c o c' o' hne (hah _ _ h1) (hah _ _ h2), fun b hb => hs.heap.fresh b (Nat.le_trans hnx hb), hs.heap.fixlt, hs.heap.bs, hs.heap.ownlt⟩, hs.fr, hs.defers⟩

/-- what no block has been named yet is none -/
theorem AW_fresh {c : Code} (h : (∀ b, nx ≤ b → ah b = none) → AW P c fr ah nx Q) : AW P c fr ah nx Q :=
  fun base w E a hs => h (fun b hb => hs.heap.nofresh hb) base w E a hs

/-- what a round of a loop hands on -/
def Round (J : Nat → AFr → AH → Nat → Prop) (n : Nat) (fr : AFr) (ah : AH) (nx : Nat) : Prop := ∃ m < n, ∃ fr0, FrLe fr fr0 ∧ J m fr0 ah nx

theorem AW_loop {c : Code} (I : Nat → AFr → AH → Nat → Prop) (n0 : Nat) (fr0 : AFr) (hle : FrLe fr fr0) (h0 : I n0 fr0 ah nx)
    (round : ∀ n fr ah nx, I n fr ah nx → ∀ K : AFr → AH → Nat → Prop, (∀ fr ah nx, Round I n fr ah nx → K fr ah nx) → AW P c fr ah nx (AThen K Q)) : AW P (.loop c) fr ah nx Q := by
  intro base w E a hs
  refine wp_loop_ghost (fun n a' w' => ∃ E' fr' ah' nx', I n fr' ah' nx' ∧ Sim base w' E' fr' ah' nx' a' ∧ Step base w E w' E') n0 ⟨E, fr0, ah, nx, h0, hs.le hle, Step.refl _ _ _⟩ ?_
  intro n a' w' hI
  obtain ⟨E', fr', ah', nx', h1, h2, h3⟩ := hI
  refine wp_mono (round n fr' ah' nx' h1 (Round I n) (fun _ _ _ h => h) base w' E' a' h2) fun e a2 w2 hp => ?_
  cases e with
  | normal =>
    obtain ⟨E2, fr2, ah2, nx2, ⟨m, hm, fr3, hle, hJ⟩, q2, q3⟩ := hp
    exact ⟨m, hm, E2, fr3, ah2, nx2, hJ, q2.le hle, h3.trans q3⟩
  | _ => exact hp.mono h3 (fun _ _ _ h => h)

/-! the end of a function -/
def aResults (P : Program) (fr : AFr) (ah : AH) : List ResultVar → (List AV → Prop) → Prop
  | [], k => k []
  | .tmp t :: r, k => withO (fget fr t) fun a => aResults P fr ah r fun l => k (a :: l)
  | .cell t ty :: r, k => withO (fget fr t) fun p => aLoad P ah ty p fun x => aResults P fr ah r fun l => k (x.v :: l)
def one (l : List AV) : AV := match l with | [a] => a | l => .tup l

def resOf (tmps : Array Value) : ResultVar → Sem Value
  | .tmp t => pure (tmps.getD t undef)
  | .cell p t => do loadVar t (← asAddr (tmps.getD p undef))

theorem aResults_run {base w E ah nx} {a : Act} (hs : Sim base w E fr ah nx a) : ∀ {l : List ResultVar} {k : List AV → Prop}, aResults P fr ah l k →
    ∃ as vs, k as ∧ (l.mapM (resOf a.tmps)).run P w = .ok vs w ∧ RepL w E as vs
  | [], k, h => ⟨[], [], h, rfl, RepL.nil⟩
  | .tmp t :: r, k, h => by
    obtain ⟨x, hx, h⟩ := withO_iff.1 h
    obtain ⟨as, vs, h1, h2, h3⟩ := aResults_run hs h
    obtain ⟨v, hv, hr⟩ := hs.fr.get t x hx
    refine ⟨x :: as, v :: vs, h1, ?_, RepL.cons hr h3⟩
    have e : (resOf a.tmps (.tmp t)).run P w = .ok v w := by simp [resOf, hv]
    rw [List.mapM_cons]
    simp only [Sem.run_bind, e, Sem.run_pure, Result.andThen_ok, h2]
  | .cell p t :: r, k, h => by
    obtain ⟨x, hx, h⟩ := withO_iff.1 h
    obtain ⟨v, hv, hr⟩ := hs.fr.get p x hx
    obtain ⟨rs, u, ⟨as, vs, h1, h2, h3⟩, h5, h6, h7⟩ := aLoad_rd (P := P) (K := fun x => ∃ as vs, k (x.v :: as) ∧ (r.mapM (resOf a.tmps)).run P w = .ok vs w ∧ RepL w E as vs) hs.heap
      (by
        unfold aLoad at h ⊢
        obtain ⟨ty, hty, h⟩ := withO_iff.1 h
        refine withO_iff.2 ⟨ty, hty, ?_⟩
        cases x with
        | vp row off => exact apart_map (fun y hy => aResults_run hs hy) h
        | op b sz i off =>
          dsimp only at h ⊢
          split at h
          · obtain ⟨q1, q2⟩ := h
            obtain ⟨row, q3, q4⟩ := withO_iff.1 q2
            exact ⟨q1, withO_iff.2 ⟨row, q3, apart_map (fun y hy => aResults_run hs hy) q4⟩⟩
          · exact h.elim
        | _ => exact h.elim) hr
    refine ⟨rs.v :: as, u :: vs, h1, ?_, RepL.cons h7 h3⟩
    have hp : a.tmps.getD p undef = v := by simp [hv]
    have hload : (resOf a.tmps (.cell p t)).run P w = .ok u w := by
      show (do loadVar t (← asAddr (a.tmps.getD p undef)) : Sem Value).run P w = _
      rw [hp]
      cases v with
      | pointer q =>
        cases q with
        | some q => simpa [Instr.loadAt, Instr.sureAddr, asAddr] using h6
        | none => simp [Instr.loadAt, Instr.sureAddr] at h6
      | _ => simp [Instr.loadAt, Instr.sureAddr] at h6
    rw [List.mapM_cons]
    simp only [Sem.run_bind, hload, h2, Result.andThen_ok, Sem.run_pure]

theorem one_rep {w E as vs} (h : RepL w E as vs) : Rep w E (one as) (if h : vs.toArray.size = 1 then vs.toArray[0] else .tuple vs.toArray) := by
  match as, vs, h with
  | [], [], h => exact .tup [] #[] rfl (fun i c v h => by simp at h)
  | [a], [v], h => exact h.2 0 a v rfl rfl
  | a :: b :: as, v :: u :: vs, h =>
    have e : ¬ ((v :: u :: vs).toArray.size = 1) := by simp
    rw [dif_neg e]
    exact .tup _ _ (by simpa using h.1) (fun i c v hc hv => h.2 i c v hc (by simpa using hv))
  | [], _ :: _, h => exact absurd h.1 (by simp)
  | _ :: _, [], h => exact absurd h.1 (by simp)
  | [a], _ :: _ :: _, h => exact absurd h.1 (by simp)
  | _ :: _ :: _, [_], h => exact absurd h.1 (by simp)

/-- what a function's body must come to -/
def AEnd (P : Program) (fn : Func) (r : AV) : AQ := fun e fr ah _ => (e = .normal ∨ e = .ret) ∧ aResults P fr ah fn.results.toList fun l => frz ah (one l) = some r

theorem PC_of_AW {f : FuncId} {fn : Func} {c : Code} {args : List AV} {r : AV} (hf : P.funcs[f]? = some fn) (hb : fn.body = some c) (hname : fn.name ≠ "runtime.NumGoroutine")
    (hn : args.length ≤ fn.ntmps) (h : AW P c (args.map some ++ List.replicate (fn.ntmps - args.length) none) (fun _ => none) 0 (AEnd P fn r)) : PC P f args r := by
  intro w fix vs hfix hargs
  rw [hf]
  dsimp only
  rw [if_neg (by rw [hb]; simp)]
  refine ⟨hname, calls_of_wp hf hb ?_⟩
  have hsim : Sim w.heap.size w (freeEnv fix) (args.map some ++ List.replicate (fn.ntmps - args.length) none) (fun _ => none) 0
      { tmps := vs.toArray ++ Array.replicate (fn.ntmps - vs.toArray.size) undef, defers := [] } := by
    refine ⟨⟨fun b k hb => (by cases hb), fun b b' k k' c o c' o' _ hb => (by cases hb), fun _ _ => rfl, hfix, Nat.le_refl _, fun b c o hb => (by cases hb)⟩, ⟨?_, fun i x hx => ?_⟩, rfl⟩
    · simp [hargs.1]
    · have hlt : i < args.length ∧ args[i]? = some x := by
        have key : ∀ (l : List AV) (m i : Nat) (x : AV), fget (l.map some ++ List.replicate m none) i = some x → i < l.length ∧ l[i]? = some x := by
          intro l
          induction l with
          | nil =>
            intro m
            induction m with
            | zero => intro i x h; simp [fget] at h
            | succ m ih =>
              intro i x h
              simp only [List.map_nil, List.nil_append, List.replicate_succ] at h ih
              cases i with
              | zero => simp [fget] at h
              | succ i => have := (ih i x h).1; simp at this
          | cons y l ih =>
            intro m i x h
            cases i with
            | zero => simp [fget] at h; exact ⟨by simp, by simp [h]⟩
            | succ i =>
              simp only [List.map_cons, List.cons_append, fget] at h
              obtain ⟨h1, h2⟩ := ih m i x h
              exact ⟨by simp; omega, by simpa using h2⟩
        exact key args _ i x hx
      have hvl : i < vs.length := by rw [← hargs.1]; exact hlt.1
      refine ⟨vs[i], ?_, hargs.2 i x _ hlt.2 (by simp [hvl])⟩
      rw [Array.getElem?_append_left (by simpa using hvl)]
      simp [hvl]
  refine wp_mono (h _ w (freeEnv fix) _ hsim) fun e a' w' hp => ?_
  obtain ⟨E', fr', ah', nx', ⟨he, hres⟩, hs', hst⟩ := hp
  obtain ⟨as, vs', hz, hrun, hrep⟩ := aResults_run hs' hres
  have hres' : (results fn a'.tmps).run P w' = .ok (if h : vs'.toArray.size = 1 then vs'.toArray[0] else .tuple vs'.toArray) w' := by
    have e : results fn a'.tmps = (do
        let vs ← fn.results.mapM (resOf a'.tmps)
        pure (if h : vs.size = 1 then vs[0] else .tuple vs)) := by
      unfold results
      congr 1
    rw [e, Array.mapM_eq_mapM_toList, Sem.run_bind, Sem.run_map, hrun]
    rfl
  have hv := one_rep hrep
  let fix' : Nat → Nat → Prop := fun c o => E'.fix c o ∨ (w.heap.size ≤ c ∧ c < w'.heap.size)
  have hfr := frz_rep hs'.heap (fix := fix') (fun c o h => .inl h) hv hz (fun b _ c o ho off => .inr (hs'.heap.ownlt b c o ho))
  have hfinal : ∃ v fix', Ending.returned (if h : vs'.toArray.size = 1 then vs'.toArray[0] else .tuple vs'.toArray) = .returned v ∧ Step w.heap.size w (freeEnv fix) w' (freeEnv fix') ∧
        (∀ c o, fix' c o → c < w'.heap.size) ∧ Rep w' (freeEnv fix') r v := by
    refine ⟨_, fix', rfl, ⟨⟨fun c o h => .inl (hst.ext.fix c o h), hst.ext.cell, fun b hb => absurd rfl hb, hst.ext.arr⟩, hst.below, fun c o hc h => ?_⟩, fun c o h => ?_, hfr⟩
    · rcases h with h | ⟨h, -⟩
      · exact hst.fixold c o hc h
      · omega
    · rcases h with h | ⟨-, h⟩
      · exact hs'.heap.fixlt c o h
      · exact h
  rcases he with rfl | rfl
  · exact ⟨hs'.defers, _, hres', hfinal⟩
  · exact ⟨hs'.defers, _, hres', hfinal⟩
end
end Go.Fw
end

section
namespace Go.Fw
/-! the words that the functions' meanings are written in -/
def iAdd (k : IntKind) (a b : Int) : Int := k.wrap (a + b)
def iSub (k : IntKind) (a b : Int) : Int := k.wrap (a - b)
def iMul (k : IntKind) (a b : Int) : Int := k.wrap (a * b)
def iQuo (k : IntKind) (a b : Int) : Int := k.wrap (a.tdiv b)
def iRem (_ : IntKind) (a b : Int) : Int := a.tmod b
def iAnd (k : IntKind) (a b : Int) : Int := k.wrap (BitVec.ofInt k.bits a &&& BitVec.ofInt k.bits b).toNat
def iOr (k : IntKind) (a b : Int) : Int := k.wrap (BitVec.ofInt k.bits a ||| BitVec.ofInt k.bits b).toNat
def iXor (k : IntKind) (a b : Int) : Int := k.wrap (BitVec.ofInt k.bits a ^^^ BitVec.ofInt k.bits b).toNat
def iAndNot (k : IntKind) (a b : Int) : Int := k.wrap (BitVec.ofInt k.bits a &&& ~~~ BitVec.ofInt k.bits b).toNat
def iShl (k : IntKind) (a b : Int) : Int := k.wrap (a * 2 ^ (min b.toNat k.bits))
def iShr (k : IntKind) (a b : Int) : Int := a.fdiv (2 ^ (min b.toNat k.bits))
def iCom (k : IntKind) (n : Int) : Int := k.wrap (BitVec.ofInt k.bits (if k.signed then -1 else k.max) ^^^ BitVec.ofInt k.bits n).toNat
def iEq (a b : Int) : Bool := a == b
def iNe (a b : Int) : Bool := a != b
def bEq (a b : Bool) : Bool := a == b
def bNe (a b : Bool) : Bool := !(a == b)
def sEq (a b : List UInt8) : Bool := decide (a = b)
def sNe (a b : List UInt8) : Bool := !decide (a = b)
def fEq (m n : Nat) : Bool := FloatKind.f64.format.order m n == some .eq
def fNe (m n : Nat) : Bool := FloatKind.f64.format.order m n != some .eq
def fLt (m n : Nat) : Bool := FloatKind.f64.format.order m n == some .lt
def fLe (m n : Nat) : Bool := FloatKind.f64.format.order m n == some .lt || FloatKind.f64.format.order m n == some .eq
def fGt (m n : Nat) : Bool := FloatKind.f64.format.order m n == some .gt
def fGe (m n : Nat) : Bool := FloatKind.f64.format.order m n == some .gt || FloatKind.f64.format.order m n == some .eq
def sLen (s : List UInt8) : Int := s.length
def lLen {α : Type} (s : List α) : Int := s.length
end Go.Fw
end
