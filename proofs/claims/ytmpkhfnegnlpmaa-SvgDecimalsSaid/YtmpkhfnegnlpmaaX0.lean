/- Merged by program (mkclaim.py) from: AmBase AmPrim AmExec AmTot NmA AmSpec AmSim AmExt SvC SvQ0. -/
import Derived.Orders
import Derived.Below
import Derived.KernelRfl
import Derived.IntWalk
import Derived.Test.YtmpkhfnegnlpmaaProg

section
set_option linter.unusedVariables false
set_option linter.unusedSimpArgs false
/- The abstract machine's values, heaps, and how they stand for the model's worlds. -/
namespace Go.AM
open Go.RowKit (Below)

/-- A slice: its first cell (id, offset), its length, the cells of an element; full: its capacity is its length. -/
structure Sl where
  ad : Option (Nat × Nat)
  len : Nat
  esz : Nat
  full : Bool

/-- Values. dead: nothing is known. -/
inductive V where
  | dead
  | bool (b : Bool)
  | int (k : IntKind) (n : Int)
  | str (s : List UInt8)
  | ptr (a : Option (Nat × Nat))
  | slice (s : Sl)
  | map (r : Option Nat)
  | func (fn : Fn) (first captured : List V)
  | nilFunc
  | iface (t : TypeId) (v : V)
  | nilIface
  | agg (cs : List V)
  | tuple (vs : List V)

/-- An entry of a map. -/
structure ME where
  key : V
  val : V
  born : Nat

/-- Things in memory. none: not there, or not to be touched any more. -/
inductive O where
  | none
  | cells (cs : List V) (elem : TypeId) (ro : Bool)
  | map (es : List ME) (clock : Nat)
  | siter (s : List UInt8) (pos : Nat)

inductive T where
  | nil
  | node (l : T) (o : O) (r : T)

def T.get : T → Nat → O
  | .nil, _ => .none
  | .node l o r, i => if i = 0 then o else if i % 2 = 1 then l.get (i / 2) else r.get (i / 2 - 1)

def T.setF : Nat → T → Nat → O → T
  | 0, t, _, _ => t
  | f + 1, .nil, i, o => if i = 0 then .node .nil o .nil else if i % 2 = 1 then .node (T.setF f .nil (i / 2) o) .none .nil else .node .nil .none (T.setF f .nil (i / 2 - 1) o)
  | f + 1, .node l x r, i, o => if i = 0 then .node l o r else if i % 2 = 1 then .node (T.setF f l (i / 2) o) x r else .node l x (T.setF f r (i / 2 - 1) o)

theorem T.get_setF (f : Nat) : ∀ (t : T) (i j : Nat) (o : O), i < f → (T.setF f t i o).get j = if j = i then o else t.get j := by
  induction f with
  | zero => intro t i j o h; omega
  | succ f ih =>
    intro t i j o h
    cases t with
    | nil =>
      simp only [T.setF]
      split
      · subst_vars
        simp only [T.get]
        split <;> simp
      · split
        · simp only [T.get]
          by_cases hj : j = 0
          · subst hj; rw [if_pos rfl, if_neg (by omega)]
          · rw [if_neg hj]
            by_cases hj2 : j % 2 = 1
            · rw [if_pos hj2, ih _ _ _ _ (by omega)]
              by_cases e : j / 2 = i / 2
              · rw [if_pos e, if_pos (by omega)]
              · rw [if_neg e, if_neg (by omega)]; rfl
            · rw [if_neg hj2, if_neg (by omega)]
        · simp only [T.get]
          by_cases hj : j = 0
          · subst hj; rw [if_pos rfl, if_neg (by omega)]
          · rw [if_neg hj]
            by_cases hj2 : j % 2 = 1
            · rw [if_pos hj2, if_neg (by omega)]
            · rw [if_neg hj2, ih _ _ _ _ (by omega)]
              by_cases e : j / 2 - 1 = i / 2 - 1
              · rw [if_pos e, if_pos (by omega)]
              · rw [if_neg e, if_neg (by omega)]; rfl
    | node l x r =>
      simp only [T.setF]
      split
      · subst_vars
        simp only [T.get]
        split <;> simp
      · split
        · simp only [T.get]
          by_cases hj : j = 0
          · subst hj; rw [if_pos rfl, if_neg (by omega), if_pos rfl]
          · rw [if_neg hj, if_neg hj]
            by_cases hj2 : j % 2 = 1
            · rw [if_pos hj2, if_pos hj2, ih _ _ _ _ (by omega)]
              by_cases e : j / 2 = i / 2
              · rw [if_pos e, if_pos (by omega)]
              · rw [if_neg e, if_neg (by omega)]
            · rw [if_neg hj2, if_neg hj2, if_neg (by omega)]
        · simp only [T.get]
          by_cases hj : j = 0
          · subst hj; rw [if_pos rfl, if_neg (by omega), if_pos rfl]
          · rw [if_neg hj, if_neg hj]
            by_cases hj2 : j % 2 = 1
            · rw [if_pos hj2, if_pos hj2, if_neg (by omega)]
            · rw [if_neg hj2, if_neg hj2, ih _ _ _ _ (by omega)]
              by_cases e : j / 2 - 1 = i / 2 - 1
              · rw [if_pos e, if_pos (by omega)]
              · rw [if_neg e, if_neg (by omega)]

/-- Memory: n: the next id. -/
structure Heap where
  n : Nat
  t : T

def Heap.get (H : Heap) (i : Nat) : O := H.t.get i
def Heap.set (H : Heap) (i : Nat) (o : O) : Heap := ⟨H.n, H.t.setF (i + 1) i o⟩
def Heap.push (H : Heap) (o : O) : Heap := ⟨H.n + 1, H.t.setF (H.n + 1) H.n o⟩
/-- Room for m things more. -/
def Heap.more (H : Heap) (m : Nat) : Heap := ⟨H.n + m, H.t⟩

theorem Heap.get_set (H : Heap) (i j : Nat) (o : O) : (H.set i o).get j = if j = i then o else H.get j := T.get_setF _ _ _ _ _ (by omega)
theorem Heap.get_push (H : Heap) (j : Nat) (o : O) : (H.push o).get j = if j = H.n then o else H.get j := T.get_setF _ _ _ _ _ (by omega)
@[simp] theorem Heap.n_set (H : Heap) (i : Nat) (o : O) : (H.set i o).n = H.n := rfl
@[simp] theorem Heap.n_push (H : Heap) (o : O) : (H.push o).n = H.n + 1 := rfl
@[simp] theorem Heap.get_more (H : Heap) (m j : Nat) : (H.more m).get j = H.get j := rfl
@[simp] theorem Heap.n_more (H : Heap) (m : Nat) : (H.more m).n = H.n + m := rfl

/-! ### How values stand for the model's -/

/-- Where a thing lies: its block, its first cell there, how many cells the block has. -/
structure Loc where
  b : Nat
  base : Nat
  size : Nat

abbrev Mu := Nat → Option Loc
def Mu.le (μ ν : Mu) : Prop := ∀ i L, μ i = some L → ν i = some L
theorem Mu.le_refl (μ : Mu) : μ.le μ := fun _ _ h => h
theorem Mu.le_trans {μ ν ξ : Mu} (h : μ.le ν) (k : ν.le ξ) : μ.le ξ := fun i L e => k i L (h i L e)

def okFn : Fn → Bool
  | .func _ => true
  | _ => false

mutual
def VRel (μ : Mu) : V → Value → Prop
  | .dead, _ => True
  | .bool b, x => x = .bool b
  | .int k n, x => x = .int k n
  | .str s, x => x = .string ⟨s.toArray⟩
  | .ptr none, x => x = .pointer none
  | .ptr (some (i, o)), x => ∃ L, μ i = some L ∧ x = .pointer (some ⟨L.b, L.base + o, none⟩)
  | .slice s, x =>
    match s.ad with
    | none => s.len = 0 ∧ x = .slice none 0 0
    | some (i, o) => ∃ L a cap, μ i = some L ∧ x = .slice (some a) s.len cap ∧ s.len ≤ cap ∧ (s.full = true → cap = s.len) ∧
        (cap = 0 ∨ (a = ⟨L.b, L.base + o, none⟩ ∧ L.base + o + cap * s.esz ≤ L.size))
  | .map none, x => x = .map none
  | .map (some i), x => ∃ L, μ i = some L ∧ x = .map (some L.b)
  | .func fn first captured, x => ∃ f c, x = .func fn f c ∧ okFn fn = true ∧ VRels μ first f.toList ∧ VRels μ captured c.toList
  | .nilFunc, x => x = .nilFunc
  | .iface t v, x => ∃ y, x = .iface t y ∧ VRel μ v y
  | .nilIface, x => x = .nilIface
  | .agg cs, x => ∃ a, x = .agg a ∧ VRels μ cs a.toList
  | .tuple vs, x => ∃ a, x = .tuple a ∧ VRels μ vs a.toList
def VRels (μ : Mu) : List V → List Value → Prop
  | [], xs => xs = []
  | v :: vs, xs => ∃ y ys, xs = y :: ys ∧ VRel μ v y ∧ VRels μ vs ys
end

mutual
theorem VRel.mono {μ ν : Mu} (h : μ.le ν) : ∀ (v : V) (x : Value), VRel μ v x → VRel ν v x
  | .dead, _, _ => by simp [VRel]
  | .bool b, x, k => by simpa [VRel] using k
  | .int _ n, x, k => by simpa [VRel] using k
  | .str s, x, k => by simpa [VRel] using k
  | .ptr none, x, k => by simpa [VRel] using k
  | .ptr (some (i, o)), x, k => by
    simp only [VRel] at k ⊢
    obtain ⟨L, e, r⟩ := k
    exact ⟨L, h _ _ e, r⟩
  | .slice s, x, k => by
    simp only [VRel] at k ⊢
    split
    · rename_i e; simpa [e] using k
    · rename_i i o e
      simp only [e] at k
      obtain ⟨L, a, cap, m, r⟩ := k
      exact ⟨L, a, cap, h _ _ m, r⟩
  | .map none, x, k => by simpa [VRel] using k
  | .map (some i), x, k => by
    simp only [VRel] at k ⊢
    obtain ⟨L, e, r⟩ := k
    exact ⟨L, h _ _ e, r⟩
  | .func fn first captured, x, k => by
    simp only [VRel] at k ⊢
    obtain ⟨f, c, e, o, a, b⟩ := k
    exact ⟨f, c, e, o, VRels.mono h _ _ a, VRels.mono h _ _ b⟩
  | .nilFunc, x, k => by simpa [VRel] using k
  | .iface t v, x, k => by
    simp only [VRel] at k ⊢
    obtain ⟨y, e, r⟩ := k
    exact ⟨y, e, VRel.mono h _ _ r⟩
  | .nilIface, x, k => by simpa [VRel] using k
  | .agg cs, x, k => by
    simp only [VRel] at k ⊢
    obtain ⟨y, e, r⟩ := k
    exact ⟨y, e, VRels.mono h _ _ r⟩
  | .tuple cs, x, k => by
    simp only [VRel] at k ⊢
    obtain ⟨y, e, r⟩ := k
    exact ⟨y, e, VRels.mono h _ _ r⟩
theorem VRels.mono {μ ν : Mu} (h : μ.le ν) : ∀ (vs : List V) (xs : List Value), VRels μ vs xs → VRels ν vs xs
  | [], xs, k => by simpa [VRels] using k
  | v :: vs, xs, k => by
    simp only [VRels] at k ⊢
    obtain ⟨y, ys, e, a, b⟩ := k
    exact ⟨y, ys, e, VRel.mono h _ _ a, VRels.mono h _ _ b⟩
end

theorem VRels.length {μ : Mu} : ∀ {vs : List V} {xs : List Value}, VRels μ vs xs → xs.length = vs.length
  | [], xs, k => by simp [VRels] at k; simp [k]
  | v :: vs, xs, k => by
    simp only [VRels] at k
    obtain ⟨y, ys, rfl, a, b⟩ := k
    simp [VRels.length b]

theorem VRels.get {μ : Mu} : ∀ {vs : List V} {xs : List Value}, VRels μ vs xs → ∀ (i : Nat) (v : V), vs[i]? = some v → ∃ x, xs[i]? = some x ∧ VRel μ v x
  | [], xs, k, i, v, e => by simp at e
  | v :: vs, xs, k, i, u, e => by
    simp only [VRels] at k
    obtain ⟨y, ys, rfl, a, b⟩ := k
    cases i with
    | zero => simp at e; subst e; exact ⟨y, by simp, a⟩
    | succ i => simp at e; simpa using VRels.get b i u e

theorem VRels.of_get {μ : Mu} : ∀ {vs : List V} {xs : List Value}, xs.length = vs.length → (∀ (i : Nat) (v : V) (x : Value), vs[i]? = some v → xs[i]? = some x → VRel μ v x) → VRels μ vs xs
  | [], xs, hl, _ => by simp at hl; simp [VRels, hl]
  | v :: vs, [], hl, _ => by simp at hl
  | v :: vs, x :: xs, hl, h => by
    simp only [VRels]
    exact ⟨x, xs, rfl, h 0 v x (by simp) (by simp), VRels.of_get (by simpa using hl) fun i u y e1 e2 => h (i + 1) u y (by simpa using e1) (by simpa using e2)⟩

theorem VRels.append {μ : Mu} : ∀ {vs us : List V} {xs ys : List Value}, VRels μ vs xs → VRels μ us ys → VRels μ (vs ++ us) (xs ++ ys)
  | [], us, xs, ys, k, l => by simp [VRels] at k; subst k; simpa using l
  | v :: vs, us, xs, ys, k, l => by
    simp only [VRels] at k
    obtain ⟨y, zs, rfl, a, b⟩ := k
    simp only [List.cons_append, VRels]
    exact ⟨y, zs ++ ys, rfl, a, VRels.append b l⟩

theorem VRels.drop {μ : Mu} : ∀ (n : Nat) {vs : List V} {xs : List Value}, VRels μ vs xs → VRels μ (vs.drop n) (xs.drop n)
  | 0, vs, xs, k => by simpa using k
  | n + 1, [], xs, k => by simp [VRels] at k; simp [VRels, k]
  | n + 1, v :: vs, xs, k => by
    simp only [VRels] at k
    obtain ⟨y, zs, rfl, a, b⟩ := k
    simpa using VRels.drop n b

theorem VRels.take {μ : Mu} : ∀ (n : Nat) {vs : List V} {xs : List Value}, VRels μ vs xs → VRels μ (vs.take n) (xs.take n)
  | 0, vs, xs, k => by simp [VRels]
  | n + 1, [], xs, k => by simp [VRels] at k; simp [VRels, k]
  | n + 1, v :: vs, xs, k => by
    simp only [VRels] at k
    obtain ⟨y, zs, rfl, a, b⟩ := k
    simp only [List.take_succ_cons, VRels]
    exact ⟨y, _, rfl, a, VRels.take n b⟩

/-- What one cell holds. -/
def V.one : V → Bool
  | .dead | .agg _ | .tuple _ => false
  | _ => true
/-- The cells of a value. -/
def V.cells : V → List V
  | .agg cs => cs
  | v => [v]

def isOne : Value → Bool
  | .agg _ | .tuple _ => false
  | _ => true

theorem VRel.isOne {μ : Mu} {v : V} {x : Value} (h : VRel μ v x) (o : v.one = true) : isOne x = true := by
  cases v with
  | dead => simp [V.one] at o
  | agg cs => simp [V.one] at o
  | tuple cs => simp [V.one] at o
  | bool b => simp only [VRel] at h; subst h; rfl
  | int k n => simp only [VRel] at h; subst h; rfl
  | str s => simp only [VRel] at h; subst h; rfl
  | ptr a =>
    rcases a with _ | ⟨i, o⟩
    · simp only [VRel] at h; subst h; rfl
    · simp only [VRel] at h; obtain ⟨L, _, rfl⟩ := h; rfl
  | slice s =>
    simp only [VRel] at h
    split at h
    · obtain ⟨_, rfl⟩ := h; rfl
    · obtain ⟨L, a, cap, _, rfl, _⟩ := h; rfl
  | map r =>
    rcases r with _ | i
    · simp only [VRel] at h; subst h; rfl
    · simp only [VRel] at h; obtain ⟨L, _, rfl⟩ := h; rfl
  | func fn f c => simp only [VRel] at h; obtain ⟨_, _, rfl, _⟩ := h; rfl
  | nilFunc => simp only [VRel] at h; subst h; rfl
  | iface t v => simp only [VRel] at h; obtain ⟨_, rfl, _⟩ := h; rfl
  | nilIface => simp only [VRel] at h; subst h; rfl

/-- The cells of a value whose cells are known. -/
theorem VRel.cells {μ : Mu} {v : V} {x : Value} (h : VRel μ v x) (o : v.cells.all V.one = true) : VRels μ v.cells x.cells.toList := by
  cases v with
  | agg cs => simp only [VRel] at h; obtain ⟨a, rfl, r⟩ := h; simpa [V.cells, Value.cells] using r
  | dead => simp [V.cells, V.one] at o
  | tuple cs => simp [V.cells, V.one] at o
  | _ =>
    have h1 := VRel.isOne h (by simpa [V.cells] using o)
    have : x.cells = #[x] := by cases x <;> simp_all [Value.cells, AM.isOne]
    rw [this]
    simp only [V.cells, VRels]
    exact ⟨x, [], rfl, h, rfl⟩

/-! ### How heaps stand for worlds -/

def MERel (μ : Mu) (e : ME) (x : MapEntry) : Prop := VRel μ e.key x.key ∧ VRel μ e.val x.val ∧ x.born = e.born

def MERels (μ : Mu) : List ME → List MapEntry → Prop
  | [], xs => xs = []
  | e :: es, xs => ∃ y ys, xs = y :: ys ∧ MERel μ e y ∧ MERels μ es ys

def ORel (μ : Mu) (B : Nat) (o : O) (L : Loc) (w : World) : Prop :=
  match o with
  | .none => True
  | .cells cs e ro => ∃ c e' fr, w.heap[L.b]? = some (.cells c e' fr) ∧ c.size = L.size ∧ L.base + cs.length ≤ L.size ∧
      (∀ j v, cs[j]? = some v → v.one = true ∧ ∃ x, c[L.base + j]? = some x ∧ VRel μ v x) ∧ (ro = false → B ≤ L.b ∧ fr = (0, 0) ∧ e' = e)
  | .map es clock => ∃ xs, w.heap[L.b]? = some (.map xs clock) ∧ B ≤ L.b ∧ MERels μ es xs.toList
  | .siter s pos => w.heap[L.b]? = some (.stringIter ⟨s.toArray⟩ pos) ∧ B ≤ L.b ∧ L.base = 0

/-- Is a thing there, and the call's own? -/
def O.own : O → Bool
  | .none => false
  | .cells _ _ ro => !ro
  | _ => true
def O.live : O → Bool
  | .none => false
  | _ => true

structure Rel (B : Nat) (w0 : World) (μ : Mu) (H : Heap) (w : World) : Prop where
  below : Below B w0 w
  size : B ≤ w.heap.size
  dom : ∀ i L, μ i = some L → i < H.n ∧ ((H.get i).live = true → L.b < w.heap.size)
  objs : ∀ i L, μ i = some L → ORel μ B (H.get i) L w
  sep : ∀ i j L M, μ i = some L → μ j = some M → i ≠ j → (H.get i).live = true → (H.get j).live = true → (H.get i).own = true → L.b ≠ M.b
  clean : ∀ i, H.n ≤ i → H.get i = .none
end Go.AM
end

section
set_option linter.unusedVariables false
set_option linter.unusedSimpArgs false
/- The abstract machine's operations on values and heaps. -/
namespace Go.AM

/-- One of the model's constants that is no struct. -/
abbrev V.ofOne : Value → V
  | .bool b => .bool b
  | .int k n => .int k n
  | .string s => .str s.data.toList
  | .pointer none => .ptr none
  | .slice none 0 0 => .slice ⟨none, 0, 0, false⟩
  | .map none => .map none
  | .nilFunc => .nilFunc
  | .nilIface => .nilIface
  | _ => .dead
abbrev V.ofValue : Value → V
  | .agg cs => .agg (cs.toList.map V.ofOne)
  | .tuple vs => if vs.size = 0 then .tuple [] else .dead
  | v => V.ofOne v

abbrev Env := List (Nat × V)
abbrev lk (t : Nat) : Env → V
  | [] => .dead
  | (u, v) :: e => if t = u then v else lk t e
abbrev opd (env : Env) : Operand → V
  | .tmp t => lk t env
  | .const v => V.ofValue v
  | .global _ => .dead
  | .func f => .func (.func f) [] []

def asB : V → Option Bool
  | .bool b => some b
  | _ => none
def asI : V → Option Int
  | .int _ n => some n
  | _ => none

/-! Types -/
abbrev aggT (P : Program) (t : TypeId) : Option Bool :=
  match P.underlying t with
  | some (.struct _) | some (.array _ _) => some true
  | some _ => some false
  | none => none
abbrev szT (P : Program) (t : TypeId) : Option Nat := (P.info? t).map (·.size)
abbrev zeroT (P : Program) (t : TypeId) : Option V := ((P.info? t).bind (·.zero)).map V.ofValue

/-! Numbers, texts -/
def intA (op : BinOp) (k : IntKind) (a b : Int) : Option V :=
  match op with
  | .add => some (.int k (k.wrap (a + b)))
  | .sub => some (.int k (k.wrap (a - b)))
  | .mul => some (.int k (k.wrap (a * b)))
  | .quo => if b = 0 then none else some (.int k (k.wrap (a.tdiv b)))
  | .rem => if b = 0 then none else some (.int k (a.tmod b))
  | .and => some (.int k (k.wrap (BitVec.ofInt k.bits a &&& BitVec.ofInt k.bits b).toNat))
  | .or => some (.int k (k.wrap (BitVec.ofInt k.bits a ||| BitVec.ofInt k.bits b).toNat))
  | .xor => some (.int k (k.wrap (BitVec.ofInt k.bits a ^^^ BitVec.ofInt k.bits b).toNat))
  | .andNot => some (.int k (k.wrap (BitVec.ofInt k.bits a &&& ~~~(BitVec.ofInt k.bits b)).toNat))
  | .eql => some (.bool (a == b))
  | .neq => some (.bool (a != b))
  | .lss => some (.bool (decide (a < b)))
  | .leq => some (.bool (decide (a ≤ b)))
  | .gtr => some (.bool (decide (a > b)))
  | .geq => some (.bool (decide (a ≥ b)))
  | _ => none
def shiftA (op : BinOp) (k : IntKind) (a b : Int) : Option V :=
  if b < 0 then none else
  match op with
  | .shl => some (.int k (k.wrap (a * 2 ^ (min b.toNat k.bits))))
  | .shr => some (.int k (a.fdiv (2 ^ (min b.toNat k.bits))))
  | _ => none
def strA (op : BinOp) (a b : List UInt8) : Option V :=
  match op with
  | .add => if a.length + b.length < 9223372036854775807 then some (.str (a ++ b)) else none
  | .eql => some (.bool (a == b))
  | .neq => some (.bool (!(a == b)))
  | .lss => some (.bool (Op.bytesLess a b))
  | .leq => some (.bool (Op.bytesLess a b || a == b))
  | .gtr => some (.bool (!(Op.bytesLess a b || a == b)))
  | .geq => some (.bool (!(Op.bytesLess a b)))
  | _ => none

def partN (n off : Nat) (xs : List V) : Option V := some (.agg ((xs.drop off).take n))
def part1 (off : Nat) (xs : List V) : Option V := xs[off]?
abbrev partA (P : Program) (t : TypeId) (xs : List V) (off : Nat) : Option V :=
  match aggT P t with
  | some true => match szT P t with
    | some n => partN n off xs
    | none => none
  | some false => part1 off xs
  | none => none

def eqFs (P : Program) (rc : TypeId → V → V → Option Bool) : List Field → List V → List V → Option Bool
  | [], _, _ => some true
  | f :: fs, xs, ys =>
    if f.name ≠ "_" then
      (partA P f.type xs f.offset).bind fun u => (partA P f.type ys f.offset).bind fun v =>
        (rc f.type u v).bind fun b => (eqFs P rc fs xs ys).bind fun c => some (b && c)
    else eqFs P rc fs xs ys
def eqEs (P : Program) (rc : TypeId → V → V → Option Bool) (elem : TypeId) (n : Nat) : List Nat → List V → List V → Option Bool
  | [], _, _ => some true
  | i :: is, xs, ys =>
    (partA P elem xs (i * n)).bind fun u => (partA P elem ys (i * n)).bind fun v =>
      (rc elem u v).bind fun b => (eqEs P rc elem n is xs ys).bind fun c => some (b && c)

/-- Whether two of a type are alike: plain data, or something held against nil. -/
def eqA (P : Program) : Nat → TypeId → V → V → Option Bool
  | 0, _, _, _ => none
  | d + 1, t, x, y =>
    match P.underlying t with
    | some .bool => match x, y with | .bool a, .bool b => some (a == b) | _, _ => none
    | some (.int _) => match x, y with | .int k a, .int k' b => if k = k' then some (a == b) else none | _, _ => none
    | some .string => match x, y with | .str a, .str b => some (a == b) | _, _ => none
    | some (.pointer e) => match x, y with
      | .ptr none, .ptr b => some b.isNone
      | .ptr (some _), .ptr none => some false
      | .ptr (some a), .ptr (some b) => if a = b ∧ (szT P e).isSome = true then some true else none
      | _, _ => none
    | some (.slice _) => match x, y with
      | .slice s, .slice u => if s.ad.isNone then some u.ad.isNone else if u.ad.isNone then some false else none
      | _, _ => none
    | some (.map _ _) => match x, y with
      | .map none, .map b => some b.isNone
      | .map (some _), .map none => some false
      | _, _ => none
    | some (.interface _) => match x, y with
      | .nilIface, .iface _ _ => some false
      | .iface _ _, .nilIface => some false
      | _, _ => none
    | some (.func _ _ _) => match x, y with
      | .nilFunc, .func _ _ _ => some false
      | .func _ _ _, .nilFunc => some false
      | .nilFunc, .nilFunc => some true
      | _, _ => none
    | some (.struct fields) => match x, y with
      | .agg xs, .agg ys => if P.stoodInHeld t then none else eqFs P (eqA P d) fields.toList xs ys
      | _, _ => none
    | some (.array len elem) => match x, y with
      | .agg xs, .agg ys => match szT P elem with
        | some n => eqEs P (eqA P d) elem n (List.range len) xs ys
        | none => none
      | _, _ => none
    | _ => none

/-- Numbers and texts. -/
def arA (op : BinOp) (x y : V) : Option V :=
  match x, y with
  | .int k a, .int k' b => if k = k' then intA op k a b else none
  | .str a, .str b => strA op a b
  | _, _ => none
def shA (op : BinOp) (x y : V) : Option V :=
  match x, y with
  | .int k a, .int _ b => shiftA op k a b
  | _, _ => none
/-- No interface with methods in a struct or an array. -/
def eqOk (P : Program) (t : TypeId) : Bool :=
  match P.underlying t with
  | some (.struct _) | some (.array _ _) => !(P.eqGuardType P.depth t)
  | _ => true
def eqlA (P : Program) (t : TypeId) (x y : V) : Option V := if eqOk P t = true then (eqA P 8 t x y).bind fun b => some (.bool b) else none
def neqA (P : Program) (t : TypeId) (x y : V) : Option V := if eqOk P t = true then (eqA P 8 t x y).bind fun b => some (.bool (!b)) else none
abbrev isNum (P : Program) (t : TypeId) : Bool :=
  match P.underlying t with
  | some (.int _) | some .string => true
  | _ => false
abbrev binA (P : Program) (op : BinOp) (t : TypeId) (x y : V) : Option V :=
  match op with
  | .shl => shA .shl x y
  | .shr => shA .shr x y
  | .eql => if isNum P t = true then arA .eql x y else eqlA P t x y
  | .neq => if isNum P t = true then arA .neq x y else neqA P t x y
  | op => arA op x y

def unA (op : UnOp) (x : V) : Option V :=
  match op, x with
  | .neg, .int k n => some (.int k (k.wrap (0 - n)))
  | .xor, .int k n => intA .xor k (if k.signed then -1 else k.max) n
  | .not, .bool b => some (.bool !b)
  | _, _ => none

/-! Memory -/
def ld1 (v : V) (H : Heap) : Option V :=
  match v with
  | .ptr (some (i, o)) => match H.get i with
    | .cells cs _ _ => cs[o]?
    | _ => none
  | _ => none
def ldN (n : Nat) (v : V) (H : Heap) : Option V :=
  match v with
  | .ptr (some (i, o)) => match H.get i with
    | .cells cs _ _ => if o + n ≤ cs.length then some (.agg ((cs.drop o).take n)) else none
    | _ => none
  | _ => none
abbrev loadA (P : Program) (t : TypeId) (v : V) (H : Heap) : Option V :=
  match aggT P t with
  | some true => match szT P t with
    | some n => ldN n v H
    | none => none
  | some false => ld1 v H
  | none => none

def lset : List V → Nat → List V → List V
  | cs, _, [] => cs
  | cs, o, x :: xs => lset (cs.set o x) (o + 1) xs

def stA (n : Nat) (v x : V) (H : Heap) : Option Heap :=
  match v with
  | .ptr (some (i, o)) => match H.get i with
    | .cells cs e false => if x.cells.length = n ∧ o + n ≤ cs.length ∧ x.cells.all V.one = true then some (H.set i (.cells (lset cs o x.cells) e false)) else none
    | _ => none
  | _ => none

/-- A new thing: at a place that was kept, or the next one. -/
abbrev newA (r : Option Nat) (o : O) (H : Heap) : Nat × Heap :=
  match r with
  | none => (H.n, H.push o)
  | some i => (i, H.set i o)

def boxA (e : TypeId) (x : V) : Option O :=
  if x.cells.all V.one = true then some (.cells x.cells e false) else none

def fillA (place : Nat → Option (Nat × Nat)) (cells : List V) : List (Nat × V) → Option (List V)
  | [] => some cells
  | (i, v) :: rest =>
    match place i with
    | none => none
    | some (off, size) =>
      if v.cells.length = size ∧ off + size ≤ cells.length ∧ v.cells.all V.one = true then fillA place (lset cells off v.cells) rest else none

def flA (places : List (Nat × Nat)) (z : List V) (parts : List (Nat × V)) : Option V := (fillA (places[·]?) z parts).bind fun cs => some (.agg cs)
def flE (n : Nat) (z : List V) (parts : List (Nat × V)) : Option V := (fillA (fun i => some (i * n, n)) z parts).bind fun cs => some (.agg cs)
abbrev placesT (P : Program) : List Field → Option (List (Nat × Nat))
  | [] => some []
  | f :: fs => match szT P f.type, placesT P fs with
    | some n, some l => some ((f.offset, n) :: l)
    | _, _ => none
abbrev buildA (P : Program) (t : TypeId) (parts : List (Nat × V)) : Option V :=
  match zeroT P t, P.underlying t with
  | some (.agg z), some (.struct fields) => match placesT P fields.toList with
    | some places => flA places z parts
    | none => none
  | some (.agg z), some (.array _ elem) => match szT P elem with
    | some n => flE n z parts
    | none => none
  | _, _ => none

def rowA (z : List V) : Nat → List V
  | 0 => []
  | n + 1 => z ++ rowA z n

def faA (off : Nat) (v : V) : Option V :=
  match v with
  | .ptr (some (i, o)) => some (.ptr (some (i, o + off)))
  | _ => none
abbrev fieldAddrA (P : Program) (s : TypeId) (v : V) (f : Nat) : Option V :=
  match P.underlying s with
  | some (.struct fields) => match fields[f]? with
    | some fd => match szT P fd.type with
      | some (_ + 1) => faA fd.offset v
      | _ => none
    | none => none
  | _ => none
def fdN (n off : Nat) (v : V) : Option V :=
  match v with
  | .agg cs => partN n off cs
  | _ => none
def fd1 (off : Nat) (v : V) : Option V :=
  match v with
  | .agg cs => part1 off cs
  | _ => none
abbrev fieldA (P : Program) (t : TypeId) (v : V) (f : Nat) : Option V :=
  match P.underlying t with
  | some (.struct fields) => match fields[f]? with
    | some fd => match aggT P fd.type, szT P fd.type with
      | some true, some n => fdN n fd.offset v
      | some false, _ => fd1 fd.offset v
      | _, _ => none
    | none => none
  | _ => none

/-- The address of a slice's element. -/
def idxS (n : Nat) (v ix : V) : Option V :=
  match v, ix with
  | .slice s, .int _ i => match s.ad with
    | some (b, o) => if 0 ≤ i ∧ i < s.len ∧ s.esz = n then some (.ptr (some (b, o + i.toNat * n))) else none
    | none => none
  | _, _ => none
/-- The address of an array's element. -/
def idxP (len n : Nat) (v ix : V) : Option V :=
  match v, ix with
  | .ptr (some (b, o)), .int _ i => if 0 ≤ i ∧ i < len then some (.ptr (some (b, o + i.toNat * n))) else none
  | _, _ => none
abbrev indexAddrA (P : Program) (t : TypeId) (v ix : V) : Option V :=
  match P.underlying t with
  | some (.slice e) => match szT P e with
    | some (n + 1) => idxS (n + 1) v ix
    | _ => none
  | some (.array len e) => match szT P e with
    | some (n + 1) => idxP len (n + 1) v ix
    | _ => none
  | _ => none
def ixStr (v ix : V) : Option V :=
  match v, ix with
  | .str s, .int _ i => if 0 ≤ i then match s[i.toNat]? with
    | some b => some (.int .u8 b.toNat)
    | none => none else none
  | _, _ => none
def ix1 (len : Nat) (v ix : V) : Option V :=
  match v, ix with
  | .agg cs, .int _ i => if 0 ≤ i ∧ i < len then part1 i.toNat cs else none
  | _, _ => none
def ixN (len n : Nat) (v ix : V) : Option V :=
  match v, ix with
  | .agg cs, .int _ i => if 0 ≤ i ∧ i < len then partN n (i.toNat * n) cs else none
  | _, _ => none
abbrev indexA (P : Program) (t : TypeId) (v ix : V) : Option V :=
  match P.underlying t with
  | some (.array len e) => match aggT P e, szT P e with
    | some true, some n => ixN len n v ix
    | some false, some 1 => ix1 len v ix
    | _, _ => none
  | some .string => ixStr v ix
  | _ => none

/-- A bound of a slice. -/
def bndA (d : Nat) : Option V → Option Nat
  | none => some d
  | some (.int _ i) => if 0 ≤ i then some i.toNat else none
  | _ => none
def slStr (v : V) (lo hi : Option V) : Option V :=
  match v with
  | .str s => (bndA 0 lo).bind fun l => (bndA s.length hi).bind fun h => if l ≤ h ∧ h ≤ s.length then some (.str ((s.take h).drop l)) else none
  | _ => none
def slSl (n : Nat) (v : V) (lo hi : Option V) : Option V :=
  match v with
  | .slice s => (bndA 0 lo).bind fun l => (bndA s.len hi).bind fun h =>
      if l ≤ h ∧ h ≤ s.len ∧ (s.ad.isNone = true ∨ s.esz = n) then some (.slice ⟨s.ad.map fun (b, o) => (b, o + l * n), h - l, n, false⟩) else none
  | _ => none
def slMx (n : Nat) (v : V) (lo : Option V) (hi mx : V) : Option V :=
  match v with
  | .slice s => (bndA 0 lo).bind fun l => (bndA 0 (some hi)).bind fun h => (bndA 0 (some mx)).bind fun m =>
      if l ≤ h ∧ h ≤ m ∧ m ≤ s.len ∧ (s.ad.isNone = true ∨ s.esz = n) then some (.slice ⟨s.ad.map fun (b, o) => (b, o + l * n), h - l, n, h == m⟩) else none
  | _ => none
def slArr (len n : Nat) (v : V) (lo hi : Option V) (H : Heap) : Option V :=
  match v with
  | .ptr (some (i, o)) => (bndA 0 lo).bind fun l => (bndA len hi).bind fun h => match H.get i with
    | .cells cs _ _ => if l ≤ h ∧ h ≤ len ∧ o + len * n ≤ cs.length then some (.slice ⟨some (i, o + l * n), h - l, n, false⟩) else none
    | _ => none
  | _ => none
abbrev sliceA (P : Program) (t : TypeId) (v : V) (lo hi mx : Option V) (H : Heap) : Option V :=
  match P.underlying t with
  | some .string => match mx with
    | none => slStr v lo hi
    | some _ => none
  | some (.slice e) => match szT P e with
    | some n => match mx, hi with
      | none, _ => slSl n v lo hi
      | some m, some h => slMx n v lo h m
      | _, _ => none
    | none => none
  | some (.array len e) => match szT P e, mx with
    | some n, none => slArr len n v lo hi H
    | _, _ => none
  | _ => none

/-- The cells of a slice. -/
def rdS (s : Sl) (H : Heap) : Option (List V) :=
  match s.ad with
  | none => if s.len = 0 then some [] else none
  | some (i, o) => if s.len = 0 then some [] else match H.get i with
    | .cells cs _ _ => if o + s.len * s.esz ≤ cs.length then some ((cs.drop o).take (s.len * s.esz)) else none
    | _ => none
def srcA (n : Nat) (x : V) (H : Heap) : Option (Nat × List V) :=
  match x with
  | .slice u => if u.ad.isNone = true ∨ u.esz = n then (rdS u H).map fun cs => (u.len, cs) else none
  | .str s => if n = 1 then some (s.length, s.map fun b => .int .u8 b.toNat) else none
  | _ => none
/-- What is left of memory when a slice's own end is written to. -/
def killA (s : Sl) (e : TypeId) (H : Heap) : Option Heap :=
  match s.ad with
  | none => some H
  | some (i, _) => if s.full = true then some H else match H.get i with
    | .cells _ u false => if u = e then some (H.set i .none) else none
    | _ => none
/-- append: of slices of elements of n cells. -/
def appA (n bytes : Nat) (e : TypeId) (v x : V) (H : Heap) : Option (V × Heap) :=
  match v with
  | .slice s => (srcA n x H).bind fun (k, new) =>
      if k = 0 then some (.slice ⟨s.ad, s.len, s.esz, false⟩, H)
      else if s.len + k < 2147483648 ∧ bytes ≤ 4096 ∧ (s.ad.isNone = true ∨ s.esz = n) then
        (rdS s H).bind fun old => (killA s e H).bind fun H1 =>
          some (.slice ⟨some (H1.n, 0), s.len + k, n, false⟩, H1.push (.cells (old ++ new) e false))
      else none
  | _ => none
def copyA (n : Nat) (v x : V) (H : Heap) : Option (V × Heap) :=
  match v with
  | .slice d => (srcA n x H).bind fun (k, new) =>
      let m := min k d.len
      if m = 0 then some (.int .i64 0, H) else
      match d.ad with
      | some (i, o) => match H.get i with
        | .cells cs e false => if d.esz = n ∧ o + m * n ≤ cs.length then some (.int .i64 m, H.set i (.cells (lset cs o (new.take (m * n))) e false)) else none
        | _ => none
      | none => none
  | _ => none
def lenStr : V → Option V
  | .str s => some (.int .i64 s.length)
  | _ => none
def lenSl : V → Option V
  | .slice s => some (.int .i64 s.len)
  | _ => none
def lenMap (v : V) (H : Heap) : Option V :=
  match v with
  | .map none => some (.int .i64 0)
  | .map (some i) => match H.get i with
    | .map es _ => some (.int .i64 es.length)
    | _ => none
  | _ => none
abbrev lenA (P : Program) (t : TypeId) (v : V) (H : Heap) : Option V :=
  match P.underlying t with
  | some .string => lenStr v
  | some (.slice _) => lenSl v
  | some (.array n _) => some (.int .i64 n)
  | some (.map _ _) => lenMap v H
  | _ => none
/-- What make gives: the thing, the length. -/
def mkSl (n bytes : Nat) (e : TypeId) (z : List V) (l c : V) : Option (O × Nat) :=
  match l, c with
  | .int _ l, .int _ c => if 0 ≤ l ∧ l ≤ c ∧ c < 2147483648 ∧ bytes ≤ 4096 ∧ z.length = n ∧ z.all V.one = true then some (.cells (rowA z l.toNat) e false, l.toNat) else none
  | _, _ => none
def bSl (n : Nat) (e : TypeId) (z : List V) (len : Nat) (parts : List (Nat × V)) : Option O :=
  if len * n ≤ 65536 ∧ z.length = n ∧ z.all V.one = true then (fillA (fun i => some (i * n, n)) (rowA z len) parts).bind fun cs => some (.cells cs e false) else none
/-- A slice's element: its type, cells, bytes, zero. -/
abbrev elemT (P : Program) (t : TypeId) : Option (TypeId × Nat × Nat × List V) :=
  match P.underlying t with
  | some (.slice e) => match szT P e, P.info? e, zeroT P e with
    | some (n + 1), some inf, some z => if z.cells.length = n + 1 then some (e, n + 1, inf.bytes, z.cells) else none
    | _, _, _ => none
  | _ => none
def cvInt (k : IntKind) : V → Option V
  | .int _ n => some (.int k (k.wrap n))
  | _ => none
def cvStr : V → Option V
  | .str s => some (.str s)
  | _ => none
def bytesOf : List V → Option (List UInt8)
  | [] => some []
  | .int .u8 n :: vs => match bytesOf vs with
    | some l => some (UInt8.ofNat n.toNat :: l)
    | none => none
  | _ => none
def cvBytes (v : V) (H : Heap) : Option V :=
  match v with
  | .slice u => if u.ad.isNone = true ∨ u.esz = 1 then (rdS u H).bind fun cs => (bytesOf cs).bind fun l => some (.str l) else none
  | _ => none
abbrev convA (P : Program) (src dst : TypeId) (v : V) (H : Heap) : Option V :=
  match P.underlying src, P.underlying dst with
  | some (.int _), some (.int k) => cvInt k v
  | some .string, some .string => cvStr v
  | some (.slice e), some .string => match P.underlying e with
    | some (.int .u8) => cvBytes v H
    | _ => none
  | _, _ => none
/-- v.(t) with its ok: z is t's zero. -/
def asOk (t : TypeId) (z : V) (v : V) : Option V :=
  match v with
  | .iface u x => if u = t then some (.tuple [x, .bool true]) else some (.tuple [z, .bool false])
  | .nilIface => some (.tuple [z, .bool false])
  | _ => none
def asIs (t : TypeId) (v : V) : Option V :=
  match v with
  | .iface u x => if u = t then some x else none
  | _ => none
abbrev assertA (P : Program) (v : V) (t : TypeId) (ok : Bool) : Option V :=
  match P.underlying t with
  | some (.interface _) => none
  | some _ => match ok, zeroT P t with
    | true, some z => asOk t z v
    | false, _ => asIs t v
    | _, _ => none
  | none => none
def nilC : V → Option V
  | .ptr (some a) => some (.ptr (some a))
  | _ => none
def extA (v : V) (i : Nat) : Option V :=
  match v with
  | .tuple vs => vs[i]?
  | _ => none
end Go.AM
end

section
set_option linter.unusedVariables false
set_option linter.unusedSimpArgs false
/- The abstract machine: maps, and how it runs code. -/
namespace Go.AM

/-! Maps -/
def sameOne : V → V → Bool
  | .bool a, .bool b => a == b
  | .int j a, .int k b => j == k && a == b
  | .str a, .str b => a == b
  | _, _ => false
def sameAll : List V → List V → Bool
  | [], [] => true
  | a :: las, b :: bs => sameOne a b && sameAll las bs
  | _, _ => false
def sameV : V → V → Bool
  | .agg a, .agg b => sameAll a b
  | a, b => sameOne a b
/-- May a value of a type be a key: plain data to the bottom. -/
def keyFs (P : Program) (rc : TypeId → V → Bool) : List Field → List V → Bool
  | [], _ => true
  | f :: fs, xs => (match partA P f.type xs f.offset with
    | some u => rc f.type u
    | none => false) && keyFs P rc fs xs
def keyEs (P : Program) (rc : TypeId → V → Bool) (e : TypeId) (n : Nat) : List Nat → List V → Bool
  | [], _ => true
  | i :: is, xs => (match partA P e xs (i * n) with
    | some u => rc e u
    | none => false) && keyEs P rc e n is xs
def keyV (P : Program) : Nat → TypeId → V → Bool
  | 0, _, _ => false
  | d + 1, t, v =>
    match P.underlying t with
    | some (.int _) => match v with | .int _ _ => true | _ => false
    | some .string => match v with | .str _ => true | _ => false
    | some .bool => match v with | .bool _ => true | _ => false
    | some (.struct fields) => match v with
      | .agg xs => keyFs P (keyV P d) fields.toList xs
      | _ => false
    | some (.array len e) => match v with
      | .agg xs => match szT P e with
        | some n => keyEs P (keyV P d) e n (List.range len) xs
        | none => false
      | _ => false
    | _ => false
def findA (eq : V → Option Bool) : List ME → Nat → Option (Option (Nat × ME))
  | [], _ => some none
  | e :: es, i => (eq e.key).bind fun b => if b = true then some (some (i, e)) else findA eq es (i + 1)
def findM (P : Program) (kt : TypeId) (k : V) (es : List ME) : Option (Option (Nat × ME)) :=
  if keyV P 8 kt k = true then findA (eqA P 8 kt k) es 0 else none
def mapOf (v : V) (H : Heap) : Option (Nat × List ME × Nat) :=
  match v with
  | .map (some i) => match H.get i with
    | .map es clock => some (i, es, clock)
    | _ => none
  | _ => none
def entsOf (v : V) (H : Heap) : Option (List ME) :=
  match v with
  | .map none => some []
  | _ => (mapOf v H).bind fun m => some m.2.1
def lookM (P : Program) (kt : TypeId) (z : V) (v k : V) (ok : Bool) (H : Heap) : Option V :=
  (entsOf v H).bind fun es => (findM P kt k es).bind fun r => match r with
    | some (_, e) => some (if ok = true then .tuple [e.val, .bool true] else e.val)
    | none => some (if ok = true then .tuple [z, .bool false] else z)
abbrev lookA (P : Program) (t : TypeId) (v k : V) (ok : Bool) (H : Heap) : Option V :=
  match P.underlying t with
  | some (.map kt et) => match zeroT P et with
    | some z => lookM P kt z v k ok H
    | none => none
  | _ => none
def updM (P : Program) (kt : TypeId) (v k x : V) (H : Heap) : Option Heap :=
  (mapOf v H).bind fun m => (findM P kt k m.2.1).bind fun r => match r with
    | some (j, e) => if sameV e.key k = true then some (H.set m.1 (.map (m.2.1.set j { e with key := k, val := x }) m.2.2)) else none
    | none => some (H.set m.1 (.map (m.2.1 ++ [⟨k, x, m.2.2⟩]) (m.2.2 + 1)))
abbrev updA (P : Program) (t : TypeId) (v k x : V) (H : Heap) : Option Heap :=
  match P.underlying t with
  | some (.map kt _) => updM P kt v k x H
  | _ => none
def entM (P : Program) (kt : TypeId) (z : V) (v k : V) (H : Heap) : Option (V × Heap) :=
  (mapOf v H).bind fun m => (findM P kt k m.2.1).bind fun r => match r with
    | some (j, e) => if sameV e.key k = true then some (.tuple [e.val, .int .i64 e.born], H.set m.1 (.map (m.2.1.set j { e with key := k }) m.2.2)) else none
    | none => some (.tuple [z, .int .i64 m.2.2], H.set m.1 (.map (m.2.1 ++ [⟨k, z, m.2.2⟩]) (m.2.2 + 1)))
abbrev entA (P : Program) (t : TypeId) (v k : V) (H : Heap) : Option (V × Heap) :=
  match P.underlying t with
  | some (.map kt et) => match zeroT P et with
    | some z => entM P kt z v k H
    | none => none
  | _ => none
def setBorn (b : Int) (x : V) : List ME → Option (List ME)
  | [] => none
  | e :: es => if (e.born : Int) = b then some ({ e with val := x } :: es) else (setBorn b x es).map (e :: ·)
def entStA (v s x : V) (H : Heap) : Option Heap :=
  (mapOf v H).bind fun m => (asI s).bind fun b => (setBorn b x m.2.1).bind fun es => some (H.set m.1 (.map es m.2.2))
def delM (P : Program) (kt : TypeId) (v k : V) (H : Heap) : Option Heap :=
  match v with
  | .map none => if keyV P 8 kt k = true then some H else none
  | _ => (mapOf v H).bind fun m => (findM P kt k m.2.1).bind fun r => match r with
    | some (j, _) => some (H.set m.1 (.map (m.2.1.eraseIdx j) m.2.2))
    | none => some H
abbrev delA (P : Program) (t : TypeId) (v k : V) (H : Heap) : Option Heap :=
  match P.underlying t with
  | some (.map kt _) => delM P kt v k H
  | _ => none
def clrM (v : V) (H : Heap) : Option Heap :=
  match v with
  | .map none => some H
  | _ => (mapOf v H).bind fun m => some (H.set m.1 (.map [] m.2.2))
abbrev clearA (P : Program) (t : TypeId) (v : V) (H : Heap) : Option Heap :=
  match P.underlying t with
  | some (.map _ _) => clrM v H
  | _ => none

/-! Texts, letter by letter -/
def rgStr : V → Option O
  | .str s => some (.siter s 0)
  | _ => none
abbrev rangeA (P : Program) (t : TypeId) (v : V) : Option O :=
  match P.underlying t with
  | some .string => rgStr v
  | _ => none
def nextA (v : V) (isString : Bool) (H : Heap) : Option (V × Heap) :=
  match v, isString with
  | .ptr (some (i, 0)), true => match H.get i with
    | .siter s pos =>
      if pos < s.length then
        some (.tuple [.bool true, .int .i64 pos, .int .i32 (Utf8.decode ⟨s.toArray⟩ pos).1], H.set i (.siter s (pos + (Utf8.decode ⟨s.toArray⟩ pos).2)))
      else some (.tuple [.bool false], H)
    | _ => none
  | _, _ => none

def mm2 (mx : Bool) : V → V → Option V
  | .int k x, .int _ y => some (.int k (if mx then (if y > x then y else x) else (if y < x then y else x)))
  | _, _ => none
def mmA (mx : Bool) : List V → Option V
  | [] => none
  | x :: xs => xs.foldlM (mm2 mx) x

abbrev bd {α β : Type} (x : Option α) (f : α → Option β) : Option β :=
  match x with
  | some a => f a
  | none => none
@[simp] theorem bd_some {α β : Type} (a : α) (f : α → Option β) : bd (some a) f = f a := rfl
@[simp] theorem bd_none {α β : Type} (f : α → Option β) : bd none f = none := rfl

/-! Code -/
abbrev R := V × Heap
inductive X where
  | normal
  | exit (id : Nat)
  | ret
abbrev K := X → Env → Heap → Option R

/-- A machine: the program; which slots live where a region begins; functions that are known otherwise. -/
structure Cfg where
  P : Program
  tabs : FuncId → Option (List (Nat × List Nat))
  ext : FuncId → Option (List V → Heap → Option R)

abbrev callV (call : FuncId → List V → Heap → Option R) (f : V) (args : List V) (H : Heap) : Option R :=
  match f with
  | .func (.func g) first cap => call g (first ++ args ++ cap) H
  | _ => none

/-- What an operation that makes nothing and writes nothing gives. -/
abbrev valA (P : Program) (env : Env) (o : Op) (H : Heap) : Option V :=
  match o with
  | .move x | .assign x => some (opd env x)
  | .pick c a b => bd (asB (opd env c)) fun t => some (if t = true then opd env a else opd env b)
  | .build t ps => buildA P t (ps.toList.map fun p => (p.1, opd env p.2))
  | .load t a => loadA P t (opd env a) H
  | .nilCheck x => nilC (opd env x)
  | .binOp op t x y _ => binA P op t (opd env x) (opd env y)
  | .unOp op _ x => unA op (opd env x)
  | .convert s d x => convA P s d (opd env x) H
  | .makeInterface t x => match P.underlying t with
    | some (.interface _) => none
    | some _ => some (.iface t (opd env x))
    | none => none
  | .makeFunc fn fs cs => if okFn fn = true then some (.func fn (fs.toList.map (opd env)) (cs.toList.map (opd env))) else none
  | .slice t x l h m => sliceA P t (opd env x) (l.map (opd env)) (h.map (opd env)) (m.map (opd env)) H
  | .fieldAddr t x f => fieldAddrA P t (opd env x) f
  | .field t x f => fieldA P t (opd env x) f
  | .indexAddr t x i => indexAddrA P t (opd env x) (opd env i)
  | .index t x i => indexA P t (opd env x) (opd env i)
  | .lookup t x i ok => lookA P t (opd env x) (opd env i) ok H
  | .typeAssert x _ t ok => assertA P (opd env x) t ok
  | .extract x i => extA (opd env x) i
  | .call { callee := .builtin .len, args, argTypes } => match args.toList, argTypes[0]? with
    | [x], some t => lenA P t (opd env x) H
    | _, _ => none
  | .call { callee := .builtin .max, args, .. } => mmA true (args.toList.map (opd env))
  | .call { callee := .builtin .min, args, .. } => mmA false (args.toList.map (opd env))
  | _ => none

abbrev bltA (P : Program) (b : Builtin) (ts : Array TypeId) (args : List V) (H : Heap) (k : V → Heap → Option R) : Option R :=
  match b, args with
  | .append, [x, y] => match ts[0]?, ts[1]? with
    | some t, some u => match P.underlying t, P.underlying u with
      | some (.slice _), some (.slice _) | some (.slice _), some .string => match elemT P t with
        | some (e, n, by_, _) => bd (appA n by_ e x y H) fun p => k p.1 p.2
        | none => none
      | _, _ => none
    | _, _ => none
  | .copy, [x, y] => match ts[0]? with
    | some t => match elemT P t with
      | some (_, n, _, _) => bd (copyA n x y H) fun p => k p.1 p.2
      | none => none
    | none => none
  | .delete, [x, y] => match ts[0]? with
    | some t => bd (delA P t x y H) fun H => k (.tuple []) H
    | none => none
  | .clear, [x] => match ts[0]? with
    | some t => bd (clearA P t x H) fun H => k (.tuple []) H
    | none => none
  | _, _ => none

/-- One operation. r: the place that was kept for what it makes. -/
abbrev stepA (P : Program) (call : FuncId → List V → Heap → Option R) (r : Option Nat) (env : Env) (o : Op) (H : Heap) (k : V → Heap → Option R) : Option R :=
  match o with
  | .alloc t => match zeroT P t with
    | some z => bd (boxA t z) fun o => k (.ptr (some ((newA r o H).1, 0))) (newA r o H).2
    | none => none
  | .box t x => bd (boxA t (opd env x)) fun o => k (.ptr (some ((newA r o H).1, 0))) (newA r o H).2
  | .buildSlice t len ps => match elemT P t with
    | some (e, n, _, z) => bd (bSl n e z len (ps.toList.map fun p => (p.1, opd env p.2))) fun o =>
      k (.slice ⟨some ((newA r o H).1, 0), len, n, false⟩) (newA r o H).2
    | none => none
  | .makeMap t rs => match rs, P.underlying t with
    | none, some (.map _ _) => k (.map (some (newA r (.map [] 0) H).1)) (newA r (.map [] 0) H).2
    | _, _ => none
  | .makeSlice t l c => match elemT P t with
    | some (e, n, by_, z) => bd (mkSl n by_ e z (opd env l) (opd env c)) fun o =>
      k (.slice ⟨some ((newA r o.1 H).1, 0), o.2, n, false⟩) (newA r o.1 H).2
    | none => none
  | .store t a x => match szT P t with
    | some n => bd (stA n (opd env a) (opd env x) H) fun H => k (.tuple []) H
    | none => none
  | .mapUpdate t m i x | .insert t m i x => bd (updA P t (opd env m) (opd env i) (opd env x) H) fun H => k (.tuple []) H
  | .mapEntry t m i => bd (entA P t (opd env m) (opd env i) H) fun p => k p.1 p.2
  | .entryStore _ m s x => bd (entStA (opd env m) (opd env s) (opd env x) H) fun H => k (.tuple []) H
  | .range t x => bd (rangeA P t (opd env x)) fun o => k (.ptr (some ((newA r o H).1, 0))) (newA r o H).2
  | .next x s => bd (nextA (opd env x) s H) fun p => k p.1 p.2
  | .call { callee := .value f, args, .. } => bd (callV call (opd env f) (args.toList.map (opd env)) H) fun p => k p.1 p.2
  | .call { callee := .builtin .append, args, argTypes } => bltA P .append argTypes (args.toList.map (opd env)) H k
  | .call { callee := .builtin .copy, args, argTypes } => bltA P .copy argTypes (args.toList.map (opd env)) H k
  | .call { callee := .builtin .delete, args, argTypes } => bltA P .delete argTypes (args.toList.map (opd env)) H k
  | .call { callee := .builtin .clear, args, argTypes } => bltA P .clear argTypes (args.toList.map (opd env)) H k
  | o => bd (valA P env o H) fun v => k v H

abbrev putV (dst : Option Tmp) (v : V) (env : Env) : Env :=
  match dst with
  | some d => (d, v) :: env
  | none => env

/-- An operation with its guard: the slot whose bool it hangs on. -/
abbrev guarded (env : Env) (g : Option (Nat × Bool)) (slot : Nat → Option Tmp) (yes no : Env → Option R) : Option R :=
  match g with
  | none => yes env
  | some (j, want) => match slot j with
    | some t => bd (asB (lk t env)) fun b => if b = true then (if want = true then yes else no) ((t, .bool true) :: env) else (if want = true then no else yes) ((t, .bool false) :: env)
    | none => none

/-- Operations one behind the other. -/
abbrev runOps (P : Program) (call : FuncId → List V → Heap → Option R) (slot : Nat → Option Tmp) : List Oper → Env → Heap → (Env → Heap → Option R) → Option R
  | [], env, H, k => k env H
  | o :: os, env, H, k =>
    guarded env o.guard slot
      (fun env => stepA P call none env o.op H fun v H => runOps P call slot os (putV o.dst v env) H k)
      (fun env => runOps P call slot os (putV o.dst (.tuple []) env) H k)
/-! A region whose order is open: the reads see what lies there at each time at which they may be made. -/

mutual
def V.beq : V → V → Bool
  | .bool a, .bool b => a == b
  | .int j a, .int k b => j == k && a == b
  | .str a, .str b => a == b
  | .ptr a, .ptr b => a == b
  | .slice s, .slice u => s.ad == u.ad && s.len == u.len && s.esz == u.esz && s.full == u.full
  | .map a, .map b => a == b
  | .nilFunc, .nilFunc => true
  | .nilIface, .nilIface => true
  | .iface t v, .iface u w => t == u && v.beq w
  | .agg a, .agg b => V.beqs a b
  | .tuple a, .tuple b => V.beqs a b
  | .func f a b, .func g c d => f == g && V.beqs a c && V.beqs b d
  | _, _ => false
def V.beqs : List V → List V → Bool
  | [], [] => true
  | a :: las, b :: bs => a.beq b && V.beqs las bs
  | _, _ => false
end

inductive Kd where
  | pure
  | read
  | make
  | eff
  deriving DecidableEq

def isSl (P : Program) (t : TypeId) : Bool :=
  match P.underlying t with
  | some (.slice _) | some .string => true
  | _ => false
/-- Of what kind an operation is. -/
def kind (P : Program) : Op → Kd
  | .move _ | .assign _ | .pick .. | .build .. | .binOp .. | .unOp .. | .fieldAddr .. | .field .. | .indexAddr .. | .index .. | .typeAssert .. | .extract .. | .makeInterface .. | .makeFunc .. | .nilCheck _ => .pure
  | .convert s _ _ => match P.underlying s with
    | some (.int _) | some .string => .pure
    | _ => .read
  | .slice t .. => if isSl P t then .pure else .eff
  | .load .. | .lookup .. => .read
  | .alloc _ | .box .. | .buildSlice .. | .makeMap .. | .makeSlice .. => .make
  | .call { callee := .builtin .len, argTypes, .. } => match argTypes[0]? with
    | some t => if isSl P t then .pure else .read
    | none => .eff
  | .call { callee := .builtin .max, .. } | .call { callee := .builtin .min, .. } => .pure
  | _ => .eff

structure DStep where
  i : Nat
  kd : Kd
  r : Nat
  past : Nat

/-- Which operations stand ahead of each one. -/
def aheadOf (ops : Array Oper) : Array Nat := Region.before ops
def effs (P : Program) (ops : Array Oper) : List Nat := (List.range ops.size).filter fun i => kind P (ops.getD i default).op = .eff
def chainB (b : Array Nat) : List Nat → Bool
  | i :: j :: r => (b.getD j 0).testBit i && chainB b (j :: r)
  | _ => true
/-- The operations in an order of our own: those that write and call as they follow, what each needs ahead of it. -/
def orderGo (n : Nat) (b : Array Nat) : List Nat → List Nat → List Nat
  | [], done => (List.range n).filter fun i => !done.contains i
  | e :: es, done =>
    let g := (List.range n).filter fun i => !done.contains i && (b.getD e 0).testBit i
    g ++ e :: orderGo n b es (e :: g ++ done)
def numMade (P : Program) (ops : Array Oper) (l : List Nat) : List (Nat × Nat) :=
  (l.filter fun i => kind P (ops.getD i default).op = .make).zipIdx
def plan (P : Program) (ops : Array Oper) : Option (Nat × List DStep) :=
  let b := aheadOf ops
  let es := effs P ops
  let dsts : List Nat := ops.toList.filterMap (·.dst)
  if chainB b es && decide dsts.Nodup then
    let l := orderGo ops.size b es []
    let made := numMade P ops (List.range ops.size)
    some (made.length, l.map fun i =>
      let kd := kind P (ops.getD i default).op
      { i, kd, r := (made.lookup i).getD 0,
        past := if kd = .read then ((es.takeWhile fun e => !((b.getD e 0).testBit i)).filter fun e => !((b.getD i 0).testBit e)).length else 0 })
  else none

def chk (r : Option V) (v : V) : Option Unit := r.bind fun u => if V.beq u v = true then some () else none
/-- What is read is the same at each of some times. -/
abbrev pastK (P : Program) (env : Env) (o : Op) (v : V) (k : Option R) : List Heap → Option R
  | [] => k
  | H :: Hs => bd (chk (valA P env o H) v) fun _ => pastK P env o v k Hs

abbrev runD (P : Program) (call : FuncId → List V → Heap → Option R) (ops : Array Oper) (slot : Nat → Option Tmp) (base : Nat) :
    List DStep → Env → Heap → List Heap → Heap → (Env → Heap → Option R) → Option R
  | [], env, _, _, H, k => k env H
  | s :: ss, env, Hk, hist, H, k =>
    match ops[s.i]? with
    | none => none
    | some o =>
      guarded env o.guard slot
        (fun env => match s.kd with
          | .pure => bd (valA P env o.op ⟨0, .nil⟩) fun v => runD P call ops slot base ss (putV o.dst v env) Hk hist H k
          | .read => bd (valA P env o.op Hk) fun v => pastK P env o.op v (runD P call ops slot base ss (putV o.dst v env) Hk hist H k) (hist.take s.past)
          | .make => stepA P call (some (base + s.r)) env o.op H fun v H => runD P call ops slot base ss (putV o.dst v env) Hk hist H k
          | .eff => stepA P call none env o.op H fun v H => runD P call ops slot base ss (putV o.dst v env) H (Hk :: hist) H k)
        (fun env => match s.kd with
          | .eff => runD P call ops slot base ss (putV o.dst (.tuple []) env) H (Hk :: hist) H k
          | _ => runD P call ops slot base ss (putV o.dst (.tuple []) env) Hk hist H k)

abbrev regA (P : Program) (call : FuncId → List V → Heap → Option R) (ops : Array Oper) (draw : Bool) (env : Env) (H : Heap) (k : Env → Heap → Option R) : Option R :=
  if draw = true then
    match plan P ops with
    | some (m, l) => runD P call ops (fun j => (ops[j]?).bind (·.dst)) H.n l env (H.more m) [] (H.more m) k
    | none => none
  else runOps P call (fun j => (ops[j]?).bind (·.dst)) ops.toList env H k

/-- What is kept of the slots. -/
abbrev keep (L : Option (List Nat)) (env : Env) : Env :=
  match L with
  | some l => l.map fun t => (t, lk t env)
  | none => env
abbrev lkL (r : Nat) : List (Nat × List Nat) → Option (List Nat)
  | [] => none
  | (q, l) :: rest => if r = q then some l else lkL r rest
/-- The first region of a piece of code. -/
abbrev firstR : Code → Option Nat
  | .region id _ _ => some id
  | .seq a b => match firstR a with
    | some r => some r
    | none => firstR b
  | .cond _ a b => match firstR a with
    | some r => some r
    | none => firstR b
  | .block _ c => firstR c
  | .loop c => firstR c
  | .scope c => firstR c
  | _ => none
abbrev tabOf (tab : List (Nat × List Nat)) (c : Code) : Option (List Nat) := (firstR c).bind fun r => lkL r tab

/-- The region that runs first, whatever comes. -/
abbrev startR : Code → Option Nat
  | .region id _ _ => some id
  | .seq .skip b => startR b
  | .seq a _ => startR a
  | .block _ c => startR c
  | .loop c => firstR c
  | _ => none
abbrev tabS (tab : List (Nat × List Nat)) (c : Code) : Option (List Nat) := (startR c).bind fun r => lkL r tab

abbrev kS (e : Env → Heap → K → Option R) (L : Option (List Nat)) (k : K) : K := fun x env H => match x with
  | .normal => e (keep L env) H k
  | x => k x env H
abbrev kB (id : Nat) (k : K) : K := fun x env H => match x with
  | .exit j => if j = id then k .normal env H else k (.exit j) env H
  | x => k x env H
def loopA (e : Env → Heap → K → Option R) (L : Option (List Nat)) : Nat → Env → Heap → K → Option R
  | 0, _, _, _ => none
  | m + 1, env, H, k => e env H (kS (loopA e L m) L k)

/-- Code runs: call: what a call gives; n: how many rounds a loop may have. -/
def exec (P : Program) (call : FuncId → List V → Heap → Option R) (tab : List (Nat × List Nat)) (n : Nat) : Code → Env → Heap → K → Option R
  | .skip, env, H, k => k .normal env H
  | .label _, env, H, k => k .normal env H
  | .region _ ops draw, env, H, k => regA P call ops draw env H (k .normal)
  | .seq a b, env, H, k => exec P call tab n a env H (kS (exec P call tab n b) (tabS tab b) k)
  | .cond c a b, env, H, k => bd (asB (opd env c)) fun t => if t = true then exec P call tab n a env H k else exec P call tab n b env H k
  | .block id c, env, H, k => exec P call tab n c env H (kB id k)
  | .loop c, env, H, k => loopA (exec P call tab n c) (tabOf tab c) n (keep (tabOf tab c) env) H k
  | .exit id, env, H, k => k (.exit id) env H
  | .ret, env, H, k => k .ret env H
  | _, _, _, _ => none

abbrev resA (P : Program) (env : Env) (H : Heap) : List ResultVar → (List V → Option R) → Option R
  | [], k => k []
  | .tmp t :: rs, k => resA P env H rs fun vs => k (lk t env :: vs)
  | .cell a t :: rs, k => bd (loadA P t (lk a env) H) fun v => resA P env H rs fun vs => k (v :: vs)
abbrev oneV (H : Heap) : List V → Option R
  | [v] => some (v, H)
  | vs => some (.tuple vs, H)
abbrev kRet (P : Program) (rs : List ResultVar) : K := fun x env H => match x with
  | .exit _ => none
  | _ => resA P env H rs (oneV H)
abbrev argsA : Nat → List V → Env
  | _, [] => []
  | i, v :: vs => (i, v) :: argsA (i + 1) vs

/-- The slots that live, of a function. -/
abbrev Cfg.tab (C : Cfg) (f : FuncId) : List (Nat × List Nat) := (C.tabs f).getD []

def callA (C : Cfg) : Nat → FuncId → List V → Heap → Option R
  | 0, _, _, _ => none
  | n + 1, f, args, H =>
    match C.ext f with
    | some g => g args H
    | none => match C.tabs f with
      | some tab => match C.P.funcs[f]? with
        | some fn => match fn.body with
          | some c => exec C.P (callA C n) tab n c (argsA 0 args) H (kRet C.P fn.results.toList)
          | none => none
        | none => none
      | none => none
/-- A piece of a function's code. -/
def cdAt : Code → List Nat → Code
  | c, [] => c
  | .seq a b, i :: is => if i = 0 then cdAt a is else cdAt b is
  | .cond _ a b, i :: is => if i = 0 then cdAt a is else cdAt b is
  | .block _ c, _ :: is => cdAt c is
  | .loop c, _ :: is => cdAt c is
  | .scope c, _ :: is => cdAt c is
  | _, _ :: _ => .skip
abbrev fnA (C : Cfg) (f : FuncId) : Func := (C.P.funcs[f]?).getD default
abbrev cd (C : Cfg) (f : FuncId) (p : List Nat) : Code := cdAt ((fnA C f).body.getD .skip) p
/-- A piece of a function runs. -/
abbrev E (C : Cfg) (n : Nat) (f : FuncId) (p : List Nat) : Env → Heap → K → Option R := exec C.P (callA C n) (C.tab f) n (cd C f p)
/-- A loop's rounds: p is its body's place. -/
abbrev Lp (C : Cfg) (n : Nat) (f : FuncId) (p : List Nat) : Nat → Env → Heap → K → Option R := loopA (E C n f p) (tabOf (C.tab f) (cd C f p))
abbrev kL (C : Cfg) (n : Nat) (f : FuncId) (p : List Nat) (m : Nat) (k : K) : K := kS (Lp C n f p m) (tabOf (C.tab f) (cd C f p)) k
abbrev kC (C : Cfg) (n : Nat) (f : FuncId) (p : List Nat) (k : K) : K := kS (E C n f p) (tabS (C.tab f) (cd C f p)) k
abbrev kR (C : Cfg) (f : FuncId) : K := kRet C.P (fnA C f).results.toList
end Go.AM
end

section
set_option linter.unusedVariables false
set_option linter.unusedSimpArgs false
/- What a function comes to, said as: for every great enough number of rounds it ends, in a value and a memory with a property: the rules. -/
namespace Go.AM
/-- One behind the other (as bd, but for simp's sake no abbreviation). -/
def bnd {α β : Type} (x : Option α) (f : α → Option β) : Option β :=
  match x with
  | some a => f a
  | none => none
@[simp] theorem bnd_some {α β : Type} (a : α) (f : α → Option β) : bnd (some a) f = f a := (Eq.refl _).trans (Eq.refl _)
@[simp] theorem bnd_none {α β : Type} (f : α → Option β) : bnd none f = none := (Eq.refl _).trans (Eq.refl _)
abbrev B2 := {α β : Type} → Option α → (α → Option β) → Option β
theorem bd_bnd {T : Type} {x : T} (f : B2 → T) (h : x = f @bd) : x = f @bnd := h.trans (by
  have : (@bd : B2) = @bnd := rfl
  rw [this])

/-- From some number of rounds on it ends so. -/
def Tot (c : Nat → Option R) (Q : V → Heap → Prop) : Prop := ∃ v H, Q v H ∧ ∃ n0, ∀ n, n0 ≤ n → c n = some (v, H)
/-- As great as one likes. -/
def Big (m : Nat → Nat) : Prop := ∀ k, ∃ n0, ∀ n, n0 ≤ n → k ≤ m n

theorem Big.id : Big fun n => n := fun k => ⟨k, fun _ h => h⟩

theorem Tot.eq {c c' : Nat → Option R} {Q : V → Heap → Prop} (he : ∀ n, c n = c' n) (h : Tot c' Q) : Tot c Q := by
  rw [show c = c' from funext he]; exact h

theorem Tot.ret {v : V} {H : Heap} {Q : V → Heap → Prop} (h : Q v H) : Tot (fun _ => some (v, H)) Q := ⟨v, H, h, 0, fun _ _ => rfl⟩

theorem Tot.mono {c : Nat → Option R} {Q Q' : V → Heap → Prop} (h : Tot c Q) (k : ∀ v H, Q v H → Q' v H) : Tot c Q' := by
  obtain ⟨v, H, h1, h2⟩ := h
  exact ⟨v, H, k _ _ h1, h2⟩

theorem Tot.of {c : Nat → Option R} {P : V → Heap → Prop} (h : ∀ Q : V → Heap → Prop, (∀ v H, P v H → Q v H) → Tot c Q) : Tot c P := h P fun _ _ x => x

theorem Tot.bind {f : Nat → Option R} {k : Nat → R → Option R} {Q Q' : V → Heap → Prop} (hf : Tot f Q') (hk : ∀ v H, Q' v H → Tot (fun n => k n (v, H)) Q) : Tot (fun n => bnd (f n) (k n)) Q := by
  obtain ⟨v, H, h1, n0, h2⟩ := hf
  obtain ⟨u, G, h3, n1, h4⟩ := hk v H h1
  refine ⟨u, G, h3, max n0 n1, fun n hn => ?_⟩
  show bnd (f n) (k n) = _
  rw [h2 n (by omega)]
  exact h4 n (by omega)

theorem Tot.fn {f g : Nat → Option R} {Q : V → Heap → Prop} (he : ∀ n, f (n + 1) = g n) (h : Tot g Q) : Tot f Q := by
  obtain ⟨v, H, h1, n0, h2⟩ := h
  refine ⟨v, H, h1, n0 + 1, fun n hn => ?_⟩
  obtain ⟨m, rfl⟩ : ∃ m, n = m + 1 := ⟨n - 1, by omega⟩
  rw [he]
  exact h2 m (by omega)

theorem Tot.loop {f g : Nat → Nat → Option R} {Q : V → Heap → Prop} {m : Nat → Nat} (hm : Big m) (he : ∀ n k, f n (k + 1) = g n k) (h : ∀ m', Big m' → Tot (fun n => g n (m' n)) Q) : Tot (fun n => f n (m n)) Q := by
  obtain ⟨v, H, h1, n0, h2⟩ := h (fun n => m n - 1) (fun k => by obtain ⟨n0, h⟩ := hm (k + 1); exact ⟨n0, fun n hn => by have := h n hn; show k ≤ m n - 1; omega⟩)
  obtain ⟨n1, h3⟩ := hm 1
  refine ⟨v, H, h1, max n0 n1, fun n hn => ?_⟩
  show f n (m n) = _
  have h4 := h3 n (by omega)
  have h5 := h2 n (by omega)
  have h6 := he n (m n - 1)
  rw [show m n - 1 + 1 = m n by omega] at h6
  rw [h6]; exact h5

theorem Tot.ite {c : Prop} [Decidable c] {a b : Nat → Option R} {Q : V → Heap → Prop} (ha : c → Tot a Q) (hb : ¬c → Tot b Q) : Tot (fun n => if c then a n else b n) Q := by
  by_cases h : c
  · simp only [h, if_true]; exact ha h
  · simp only [h, if_false]; exact hb h

theorem Tot.at {c : Nat → Option R} {v : V} {Q : Heap → Prop} (h : Tot c fun u H => u = v ∧ Q H) : ∃ n H, c n = some (v, H) := by
  obtain ⟨u, H, ⟨rfl, _⟩, n0, h2⟩ := h
  exact ⟨n0, H, h2 n0 (Nat.le_refl _)⟩

end Go.AM
end

section
set_option linter.unusedVariables false
set_option linter.unusedSimpArgs false
/- Numbers as digits to a base, the lowest first: plain mathematics. -/
namespace Go.AM

/-- The number at a place. -/
def nth (l : List Nat) (i : Nat) : Nat := l.getD i 0

def val (b : Nat) : List Nat → Nat
  | [] => 0
  | x :: l => x + b * val b l
def Lim (b : Nat) (l : List Nat) : Prop := ∀ x, x ∈ l → x < b
def trimZ (l : List Nat) : List Nat := (l.reverse.dropWhile (· == 0)).reverse
/-- The digits of a number, none at the end a nought. -/
def dig (b x : Nat) : List Nat := if h : 2 ≤ b ∧ x ≠ 0 then x % b :: dig b (x / b) else []
termination_by x
decreasing_by exact Nat.div_lt_self (by omega) (by omega)

theorem dig_zero {b : Nat} : dig b 0 = [] := by rw [dig]; simp
theorem dig_pos {b x : Nat} (hb : 2 ≤ b) (hx : x ≠ 0) : dig b x = x % b :: dig b (x / b) := by rw [dig]; simp [hb, hx]

theorem trimZ_nil : trimZ [] = [] := rfl
theorem trimZ_zero {l : List Nat} : trimZ (l ++ [0]) = trimZ l := by simp [trimZ]
theorem trimZ_last {l : List Nat} {x : Nat} (h : x ≠ 0) : trimZ (l ++ [x]) = l ++ [x] := by simp [trimZ, h]

theorem Lim.nil {b : Nat} : Lim b [] := by intro x h; cases h
theorem Lim.cons {b x : Nat} {l : List Nat} : Lim b (x :: l) ↔ x < b ∧ Lim b l := by simp [Lim]
theorem Lim.app {b : Nat} {l l' : List Nat} : Lim b (l ++ l') ↔ Lim b l ∧ Lim b l' := by
  simp only [Lim, List.mem_append]
  exact ⟨fun h => ⟨fun x hx => h x (.inl hx), fun x hx => h x (.inr hx)⟩, fun h x hx => hx.elim (h.1 x) (h.2 x)⟩
theorem Lim.one {b x : Nat} : Lim b [x] ↔ x < b := by simp [Lim]
theorem Lim.take {b n : Nat} {l : List Nat} (h : Lim b l) : Lim b (l.take n) := fun x hx => h x (List.mem_of_mem_take hx)
theorem Lim.drop {b n : Nat} {l : List Nat} (h : Lim b l) : Lim b (l.drop n) := fun x hx => h x (List.mem_of_mem_drop hx)
theorem Lim.nth {b i : Nat} {l : List Nat} (h : Lim b l) (hb : 0 < b) : nth l i < b := by
  rw [AM.nth, List.getD_eq_getElem?_getD]
  cases e : l[i]? with
  | none => simpa using hb
  | some x => exact h x (List.mem_of_getElem? e)
theorem Lim.set {b i x : Nat} {l : List Nat} (h : Lim b l) (hx : x < b) : Lim b (l.set i x) := by
  intro y hy
  rcases List.mem_or_eq_of_mem_set hy with h1 | h1
  · exact h y h1
  · omega

theorem val_nil {b : Nat} : val b [] = 0 := rfl
theorem val_cons {b x : Nat} {l : List Nat} : val b (x :: l) = x + b * val b l := rfl
theorem val_app {b : Nat} : ∀ {l l' : List Nat}, val b (l ++ l') = val b l + b ^ l.length * val b l'
  | [], l' => by simp [val]
  | x :: l, l' => by
    simp only [List.cons_append, val, val_app (l := l), List.length_cons, Nat.pow_succ]
    rw [Nat.mul_add, Nat.add_assoc, ← Nat.mul_assoc, Nat.mul_comm b (b ^ l.length)]
theorem val_one {b x : Nat} : val b [x] = x := by simp [val]
theorem val_snoc {b x : Nat} {l : List Nat} : val b (l ++ [x]) = val b l + b ^ l.length * x := by rw [val_app, val_one]
theorem val_zero {b : Nat} : ∀ {n : Nat}, val b (List.replicate n 0) = 0
  | 0 => rfl
  | n + 1 => by simp [List.replicate_succ, val, val_zero (n := n)]
theorem val_lt {b : Nat} : ∀ {l : List Nat}, Lim b l → val b l < b ^ l.length
  | [], _ => by simp [val]
  | x :: l, h => by
    rw [Lim.cons] at h
    have := val_lt h.2
    simp only [val, List.length_cons, Nat.pow_succ]
    have h2 : b * (val b l + 1) ≤ b * b ^ l.length := Nat.mul_le_mul_left b this
    rw [Nat.mul_add, Nat.mul_one] at h2
    rw [Nat.mul_comm (b ^ l.length)]
    omega
theorem val_take_drop {b n : Nat} {l : List Nat} (h : n ≤ l.length) : val b l = val b (l.take n) + b ^ n * val b (l.drop n) := by
  conv => lhs; rw [← List.take_append_drop n l]
  rw [val_app]; simp [Nat.min_eq_left h]

theorem snoc_cases {α : Type} (l : List α) : l = [] ∨ ∃ l' x, l = l' ++ [x] := by
  rcases List.eq_nil_or_concat l with h | ⟨l', x, h⟩
  · exact .inl h
  · exact .inr ⟨l', x, by simpa using h⟩

theorem val_trimZ {b : Nat} : ∀ (n : Nat) {l : List Nat}, l.length = n → val b (trimZ l) = val b l
  | 0, l, h => by have := List.eq_nil_of_length_eq_zero h; subst this; rfl
  | n + 1, l, h => by
    rcases snoc_cases l with rfl | ⟨l', x, rfl⟩
    · simp at h
    · by_cases hx : x = 0
      · subst hx; rw [trimZ_zero, val_snoc, val_trimZ n (by simpa using h)]; simp
      · rw [trimZ_last hx]
theorem trimZ_len_le : ∀ (n : Nat) {l : List Nat}, l.length = n → (trimZ l).length ≤ l.length
  | 0, l, h => by have := List.eq_nil_of_length_eq_zero h; subst this; simp [trimZ]
  | n + 1, l, h => by
    rcases snoc_cases l with rfl | ⟨l', x, rfl⟩
    · simp at h
    · by_cases hx : x = 0
      · subst hx; rw [trimZ_zero]; have := trimZ_len_le n (l := l') (by simpa using h); simp; omega
      · rw [trimZ_last hx]; simp
theorem trimZ_take : ∀ (n : Nat) {l : List Nat}, l.length = n → trimZ l = l.take (trimZ l).length
  | 0, l, h => by have := List.eq_nil_of_length_eq_zero h; subst this; simp [trimZ]
  | n + 1, l, h => by
    rcases snoc_cases l with rfl | ⟨l', x, rfl⟩
    · simp at h
    · by_cases hx : x = 0
      · subst hx; rw [trimZ_zero]
        have h1 := trimZ_len_le n (l := l') (by simpa using h)
        have h2 := trimZ_take n (l := l') (by simpa using h)
        rw [List.take_append_of_le_length h1]; exact h2
      · rw [trimZ_last hx, List.take_length]
theorem Lim.trimZ {b : Nat} {l : List Nat} (h : Lim b l) : Lim b (trimZ l) := by rw [trimZ_take _ rfl]; exact h.take
/-- None at the end a nought. -/
def Trimmed (l : List Nat) : Prop := trimZ l = l
theorem Trimmed.last {l : List Nat} {x : Nat} (h : Trimmed (l ++ [x])) : x ≠ 0 := by
  intro e; subst e
  unfold Trimmed at h
  rw [trimZ_zero] at h
  have h1 := trimZ_len_le _ (l := l) rfl
  rw [h] at h1; simp at h1; omega
theorem trimZ_trimmed : ∀ (n : Nat) {l : List Nat}, l.length = n → Trimmed (trimZ l)
  | 0, l, h => by have := List.eq_nil_of_length_eq_zero h; subst this; rfl
  | n + 1, l, h => by
    rcases snoc_cases l with rfl | ⟨l', x, rfl⟩
    · simp at h
    · by_cases hx : x = 0
      · subst hx; rw [trimZ_zero]; exact trimZ_trimmed n (by simpa using h)
      · rw [trimZ_last hx]; exact trimZ_last hx

theorem dig_lim {b : Nat} (hb : 2 ≤ b) : ∀ (x : Nat), Lim b (dig b x) := by
  intro x
  induction x using Nat.strongRecOn with
  | ind x ih =>
    by_cases hx : x = 0
    · subst hx; rw [dig_zero]; exact Lim.nil
    · rw [dig_pos hb hx, Lim.cons]; exact ⟨Nat.mod_lt _ (by omega), ih _ (Nat.div_lt_self (by omega) (by omega))⟩
theorem val_dig {b : Nat} (hb : 2 ≤ b) : ∀ (x : Nat), val b (dig b x) = x := by
  intro x
  induction x using Nat.strongRecOn with
  | ind x ih =>
    by_cases hx : x = 0
    · subst hx; rw [dig_zero]; rfl
    · rw [dig_pos hb hx, val, ih _ (Nat.div_lt_self (by omega) (by omega))]; exact Nat.mod_add_div _ _
theorem dig_of_trimmed {b : Nat} (hb : 2 ≤ b) : ∀ {l : List Nat}, Lim b l → Trimmed l → dig b (val b l) = l
  | [], _, _ => by simp [val, dig_zero]
  | x :: l, h, ht => by
    rw [Lim.cons] at h
    have ht' : Trimmed l := by
      rcases snoc_cases l with rfl | ⟨l', y, rfl⟩
      · rfl
      · have : Trimmed ((x :: l') ++ [y]) := ht
        exact trimZ_last this.last
    have hne : val b (x :: l) ≠ 0 := by
      intro e
      simp only [val] at e
      have hx0 : x = 0 := by omega
      have hb0 : b * val b l = 0 := by omega
      have hv0 : val b l = 0 := by
        rcases Nat.mul_eq_zero.1 hb0 with h1 | h1
        · omega
        · exact h1
      have hl := dig_of_trimmed hb h.2 ht'
      rw [hv0, dig_zero] at hl
      subst hl; subst hx0
      exact (Trimmed.last (l := []) ht) rfl
    rw [dig_pos hb hne]
    simp only [val]
    rw [Nat.add_mul_mod_self_left, Nat.mod_eq_of_lt h.1, Nat.add_mul_div_left _ _ (by omega), Nat.div_eq_of_lt h.1, Nat.zero_add, dig_of_trimmed hb h.2 ht']
theorem trimZ_dig {b : Nat} (hb : 2 ≤ b) {l : List Nat} (h : Lim b l) : trimZ l = dig b (val b l) := by
  rw [← val_trimZ _ rfl, dig_of_trimmed hb h.trimZ (trimZ_trimmed _ rfl)]
theorem dig_trimmed {b : Nat} (hb : 2 ≤ b) (x : Nat) : Trimmed (dig b x) := by
  unfold Trimmed; rw [trimZ_dig hb (dig_lim hb x), val_dig hb]
theorem dig_eq_nil {b x : Nat} (hb : 2 ≤ b) : dig b x = [] ↔ x = 0 := by
  constructor
  · intro h
    have := val_dig hb x
    rw [h] at this; simpa [val] using this.symm
  · rintro rfl; exact dig_zero
theorem dig_len_le {b x n : Nat} (hb : 2 ≤ b) (h : x < b ^ n) : (dig b x).length ≤ n := by
  rcases snoc_cases (dig b x) with e | ⟨l, y, e⟩
  · rw [e]; simp
  · have ht := dig_trimmed hb x
    rw [e] at ht
    have hy := ht.last
    have hv := val_dig hb x
    rw [e, val_snoc] at hv
    rw [e]; simp
    apply Nat.lt_of_not_le
    intro hn
    have h1 : b ^ n ≤ b ^ l.length := Nat.pow_le_pow_right (by omega) hn
    have h2 : b ^ l.length * 1 ≤ b ^ l.length * y := Nat.mul_le_mul_left _ (by omega)
    omega
theorem dig_len_lt {b x : Nat} (hb : 2 ≤ b) : x < b ^ (dig b x).length := by
  have := val_lt (dig_lim hb x)
  rwa [val_dig hb] at this
/-- A number is below another one whose digits are more. -/
theorem lt_of_len {b x y : Nat} (hb : 2 ≤ b) (h : (dig b x).length < (dig b y).length) : x < y := by
  have h1 := dig_len_lt (b := b) (x := x) hb
  apply Nat.lt_of_not_le
  intro hyx
  have := dig_len_le hb (Nat.lt_of_le_of_lt hyx h1)
  omega
theorem val_lt_of_top {b x y : Nat} {l l' : List Nat} (h : Lim b l) (he : l.length = l'.length) (hxy : x < y) : val b (l ++ [x]) < val b (l' ++ [y]) := by
  rw [val_snoc, val_snoc, ← he]
  have h1 := val_lt h
  have h2 : b ^ l.length * (x + 1) ≤ b ^ l.length * y := Nat.mul_le_mul_left _ hxy
  rw [Nat.mul_add, Nat.mul_one] at h2
  omega
theorem nth_app_len {l : List Nat} {x : Nat} : nth (l ++ [x]) l.length = x := by simp [nth, List.getD_eq_getElem?_getD]
theorem take_succ_nth {l : List Nat} {i : Nat} (h : i < l.length) : l.take (i + 1) = l.take i ++ [nth l i] := by
  rw [nth, List.take_add_one, List.getD_eq_getElem?_getD, List.getElem?_eq_getElem h]; rfl
theorem drop_eq_nth_cons {l : List Nat} {i : Nat} (h : i < l.length) : l.drop i = nth l i :: l.drop (i + 1) := by
  rw [nth, List.getD_eq_getElem?_getD, List.getElem?_eq_getElem h]; exact List.drop_eq_getElem_cons h
end Go.AM
end

section
set_option linter.unusedVariables false
set_option linter.unusedSimpArgs false
/- Memory that grows; rows of numbers in memory. -/
namespace Go.AM

theorem Tot.yes {c : Prop} [Decidable c] {a b : Nat → Option R} {Q : V → Heap → Prop} (h : c) (ha : Tot a Q) : Tot (fun n => if c then a n else b n) Q := Tot.ite (fun _ => ha) fun k => (k h).elim
theorem Tot.no {c : Prop} [Decidable c] {a b : Nat → Option R} {Q : V → Heap → Prop} (h : ¬ c) (hb : Tot b Q) : Tot (fun n => if c then a n else b n) Q := Tot.ite (fun k => (h k).elim) fun _ => hb

/-- Memory where only some things have changed. -/
structure Ch (X : Nat → Prop) (H H' : Heap) : Prop where
  n : H.n ≤ H'.n
  get : ∀ i, i < H.n → ¬ X i → H'.get i = H.get i
/-- Nothing has changed. -/
abbrev Ext0 (H H' : Heap) : Prop := Ch (fun _ => False) H H'

theorem Ch.refl {X : Nat → Prop} {H : Heap} : Ch X H H := ⟨Nat.le_refl _, fun _ _ _ => rfl⟩
theorem Ch.trans {X Y : Nat → Prop} {H H' H'' : Heap} (h : Ch X H H') (k : Ch Y H' H'') (hXY : ∀ i, i < H.n → Y i → X i) : Ch X H H'' :=
  ⟨Nat.le_trans h.n k.n, fun i hi hx => (k.get i (Nat.lt_of_lt_of_le hi h.n) fun y => hx (hXY i hi y)).trans (h.get i hi hx)⟩
theorem Ch.t {X : Nat → Prop} {H H' H'' : Heap} (h : Ch X H H') (k : Ext0 H' H'') : Ch X H H'' := h.trans k fun _ _ f => f.elim
theorem Ch.mono {X Y : Nat → Prop} {H H' : Heap} (h : Ch X H H') (hXY : ∀ i, i < H.n → X i → Y i) : Ch Y H H' := ⟨h.n, fun i hi hy => h.get i hi fun x => hy (hXY i hi x)⟩
theorem Ch.ext {X : Nat → Prop} {H H' : Heap} (h : Ch X H H') (hX : ∀ i, i < H.n → ¬ X i) : Ext0 H H' := h.mono fun i hi x => (hX i hi x).elim
theorem Ch.push {X : Nat → Prop} {H : Heap} {o : O} : Ch X H (H.push o) := ⟨by simp, fun i hi _ => by rw [Heap.get_push, if_neg (by omega)]⟩
theorem Ch.push' {X : Nat → Prop} {H H' : Heap} {o : O} (h : Ch X H H') : Ch X H (H'.push o) := h.trans (Y := X) Ch.push fun _ _ y => y
theorem Ch.set {X : Nat → Prop} {H : Heap} {i : Nat} {o : O} (hi : X i) : Ch X H (H.set i o) := ⟨by simp, fun j hj hx => by rw [Heap.get_set, if_neg (fun e => hx (by rw [e]; exact hi))]⟩
theorem Ch.more {X : Nat → Prop} {H : Heap} {m : Nat} : Ch X H (H.more m) := ⟨by simp, fun i hi _ => rfl⟩

theorem hn_push {H : Heap} {o : O} : (H.push o).n = H.n + 1 := (Eq.refl _).trans (Eq.refl _)
theorem hn_set {H : Heap} {i : Nat} {o : O} : (H.set i o).n = H.n := (Eq.refl _).trans (Eq.refl _)
theorem hn_more {H : Heap} {m : Nat} : (H.more m).n = H.n + m := (Eq.refl _).trans (Eq.refl _)
theorem Heap.get_push_ne {H : Heap} {i : Nat} {o : O} (h : i ≠ H.n) : (H.push o).get i = H.get i := by rw [Heap.get_push, if_neg h]
theorem Heap.get_push_eq {H : Heap} {i : Nat} {o : O} (h : i = H.n) : (H.push o).get i = o := by rw [Heap.get_push, if_pos h]
theorem Heap.get_set_ne {H : Heap} {i j : Nat} {o : O} (h : i ≠ j) : (H.set j o).get i = H.get i := by rw [Heap.get_set, if_neg h]
theorem Heap.get_set_eq {H : Heap} {i j : Nat} {o : O} (h : i = j) : (H.set j o).get i = o := by rw [Heap.get_set, if_pos h]

/-! Rows of numbers -/
abbrev nums (k : IntKind) (l : List Nat) : List V := l.map fun (x : Nat) => V.int k x

/-- A slice of numbers. -/
structure Row (H : Heap) (k : IntKind) (s : Sl) (l : List Nat) : Prop where
  len : s.len = l.length
  low : ∀ b o, s.ad = some (b, o) → b < H.n ∧ s.esz = 1
  mem : l ≠ [] → ∃ b o cs e ro, s.ad = some (b, o) ∧ H.get b = .cells cs e ro ∧ o + l.length ≤ cs.length ∧ (cs.drop o).take l.length = nums k l

/-- The ids that a slice has. -/
def Sl.has (s : Sl) (i : Nat) : Prop := ∃ o, s.ad = some (i, o)
/-- All its ids are new. -/
def Fr (n : Nat) (s : Sl) : Prop := ∀ i, s.has i → n ≤ i
def at_ (s : Sl) (i : Nat) : V := match s.ad with
  | some (b, o) => .ptr (some (b, o + i))
  | none => .dead

theorem Row.ch {X : Nat → Prop} {H H' : Heap} {k : IntKind} {s : Sl} {l : List Nat} (h : Row H k s l) (e : Ch X H H') (hX : ∀ i, s.has i → ¬ X i) : Row H' k s l := by
  refine ⟨h.len, fun b o hs => ⟨Nat.lt_of_lt_of_le (h.low b o hs).1 e.n, (h.low b o hs).2⟩, fun hl => ?_⟩
  obtain ⟨b, o, cs, e', ro, h1, h2, h3, h4⟩ := h.mem hl
  exact ⟨b, o, cs, e', ro, h1, by rw [e.get b (h.low b o h1).1 (hX b ⟨o, h1⟩)]; exact h2, h3, h4⟩
theorem Row.ext {H H' : Heap} {k : IntKind} {s : Sl} {l : List Nat} (h : Row H k s l) (e : Ext0 H H') : Row H' k s l := h.ch e fun _ _ f => f
theorem Row.lt {H : Heap} {k : IntKind} {s : Sl} {l : List Nat} (h : Row H k s l) {i : Nat} (hs : s.has i) : i < H.n := by
  obtain ⟨o, hs⟩ := hs; exact (h.low i o hs).1
theorem Row.nil {H : Heap} {k : IntKind} {z : Nat} {f : Bool} : Row H k ⟨none, 0, z, f⟩ [] := ⟨rfl, fun _ _ h => (by cases h), fun h => (h rfl).elim⟩
theorem Row.new {H : Heap} {k : IntKind} {l : List Nat} {b e : Nat} {ro f : Bool} (hb : b < H.n) (hg : H.get b = .cells (nums k l) e ro) : Row H k ⟨some (b, 0), l.length, 1, f⟩ l :=
  ⟨rfl, fun c o h => by (cases h; exact ⟨hb, rfl⟩), fun _ => ⟨b, 0, nums k l, e, ro, rfl, hg, by simp, by rw [List.drop_zero, List.take_of_length_le (by simp)]⟩⟩

theorem Row.lenSl {H : Heap} {k : IntKind} {s : Sl} {l : List Nat} (h : Row H k s l) : lenSl (.slice s) = some (.int .i64 (l.length : Int)) := by
  simp [AM.lenSl, h.len]

theorem Row.idx {H : Heap} {k : IntKind} {s : Sl} {l : List Nat} (h : Row H k s l) {q : IntKind} {i : Int} (h0 : 0 ≤ i) (h1 : i < (l.length : Int)) : idxS 1 (.slice s) (.int q i) = some (at_ s i.toNat) := by
  have hl : l ≠ [] := by intro e; subst e; simp at h1; omega
  obtain ⟨b, o, cs, e', ro, a1, a2, a3, a4⟩ := h.mem hl
  have := (h.low b o a1).2
  simp [idxS, a1, h0, h.len, h1, this, at_]

theorem Row.idxN {H : Heap} {k : IntKind} {s : Sl} {l : List Nat} (h : Row H k s l) {i : Nat} (hi : i < l.length) {q : IntKind} {iv : Int} (he : iv = (i : Int)) : idxS 1 (.slice s) (.int q iv) = some (at_ s i) := by
  rw [h.idx (by omega) (by omega)]; subst he; simp

theorem Row.get {H : Heap} {k : IntKind} {s : Sl} {l : List Nat} (h : Row H k s l) {i : Nat} (hi : i < l.length) : ld1 (at_ s i) H = some (.int k (nth l i : Nat)) := by
  have hl : l ≠ [] := by intro e; subst e; simp at hi
  obtain ⟨b, o, cs, e', ro, a1, a2, a3, a4⟩ := h.mem hl
  simp only [at_, a1, ld1, a2]
  have h5 : ((cs.drop o).take l.length)[i]? = (nums k l)[i]? := by rw [a4]
  rw [List.getElem?_take, if_pos hi, List.getElem?_drop] at h5
  rw [h5]
  simp [nums, nth, List.getElem?_eq_getElem hi, List.getD_eq_getElem?_getD]

theorem Row.ld {H : Heap} {k : IntKind} {s : Sl} {l : List Nat} (h : Row H k s l) {i : Int} (h0 : 0 ≤ i) (h1 : i < (l.length : Int)) : ld1 (at_ s i.toNat) H = some (.int k (nth l i.toNat : Nat)) :=
  h.get (by omega)

/-- Its cells. -/
theorem Row.rd {H : Heap} {k : IntKind} {s : Sl} {l : List Nat} (h : Row H k s l) : rdS s H = some (nums k l) := by
  by_cases hl : l = []
  · subst hl
    have := h.len
    simp at this
    unfold rdS
    split <;> simp [this, nums]
  · obtain ⟨b, o, cs, e', ro, a1, a2, a3, a4⟩ := h.mem hl
    have h2 := (h.low b o a1).2
    have hn : ¬ s.len = 0 := by rw [h.len]; simpa using hl
    unfold rdS
    rw [a1]
    simp only [if_neg hn, a2, h2, Nat.mul_one]
    rw [h.len, if_pos a3, a4]

theorem Row.src {H : Heap} {k : IntKind} {s : Sl} {l : List Nat} (h : Row H k s l) : srcA 1 (.slice s) H = some (l.length, nums k l) := by
  have : s.ad.isNone = true ∨ s.esz = 1 := by
    cases hs : s.ad with
    | none => exact .inl rfl
    | some p => exact .inr (h.low p.1 p.2 (by rw [hs])).2
  simp only [srcA, if_pos this, h.rd, Option.map_some, h.len]

/-- A part of a slice. -/
def subS (s : Sl) (lo hi : Nat) : Sl := ⟨s.ad.map fun (b, o) => (b, o + lo), hi - lo, 1, false⟩

theorem subS_has {s : Sl} {lo hi i : Nat} : (subS s lo hi).has i ↔ s.has i := by
  unfold Sl.has subS
  cases s.ad with
  | none => simp
  | some p => obtain ⟨b, o⟩ := p; simp

theorem Row.sub {H : Heap} {k : IntKind} {s : Sl} {l : List Nat} (h : Row H k s l) {lo hi : Nat} (h1 : lo ≤ hi) (h2 : hi ≤ l.length) : Row H k (subS s lo hi) ((l.drop lo).take (hi - lo)) := by
  refine ⟨by simp [subS]; omega, ?_, ?_⟩
  · intro b o hs
    unfold subS at hs ⊢
    cases ha : s.ad with
    | none => rw [ha] at hs; simp at hs
    | some p => rw [ha] at hs; simp at hs; exact ⟨by have := (h.low p.1 p.2 (by rw [ha])).1; omega, rfl⟩
  · intro hl
    have hne : l ≠ [] := by intro e; subst e; simp at hl
    obtain ⟨b, o, cs, e', ro, a1, a2, a3, a4⟩ := h.mem hne
    refine ⟨b, o + lo, cs, e', ro, by simp [subS, a1], a2, by simp; omega, ?_⟩
    have hlen : ((l.drop lo).take (hi - lo)).length = hi - lo := by simp; omega
    rw [hlen, ← List.drop_drop]
    have : ((cs.drop o).take l.length).drop lo = (nums k l).drop lo := by rw [a4]
    rw [List.drop_take] at this
    have h6 : (((cs.drop o).drop lo).take (l.length - lo)).take (hi - lo) = ((nums k l).drop lo).take (hi - lo) := by rw [this]
    rw [List.take_take, show min (hi - lo) (l.length - lo) = hi - lo by omega] at h6
    rw [h6]; simp [nums, List.map_drop, List.map_take]

theorem Row.slice {H : Heap} {k : IntKind} {s : Sl} {l : List Nat} (h : Row H k s l) {lo hi : Option V} {a b : Nat} (hlo : bndA 0 lo = some a) (hhi : bndA s.len hi = some b) (h1 : a ≤ b) (h2 : b ≤ l.length) :
    slSl 1 (.slice s) lo hi = some (.slice (subS s a b)) := by
  have : s.ad.isNone = true ∨ s.esz = 1 := by
    cases hs : s.ad with
    | none => exact .inl rfl
    | some p => exact .inr (h.low p.1 p.2 (by rw [hs])).2
  have h3 : b ≤ s.len := by rw [h.len]; exact h2
  simp only [slSl, hlo, hhi, Option.bind_some]
  rw [if_pos ⟨h1, h3, this⟩]
  simp [subS]

theorem bndA_int {d : Nat} {q : IntKind} {i : Int} (h : 0 ≤ i) : bndA d (some (.int q i)) = some i.toNat := by simp [bndA, h]
theorem bndA_none {d : Nat} : bndA d none = some d := rfl

theorem Fr.nil {n z l : Nat} {f : Bool} : Fr n ⟨none, l, z, f⟩ := fun i hi => by unfold Sl.has at hi; simp at hi

/-! Own slices, grown at the end -/
/-- A slice of its own, whose thing it fills; or nil. -/
def Own (H : Heap) (k : IntKind) (e : Nat) (s : Sl) (l : List Nat) : Prop :=
  (s = ⟨none, 0, 0, false⟩ ∧ l = []) ∨ ∃ b, s = ⟨some (b, 0), l.length, 1, false⟩ ∧ b < H.n ∧ H.get b = .cells (nums k l) e false

theorem Own.row {H : Heap} {k : IntKind} {e : Nat} {s : Sl} {l : List Nat} (h : Own H k e s l) : Row H k s l := by
  rcases h with ⟨rfl, rfl⟩ | ⟨b, rfl, h1, h2⟩
  · exact Row.nil
  · exact Row.new h1 h2
theorem Own.ch {X : Nat → Prop} {H H' : Heap} {k : IntKind} {e : Nat} {s : Sl} {l : List Nat} (h : Own H k e s l) (c : Ch X H H') (hX : ∀ i, s.has i → ¬ X i) : Own H' k e s l := by
  rcases h with h | ⟨b, rfl, h1, h2⟩
  · exact .inl h
  · exact .inr ⟨b, rfl, Nat.lt_of_lt_of_le h1 c.n, by rw [c.get b h1 (hX b ⟨0, rfl⟩)]; exact h2⟩
theorem Own.ext {H H' : Heap} {k : IntKind} {e : Nat} {s : Sl} {l : List Nat} (h : Own H k e s l) (c : Ext0 H H') : Own H' k e s l := h.ch c fun _ _ f => f

theorem has_mk {b o len z : Nat} {f : Bool} {i : Nat} : (Sl.mk (some (b, o)) len z f).has i ↔ i = b := by
  unfold Sl.has; constructor
  · rintro ⟨o', h⟩; simp at h; exact h.1.symm
  · rintro rfl; exact ⟨o, rfl⟩
theorem has_none {len z : Nat} {f : Bool} {i : Nat} : (Sl.mk none len z f).has i ↔ False := by
  unfold Sl.has; simp

theorem all_one_nums {k : IntKind} {l : List Nat} : (nums k l).all V.one = true := by simp [nums, V.one]
theorem rowA_nums {k : IntKind} : ∀ n, rowA [.int k 0] n = nums k (List.replicate n 0)
  | 0 => rfl
  | n + 1 => by
    have := rowA_nums (k := k) n
    simp only [rowA, this, nums, List.replicate_succ, List.map_cons, List.cons_append, List.nil_append]
    rfl

/-- append, general: what comes behind is known. -/
theorem appA_own {H : Heap} {k : IntKind} {e by_ : Nat} {s : Sl} {l l' : List Nat} (h : Own H k e s l) {x : V} (hx : srcA 1 x H = some (l'.length, nums k l')) (hl : l.length + l'.length < 2147483648) (hb : by_ ≤ 4096) :
    ∃ s' H', appA 1 by_ e (.slice s) x H = some (.slice s', H') ∧ Own H' k e s' (l ++ l') ∧ Ch s.has H H' ∧ (∀ i, s'.has i → s.has i ∨ H.n ≤ i) := by
  unfold appA
  simp only [hx, Option.bind_some]
  by_cases h0 : l'.length = 0
  · have : l' = [] := List.eq_nil_of_length_eq_zero h0
    subst this
    rw [if_pos (show ([] : List Nat).length = 0 from rfl)]
    refine ⟨_, H, rfl, ?_, Ch.refl, ?_⟩
    · rw [List.append_nil]
      rcases h with ⟨rfl, rfl⟩ | ⟨b, rfl, h1, h2⟩
      · exact .inl ⟨rfl, rfl⟩
      · exact .inr ⟨b, rfl, h1, h2⟩
    · rintro i ⟨o, ho⟩; exact .inl ⟨o, ho⟩
  · rw [if_neg h0]
    have hc : s.len + l'.length < 2147483648 ∧ by_ ≤ 4096 ∧ (s.ad.isNone = true ∨ s.esz = 1) := by
      refine ⟨by rw [h.row.len]; exact hl, hb, ?_⟩
      rcases h with ⟨rfl, rfl⟩ | ⟨b, rfl, h1, h2⟩
      · exact .inl rfl
      · exact .inr rfl
    rw [if_pos hc]
    simp only [h.row.rd, Option.bind_some]
    have hlen := h.row.len
    rcases h with ⟨rfl, rfl⟩ | ⟨b, rfl, h1, h2⟩
    · simp only [killA, Option.bind_some]
      refine ⟨_, _, rfl, .inr ⟨H.n, by simp, by simp, ?_⟩, Ch.push, ?_⟩
      · rw [Heap.get_push_eq rfl]; simp [nums]
      · intro i hi; rw [has_mk] at hi; right; omega
    · simp only [killA, Bool.false_eq_true, if_false, h2, if_true, Option.bind_some]
      refine ⟨_, _, rfl, .inr ⟨H.n, by simp, by simp, ?_⟩, ?_, ?_⟩
      · rw [Heap.get_push_eq (by simp)]; simp [nums]
      · exact (Ch.set (by rw [has_mk])).trans (Y := (Sl.mk (some (b, 0)) l.length 1 false).has) Ch.push fun _ _ y => y
      · intro i hi; rw [has_mk] at hi; right; simp at hi; omega

/-- append of one. -/
theorem Tot.app1 {H : Heap} {k : IntKind} {e by_ : Nat} {s : Sl} {l : List Nat} (h : Own H k e s l) {z : V} {x : Nat} {xi : Int} (hl : l.length < 2147483647) (hx : xi = (x : Int)) (hb : by_ ≤ 4096) (hz : [z].all V.one = true) {K : Nat → R → Option R} {Q : V → Heap → Prop}
    (hk : ∀ s' H', Own H' k e s' (l ++ [x]) → Ch s.has H H' → (∀ i, s'.has i → s.has i ∨ H.n ≤ i) → Tot (fun n => K n (.slice s', H')) Q) :
    Tot (fun n => bnd (bSl 1 e [z] 1 [(0, .int k xi)]) fun o => bnd (appA 1 by_ e (.slice s) (.slice ⟨some (H.n, 0), 1, 1, false⟩) (H.push o)) (K n)) Q := by
  subst hx
  have hz' : z.one = true := by simpa using hz
  have e1 : bSl 1 e [z] 1 [(0, .int k x)] = some (.cells [.int k x] e false) := by
    have h1 : ([z].length = 1) := rfl
    have h2 : V.cells (.int k (x : Int)) = [.int k x] := rfl
    simp [bSl, hz', rowA, fillA, h2, lset, show V.one (.int k (x : Int)) = true from rfl]
  rw [e1]
  show Tot (fun n => bnd (appA 1 by_ e (.slice s) (.slice ⟨some (H.n, 0), 1, 1, false⟩) (H.push (.cells [.int k x] e false))) (K n)) Q
  have hsrc : srcA 1 (.slice ⟨some (H.n, 0), 1, 1, false⟩) (H.push (.cells [.int k x] e false)) = some ([x].length, nums k [x]) := by
    have : Row (H.push (.cells [.int k x] e false)) k ⟨some (H.n, 0), 1, 1, false⟩ [x] := Row.new (l := [x]) (b := H.n) (e := e) (ro := false) (by simp) (by rw [Heap.get_push_eq rfl]; simp [nums])
    exact this.src
  have h' : Own (H.push (.cells [.int k x] e false)) k e s l := h.ext Ch.push
  obtain ⟨s', H', a1, a2, a3, a4⟩ := appA_own (by_ := by_) h' hsrc (by simp; omega) hb
  rw [a1]
  refine hk s' H' a2 ((Ch.push (X := s.has)).trans a3 fun _ _ y => y) fun i hi => ?_
  rcases a4 i hi with h | h
  · exact .inl h
  · right; simp at h; omega

theorem Own.new {H : Heap} {k : IntKind} {e : Nat} {l : List Nat} : Own (H.push (.cells (nums k l) e false)) k e ⟨some (H.n, 0), l.length, 1, false⟩ l :=
  .inr ⟨H.n, rfl, by simp, Heap.get_push_eq rfl⟩
theorem nums_rep {k : IntKind} {n : Nat} : nums k (List.replicate n 0) = List.replicate n (.int k 0) := by simp [nums]
theorem Own.make {H : Heap} {k : IntKind} {e n : Nat} : Own (H.push (.cells (List.replicate n (.int k 0)) e false)) k e ⟨some (H.n, 0), n, 1, false⟩ (List.replicate n 0) :=
  .inr ⟨H.n, by simp, by simp, by rw [nums_rep]; exact Heap.get_push_eq rfl⟩

/-! A part of a thing of its own, which is written -/
/-- p: what lies ahead of it, q: behind it. -/
structure Mut (H : Heap) (k : IntKind) (e b : Nat) (p l q : List Nat) (s : Sl) : Prop where
  ad : s.ad = some (b, p.length)
  len : s.len = l.length
  esz : s.esz = 1
  lt : b < H.n
  get : H.get b = .cells (nums k (p ++ l ++ q)) e false

theorem Mut.row {H : Heap} {k : IntKind} {e b : Nat} {p l q : List Nat} {s : Sl} (h : Mut H k e b p l q s) : Row H k s l :=
  ⟨h.len, fun c o hs => by rw [h.ad] at hs; cases hs; exact ⟨h.lt, h.esz⟩, fun _ => ⟨b, p.length, _, e, false, h.ad, h.get, by simp <;> omega, by
    simp only [nums, List.map_append, List.append_assoc]
    rw [List.drop_left' (by simp)]
    rw [List.take_left' (by simp)]⟩⟩
theorem Mut.has {H : Heap} {k : IntKind} {e b : Nat} {p l q : List Nat} {s : Sl} (h : Mut H k e b p l q s) {i : Nat} : s.has i ↔ i = b := by
  unfold Sl.has; rw [h.ad]; constructor
  · rintro ⟨o, h⟩; simp at h; exact h.1.symm
  · rintro rfl; exact ⟨_, rfl⟩
theorem Mut.ch {X : Nat → Prop} {H H' : Heap} {k : IntKind} {e b : Nat} {p l q : List Nat} {s : Sl} (h : Mut H k e b p l q s) (c : Ch X H H') (hX : ¬ X b) : Mut H' k e b p l q s :=
  ⟨h.ad, h.len, h.esz, Nat.lt_of_lt_of_le h.lt c.n, by rw [c.get b h.lt hX]; exact h.get⟩
theorem Mut.ext {H H' : Heap} {k : IntKind} {e b : Nat} {p l q : List Nat} {s : Sl} (h : Mut H k e b p l q s) (c : Ext0 H H') : Mut H' k e b p l q s := h.ch c fun f => f
theorem Mut.own {H : Heap} {k : IntKind} {e b : Nat} {l : List Nat} {s : Sl} (h : Mut H k e b [] l [] s) (hf : s.full = false) : Own H k e s l := by
  refine .inr ⟨b, ?_, h.lt, by simpa using h.get⟩
  cases s with
  | mk a n z f =>
    have h1 := h.ad; have h2 := h.len; have h3 := h.esz
    simp at h1 h2 h3 hf
    subst h1 h2 h3 hf; rfl
theorem Own.mut {H : Heap} {k : IntKind} {e : Nat} {l : List Nat} {s : Sl} (h : Own H k e s l) (hl : l ≠ []) : ∃ b, Mut H k e b [] l [] s ∧ s.full = false := by
  rcases h with ⟨_, rfl⟩ | ⟨b, rfl, h1, h2⟩
  · exact (hl rfl).elim
  · exact ⟨b, ⟨rfl, rfl, rfl, h1, by simpa using h2⟩, rfl⟩
theorem Mut.make {H : Heap} {k : IntKind} {e n : Nat} : Mut (H.push (.cells (List.replicate n (.int k 0)) e false)) k e H.n [] (List.replicate n 0) [] ⟨some (H.n, 0), n, 1, false⟩ :=
  ⟨rfl, by simp, rfl, by simp, by rw [Heap.get_push_eq rfl]; simp⟩
/-- The whole of a thing, seen as a part of it. -/
theorem Mut.part {H : Heap} {k : IntKind} {e b : Nat} {l p m q : List Nat} {s : Sl} (h : Mut H k e b [] l [] s) (he : l = p ++ m ++ q) : Mut H k e b p m q (subS s p.length (p.length + m.length)) :=
  ⟨by simp [subS, h.ad], by simp [subS], rfl, h.lt, by rw [h.get, he]; simp⟩
theorem Mut.whole {H : Heap} {k : IntKind} {e b : Nat} {l p m q : List Nat} {s t : Sl} (h : Mut H k e b p m q t) (hs : s.ad = some (b, 0)) (hz : s.esz = 1) (he : l = p ++ m ++ q) (hn : s.len = l.length) : Mut H k e b [] l [] s :=
  ⟨hs, hn, hz, h.lt, by rw [h.get, he]; simp⟩

theorem Mut.cut {H : Heap} {k : IntKind} {e b i j : Nat} {l : List Nat} {s : Sl} (h : Mut H k e b [] l [] s) (h1 : i ≤ j) (h2 : j ≤ l.length) : Mut H k e b (l.take i) ((l.drop i).take (j - i)) (l.drop j) (subS s i j) := by
  have he : l = l.take i ++ (l.drop i).take (j - i) ++ l.drop j := by
    have e1 : l.drop j = (l.drop i).drop (j - i) := by rw [List.drop_drop]; congr 1; omega
    rw [e1, List.append_assoc, List.take_append_drop, List.take_append_drop]
  have := h.part he
  have e1 : (l.take i).length = i := by simp; omega
  have e2 : ((l.drop i).take (j - i)).length = j - i := by simp; omega
  rw [e1, e2, show i + (j - i) = j by omega] at this
  exact this
theorem Mut.pre {H : Heap} {k : IntKind} {e b : Nat} {l l1 l2 q : List Nat} {s t : Sl} (h : Mut H k e b [] l q s) (he : l = l1 ++ l2) (h1 : t.ad = s.ad) (h2 : t.esz = 1) (h3 : t.len = l1.length) : Mut H k e b [] l1 (l2 ++ q) t :=
  ⟨by rw [h1, h.ad], h3, h2, h.lt, by rw [h.get, he]; simp⟩
theorem lset_one {cs : List V} {o : Nat} {x : V} : lset cs o [x] = cs.set o x := rfl
theorem Mut.st {H : Heap} {k : IntKind} {e b : Nat} {p l q : List Nat} {s : Sl} (h : Mut H k e b p l q s) {i x : Nat} {xi : Int} (hi : i < l.length) (hx : xi = (x : Int)) :
    ∃ H', stA 1 (at_ s i) (.int k xi) H = some H' ∧ Mut H' k e b p (l.set i x) q s ∧ Ch (· = b) H H' := by
  subst hx
  refine ⟨H.set b (.cells (nums k (p ++ l.set i x ++ q)) e false), ?_, ⟨h.ad, by simp [h.len], h.esz, by simp [h.lt], by rw [Heap.get_set_eq rfl]⟩, Ch.set rfl⟩
  have hc : V.cells (.int k (x : Int)) = [.int k x] := rfl
  simp only [at_, h.ad, stA, h.get, hc]
  rw [if_pos ⟨rfl, by simp; omega, by simp [V.one]⟩, lset_one]
  congr 3
  simp only [nums, ← List.map_set (f := fun (x : Nat) => V.int k x)]
  congr 1
  rw [List.append_assoc, List.append_assoc, List.set_append_right _ _ (by omega), show p.length + i - p.length = i by omega, List.set_append_left _ _ hi]
/-- A store, in order. -/
theorem Tot.st {H : Heap} {k : IntKind} {e b : Nat} {p l q : List Nat} {s : Sl} (h : Mut H k e b p l q s) {i x : Nat} {xi : Int} (hi : i < l.length) (hx : xi = (x : Int)) {K : Nat → Heap → Option R} {Q : V → Heap → Prop}
    (hk : ∀ H', Mut H' k e b p (l.set i x) q s → Ch (· = b) H H' → Tot (fun n => K n H') Q) : Tot (fun n => bnd (stA 1 (at_ s i) (.int k xi) H) (K n)) Q := by
  obtain ⟨H', h1, h2, h3⟩ := h.st hi hx
  simp only [h1, bnd_some]
  exact hk H' h2 h3

theorem mkSl_nums {by_ e : Nat} {k q q' : IntKind} {l c : Int} (h : 0 ≤ l ∧ l ≤ c ∧ c < 2147483648 ∧ by_ ≤ 4096) :
    mkSl 1 by_ e [.int k 0] (.int q l) (.int q' c) = some (.cells (List.replicate l.toNat (.int k 0)) e false, l.toNat) := by
  simp only [mkSl]
  rw [if_pos ⟨h.1, h.2.1, h.2.2.1, h.2.2.2, rfl, rfl⟩, rowA_nums, nums_rep]
theorem mkSl_zero {by_ e : Nat} {k q q' : IntKind} {c : Int} (h : 0 ≤ c ∧ c < 2147483648 ∧ by_ ≤ 4096) :
    mkSl 1 by_ e [.int k 0] (.int q 0) (.int q' c) = some (.cells (nums k []) e false, 0) := by
  rw [mkSl_nums (by omega)]; rfl
end Go.AM
end

section
set_option linter.unusedVariables false
set_option linter.unusedSimpArgs false
/- The machine's operations on numbers and cells that are known: rules for simp. -/
namespace Go.AM

theorem wrap_i64 {n : Int} (h : -9223372036854775808 ≤ n ∧ n ≤ 9223372036854775807) : IntKind.i64.wrap n = n := IntWalk.i64_in n h
theorem wrap_u64 {n : Int} (h : 0 ≤ n ∧ n ≤ 18446744073709551615) : IntKind.u64.wrap n = n := IntWalk.u64_in n h
theorem wrap_u32 {n : Int} (h : 0 ≤ n ∧ n ≤ 4294967295) : IntKind.u32.wrap n = n := IntWalk.u32_in n h
theorem wrap_u8 {n : Int} (h : 0 ≤ n ∧ n ≤ 255) : IntKind.u8.wrap n = n := IntWalk.u8_in n h
theorem wrap_u32m (n : Int) : IntKind.u32.wrap n = n % 4294967296 := IntKind.wrap_u32 n
theorem wrap_u64m (n : Int) : IntKind.u64.wrap n = n % 18446744073709551616 := rfl
theorem wrap_u8m (n : Int) : IntKind.u8.wrap n = n % 256 := IntKind.wrap_u8 n

theorem ar_add {k : IntKind} {a b : Int} : arA .add (.int k a) (.int k b) = some (.int k (k.wrap (a + b))) := by simp [arA, intA]
theorem ar_sub {k : IntKind} {a b : Int} : arA .sub (.int k a) (.int k b) = some (.int k (k.wrap (a - b))) := by simp [arA, intA]
theorem ar_mul {k : IntKind} {a b : Int} : arA .mul (.int k a) (.int k b) = some (.int k (k.wrap (a * b))) := by simp [arA, intA]
theorem ar_quo {k : IntKind} {a b : Int} (h : 0 ≤ a ∧ 1 ≤ b) : arA .quo (.int k a) (.int k b) = some (.int k (k.wrap (a / b))) := by
  have : b ≠ 0 := by omega
  simp [arA, intA, this, Int.tdiv_eq_ediv_of_nonneg h.1]
theorem ar_rem {k : IntKind} {a b : Int} (h : 0 ≤ a ∧ 1 ≤ b) : arA .rem (.int k a) (.int k b) = some (.int k (a % b)) := by
  have : b ≠ 0 := by omega
  simp [arA, intA, this, Int.tmod_eq_emod_of_nonneg h.1]
theorem ar_lss {k : IntKind} {a b : Int} : arA .lss (.int k a) (.int k b) = some (.bool (decide (a < b))) := by simp [arA, intA]
theorem ar_leq {k : IntKind} {a b : Int} : arA .leq (.int k a) (.int k b) = some (.bool (decide (a ≤ b))) := by simp [arA, intA]
theorem ar_gtr {k : IntKind} {a b : Int} : arA .gtr (.int k a) (.int k b) = some (.bool (decide (a > b))) := by simp [arA, intA]
theorem ar_geq {k : IntKind} {a b : Int} : arA .geq (.int k a) (.int k b) = some (.bool (decide (a ≥ b))) := by simp [arA, intA]
theorem ar_eql {k : IntKind} {a b : Int} : arA .eql (.int k a) (.int k b) = some (.bool (decide (a = b))) := by
  have : (a == b) = decide (a = b) := by by_cases h : a = b <;> simp [h]
  simp [arA, intA, this]
theorem ar_neq {k : IntKind} {a b : Int} : arA .neq (.int k a) (.int k b) = some (.bool (decide (a ≠ b))) := by
  have : (a != b) = decide (a ≠ b) := by by_cases h : a = b <;> simp [h]
  simp [arA, intA, this]
theorem shr_u64 {q : IntKind} {a : Int} (h : 0 ≤ a) : shA .shr (.int .u64 a) (.int q 32) = some (.int .u64 (a / 4294967296)) := by
  simp [shA, shiftA, IntKind.bits, Int.fdiv_eq_ediv_of_nonneg]
theorem shr_u64_63 {q : IntKind} {a : Int} (h : 0 ≤ a) : shA .shr (.int .u64 a) (.int q 63) = some (.int .u64 (a / 9223372036854775808)) := by
  simp [shA, shiftA, IntKind.bits, Int.fdiv_eq_ediv_of_nonneg]
theorem wrap_u64_pos (z : Int) : 0 ≤ IntKind.u64.wrap z := by rw [wrap_u64m]; exact Int.emod_nonneg _ (by decide)
theorem shr_u64w {q : IntKind} {a : Int} : shA .shr (.int .u64 (IntKind.u64.wrap a)) (.int q 32) = some (.int .u64 (IntKind.u64.wrap a / 4294967296)) := shr_u64 (wrap_u64_pos _)
theorem shr_u64_63w {q : IntKind} {a : Int} : shA .shr (.int .u64 (IntKind.u64.wrap a)) (.int q 63) = some (.int .u64 (IntKind.u64.wrap a / 9223372036854775808)) := shr_u64_63 (wrap_u64_pos _)
theorem asB_bool {b : Bool} : asB (.bool b) = some b := (Eq.refl _).trans (Eq.refl _)
theorem cv_int {k k' : IntKind} {n : Int} : cvInt k (.int k' n) = some (.int k (k.wrap n)) := (Eq.refl _).trans (Eq.refl _)
theorem ext_tuple {vs : List V} {i : Nat} : extA (.tuple vs) i = vs[i]? := (Eq.refl _).trans (Eq.refl _)
theorem lenSl_mk {a : Option (Nat × Nat)} {l z : Nat} {f : Bool} : lenSl (.slice ⟨a, l, z, f⟩) = some (.int .i64 (l : Int)) := (Eq.refl _).trans (Eq.refl _)
theorem faA_mk {b o off : Nat} : faA off (.ptr (some (b, o))) = some (.ptr (some (b, o + off))) := (Eq.refl _).trans (Eq.refl _)
theorem ld1_mk {b o : Nat} {H : Heap} {cs : List V} {e : Nat} {r : Bool} (h : H.get b = .cells cs e r) : ld1 (.ptr (some (b, o))) H = cs[o]? := by simp [ld1, h]
theorem ldN_mk {n b o : Nat} {H : Heap} {cs : List V} {e : Nat} {r : Bool} (h : H.get b = .cells cs e r) (hn : o + n ≤ cs.length) : ldN n (.ptr (some (b, o))) H = some (.agg ((cs.drop o).take n)) := by simp [ldN, h, hn]

attribute [simp] ar_add ar_sub ar_mul ar_quo ar_rem ar_lss ar_leq ar_gtr ar_geq ar_eql ar_neq shr_u64 shr_u64_63 shr_u64w shr_u64_63w asB_bool cv_int ext_tuple lenSl_mk faA_mk
theorem carry (b p t r : Nat) : p * (t % b) + p * b * (t / b + r) = p * (t + b * r) := by
  have h := Nat.mod_add_div t b
  generalize t % b = u at *
  generalize t / b = v at *
  subst h
  grind
theorem more_zero {H : Heap} : H.more 0 = H := (Eq.refl _).trans (Eq.refl _)
attribute [simp] more_zero mkSl_nums
attribute [simp high] mkSl_zero
attribute [simp] wrap_i64 wrap_u64 wrap_u32 wrap_u8 bndA_int bndA_none

/-! Structs -/
theorem one_bool {b : Bool} : V.one (.bool b) = true := (Eq.refl _).trans (Eq.refl _)
theorem one_int {k : IntKind} {n : Int} : V.one (.int k n) = true := (Eq.refl _).trans (Eq.refl _)
theorem one_slice {s : Sl} : V.one (.slice s) = true := (Eq.refl _).trans (Eq.refl _)
theorem one_str {s : List UInt8} : V.one (.str s) = true := (Eq.refl _).trans (Eq.refl _)
theorem cells_bool {b : Bool} : V.cells (.bool b) = [.bool b] := (Eq.refl _).trans (Eq.refl _)
theorem cells_int {k : IntKind} {n : Int} : V.cells (.int k n) = [.int k n] := (Eq.refl _).trans (Eq.refl _)
theorem cells_slice {s : Sl} : V.cells (.slice s) = [.slice s] := (Eq.refl _).trans (Eq.refl _)
theorem cells_agg {l : List V} : V.cells (.agg l) = l := (Eq.refl _).trans (Eq.refl _)
theorem boxA_agg {e : Nat} {cs : List V} (h : cs.all V.one = true) : boxA e (.agg cs) = some (.cells cs e false) := by simp only [boxA, cells_agg, h, if_true]
theorem un_not {b : Bool} : unA .not (.bool b) = some (.bool !b) := (Eq.refl _).trans (Eq.refl _)
theorem un_neg {k : IntKind} {n : Int} : unA .neg (.int k n) = some (.int k (k.wrap (0 - n))) := (Eq.refl _).trans (Eq.refl _)
theorem chk_bool {b : Bool} : chk (some (.bool b)) (.bool b) = some () := by simp [chk, V.beq]
theorem chk_int {k : IntKind} {n : Int} : chk (some (.int k n)) (.int k n) = some () := by simp [chk, V.beq]
theorem chk_slice {s : Sl} : chk (some (.slice s)) (.slice s) = some () := by simp [chk, V.beq]
theorem beqs_self : ∀ (l : List V), (∀ v, v ∈ l → V.beq v v = true) → V.beqs l l = true
  | [], _ => by simp [V.beqs]
  | v :: l, h => by simp [V.beqs, h v (by simp), beqs_self l fun u hu => h u (by simp [hu])]
theorem ld1_push_ne {H : Heap} {i o : Nat} {ob : O} (h : i ≠ H.n) : ld1 (.ptr (some (i, o))) (H.push ob) = ld1 (.ptr (some (i, o))) H := by simp only [ld1, Heap.get_push_ne h]
theorem ld1_push_eq {H : Heap} {i o e : Nat} {cs : List V} {r : Bool} (h : i = H.n) : ld1 (.ptr (some (i, o))) (H.push (.cells cs e r)) = cs[o]? := by simp only [ld1, Heap.get_push_eq h]
theorem ldN_push_ne {H : Heap} {n i o : Nat} {ob : O} (h : i ≠ H.n) : ldN n (.ptr (some (i, o))) (H.push ob) = ldN n (.ptr (some (i, o))) H := by simp only [ldN, Heap.get_push_ne h]
theorem ldN_push_eq {H : Heap} {n i o e : Nat} {cs : List V} {r : Bool} (h : i = H.n) (hn : o + n ≤ cs.length) : ldN n (.ptr (some (i, o))) (H.push (.cells cs e r)) = some (.agg ((cs.drop o).take n)) := by simp only [ldN, Heap.get_push_eq h, if_pos hn]
theorem Ch.ld1 {X : Nat → Prop} {H H' : Heap} (c : Ch X H H') {i o : Nat} (h : i < H.n) (hx : ¬ X i) : ld1 (.ptr (some (i, o))) H' = ld1 (.ptr (some (i, o))) H := by simp only [AM.ld1, c.get i h hx]
theorem Ch.ldN {X : Nat → Prop} {H H' : Heap} (c : Ch X H H') {n i o : Nat} (h : i < H.n) (hx : ¬ X i) : ldN n (.ptr (some (i, o))) H' = ldN n (.ptr (some (i, o))) H := by simp only [AM.ldN, c.get i h hx]
theorem Ch.l1 {H H' : Heap} (c : Ext0 H H') {i o : Nat} (h : i < H.n) : AM.ld1 (.ptr (some (i, o))) H' = AM.ld1 (.ptr (some (i, o))) H := c.ld1 h fun f => f
theorem Ch.lN {H H' : Heap} (c : Ext0 H H') {n i o : Nat} (h : i < H.n) : AM.ldN n (.ptr (some (i, o))) H' = AM.ldN n (.ptr (some (i, o))) H := c.ldN h fun f => f
theorem Ch.g {H H' : Heap} (c : Ext0 H H') {i : Nat} (h : i < H.n) : H'.get i = H.get i := c.get i h fun f => f
attribute [simp] one_bool one_int one_slice one_str cells_bool cells_int cells_slice cells_agg boxA_agg un_not un_neg chk_bool chk_int chk_slice ld1_push_ne ld1_push_eq ldN_push_ne ldN_push_eq flA flE fillA lset Heap.get_push_ne Heap.get_push_eq

/-- A struct is given back. -/
theorem Tot.ret_st {H : Heap} {i k e : Nat} {xs cs : List V} {Q : V → Heap → Prop} (hg : H.get i = .cells cs e false) (hl : cs.length = k) (hx : xs.length = k) (ho : xs.all V.one = true) (h : ∀ H', Ch (· = i) H H' → Q (.agg xs) H') :
    Tot (fun _ => bnd (stA k (.ptr (some (i, 0))) (.agg xs) H) fun H6 => bnd (ldN k (.ptr (some (i, 0))) H6) fun t7 => some (t7, H6)) Q := by
  have h1 : stA k (.ptr (some (i, 0))) (.agg xs) H = some (H.set i (.cells (AM.lset cs 0 xs) e false)) := by
    simp only [stA, hg, cells_agg]
    rw [if_pos ⟨hx, by omega, ho⟩]
  have h2 : ∀ (ys zs pre : List V), zs.length = ys.length → AM.lset (pre ++ zs) pre.length ys = pre ++ ys := by
    intro ys
    induction ys with
    | nil => intro zs pre h; have := List.eq_nil_of_length_eq_zero h; subst this; simp [AM.lset]
    | cons y ys ih =>
      intro zs pre h
      cases zs with
      | nil => simp at h
      | cons z zs =>
        simp only [AM.lset]
        rw [List.set_append_right _ _ (Nat.le_refl _), Nat.sub_self, List.set_cons_zero]
        have := ih zs (pre ++ [y]) (by simpa using h)
        simpa using this
  have h3 := h2 xs cs [] (by omega)
  simp only [List.nil_append, List.length_nil] at h3
  rw [h3] at h1
  simp only [h1, bnd_some]
  have h4 : ldN k (.ptr (some (i, 0))) (H.set i (.cells xs e false)) = some (.agg xs) := by
    simp only [ldN, Heap.get_set_eq rfl]
    rw [if_pos (by omega)]; simp [← hx]
  simp only [h4, bnd_some]
  exact Tot.ret (h _ (Ch.set rfl))
end Go.AM
end

section
set_option linter.unusedVariables false
set_option linter.unusedSimpArgs false
/- Library functions that are known by their contracts. -/
namespace Go.AM

/-- A text, so many times. -/
def repS (s : List UInt8) : Nat → List UInt8
  | 0 => []
  | n + 1 => s ++ repS s n
/-- strings.Repeat, of a short text, seldom. -/
def ext_strings_Repeat (args : List V) (H : Heap) : Option R :=
  match args with
  | [.str s, .int .i64 n] => if 0 ≤ n ∧ n ≤ 64 ∧ s.length ≤ 8 then some (.str (repS s n.toNat), H) else none
  | _ => none
end Go.AM
end

section
set_option linter.unusedVariables false
set_option linter.unusedSimpArgs false
/- The machine of this seat: which slots live where regions begin; short names of its functions. Made by program (gen_seat.py). -/
namespace Go.AM
noncomputable abbrev P : Program := Go.Proofs.Try.prog
abbrev ty_int : Nat := 3
abbrev ty_bool : Nat := 4
abbrev ty_uint8 : Nat := 5
abbrev ty_api_Nat : Nat := 23
abbrev ty_api_Int : Nat := 25
abbrev ty_api_Rat : Nat := 27
abbrev ty_ref04_Int : Nat := 36
abbrev ty_ref05_Rat : Nat := 38
abbrev ty_uint32 : Nat := 50
@[simp] theorem eqlA_ty_bool (a b : Bool) : eqlA P ty_bool (.bool a) (.bool b) = some (.bool (a == b)) := by kernel_rfl
@[simp] theorem eqlA_ty_api_Nat (s : Sl) : eqlA P ty_api_Nat (.slice s) (.slice ⟨none, 0, 0, false⟩) = some (.bool s.ad.isNone) := by rcases s with ⟨_ | a, l, z, f⟩ <;> kernel_rfl
@[simp] theorem neqA_ty_bool (a b : Bool) : neqA P ty_bool (.bool a) (.bool b) = some (.bool (!(a == b))) := by kernel_rfl
def tabList : List (Nat × List (Nat × List Nat)) := [(3, []),
 (4, [(8, [2, 5, 6, 8, 9, 10, 11]), (12, [2, 5, 8, 10]), (14, [2, 5, 8]), (16, [5, 8, 12, 13]), (19, [8, 12])]),
 (5, [(4, [1, 2, 3, 4]), (6, [1, 2, 3, 4])]),
 (6, []),
 (7, []),
 (8, [(4, [1, 5, 6, 7, 8]), (8, [1, 5, 6, 7, 8]), (12, [5, 6])]),
 (9, []),
 (10, []),
 (11, [(6, [2, 3, 4])]),
 (12, []),
 (13, []),
 (14, []),
 (15, []),
 (16, []),
 (17, []),
 (18, []),
 (19, []),
 (20, [(7, [1, 7, 8]), (10, [7, 8])]),
 (21, [(2, [1, 2, 4, 5])]),
 (22, [(2, [3, 4]), (5, [3, 4, 5, 6]), (9, [3, 4, 5])]),
 (23, [(7, [5, 6, 7, 8]), (9, [5, 6, 7, 8]), (10, [5, 6, 7, 8]), (12, [5, 6, 7, 8]), (14, [5, 6, 7, 8]), (17, [5, 7, 8]), (18, [5, 7, 8, 9]), (21, [5, 7])]),
 (24, [(3, [0, 1, 6, 7, 8]), (8, [0, 1, 6, 7, 8]), (11, [6, 7])]),
 (25, [(3, [0, 3, 4])]),
 (26, []),
 (27, [(3, [0, 1, 5, 6, 7]), (7, [0, 1, 5, 6, 7]), (9, [0, 1, 5, 6, 7]), (10, [5, 6])]),
 (28, [(6, [0, 1, 5])]),
 (29, []),
 (30, [(3, [0, 1, 5, 6, 7]), (8, [0, 1, 5, 7, 8])]),
 (31, [(3, [0, 1, 5, 6]), (7, [0, 1, 5, 6, 7, 8]), (11, [0, 1, 5, 6, 7])]),
 (32, []),
 (33, []),
 (34, []),
 (35, [(3, [2, 3, 5, 6])]),
 (36, []),
 (37, []),
 (38, []),
 (39, []),
 (41, []),
 (42, []),
 (43, [(2, [0, 3]), (4, [0, 3])]),
 (44, [(3, [0, 3, 4, 5])]),
 (45, []),
 (46, []),
 (47, []),
 (48, []),
 (49, []),
 (50, []),
 (51, []),
 (52, []),
 (53, []),
 (54, []),
 (55, [(3, [0, 1]), (6, [1, 5, 6, 20, 21, 22]), (11, [1, 5, 6, 20, 21, 22]), (14, [5, 6])]),
 (56, [(3, [1, 5, 17, 18, 19]), (7, [1, 5, 6, 7, 8, 17, 18, 19, 24, 25, 26]), (13, [1, 5, 6, 8, 17, 18, 19])]),
 (57, [(3, [0, 3]), (7, [0, 3, 4, 15]), (11, [3]), (13, [3])]),
 (64, []),
 (65, []),
 (66, []),
 (67, []),
 (68, []),
 (69, [(2, [0, 1])]),
 (70, []),
 (71, []),
 (72, [(1, [0])]),
 (73, []),
 (74, [(3, [0, 1, 5, 6])]),
 (75, [(1, [0, 2, 3])]),
 (81, []),
 (82, [(5, [2, 3, 4, 5, 8])]),
 (83, []),
 (84, []),
 (87, []),
 (88, [(7, [0, 1, 5])]),
 (89, [(7, [6, 7, 8, 9, 10, 11, 12, 13]), (15, [6, 7, 10]), (18, [6, 10, 16, 17, 18]), (22, [10, 16])]),
 (90, [(4, [1, 5, 6, 13, 14, 15]), (9, [1, 5, 9, 13, 14, 15])]),
 (91, [(4, [0, 2]), (7, [0, 2])]),
 (92, []),
 (93, [(4, [1, 5, 6, 13, 14, 15]), (10, [5, 6])]),
 (94, [(4, [0, 1, 2, 7, 9, 10])]),
 (95, [(3, [0, 1, 2, 7, 8, 12, 13]), (7, [0, 1, 2, 7, 8, 9, 12, 13])]),
 (96, [(2, [0, 1, 4, 7, 8]), (7, [0, 1, 4, 5, 7, 8])])]
def tabs (f : FuncId) : Option (List (Nat × List Nat)) := tabList.lookup f
noncomputable def ext (f : FuncId) : Option (List V → Heap → Option R) := [((40 : Nat), (ext_strings_Repeat : List V → Heap → Option R))].lookup f
noncomputable def C : Cfg := { P, tabs, ext }
@[irreducible] noncomputable def f_law40_SvgDecimals (n : Nat) (args : List V) (H : Heap) : Option R := callA C n 3 args H
@[irreducible] noncomputable def f_law40_SvgNear (n : Nat) (args : List V) (H : Heap) : Option R := callA C n 4 args H
@[irreducible] noncomputable def f_law40_short (n : Nat) (args : List V) (H : Heap) : Option R := callA C n 5 args H
@[irreducible] noncomputable def f_svg_Decimal (n : Nat) (args : List V) (H : Heap) : Option R := callA C n 6 args H
@[irreducible] noncomputable def f_law40_lives (n : Nat) (args : List V) (H : Heap) : Option R := callA C n 7 args H
@[irreducible] noncomputable def f_ref40_Decimal (n : Nat) (args : List V) (H : Heap) : Option R := callA C n 8 args H
@[irreducible] noncomputable def f_ref05_Low (n : Nat) (args : List V) (H : Heap) : Option R := callA C n 9 args H
@[irreducible] noncomputable def f_ref05_Of (n : Nat) (args : List V) (H : Heap) : Option R := callA C n 10 args H
@[irreducible] noncomputable def f_ref04_Long (n : Nat) (args : List V) (H : Heap) : Option R := callA C n 11 args H
@[irreducible] noncomputable def f_ref04_Add (n : Nat) (args : List V) (H : Heap) : Option R := callA C n 12 args H
@[irreducible] noncomputable def f_ref04_Mul (n : Nat) (args : List V) (H : Heap) : Option R := callA C n 13 args H
@[irreducible] noncomputable def f_ref04_Neg (n : Nat) (args : List V) (H : Heap) : Option R := callA C n 14 args H
@[irreducible] noncomputable def f_ref05_Mul (n : Nat) (args : List V) (H : Heap) : Option R := callA C n 15 args H
@[irreducible] noncomputable def f_ref05_Long (n : Nat) (args : List V) (H : Heap) : Option R := callA C n 16 args H
@[irreducible] noncomputable def f_ref05_Sub (n : Nat) (args : List V) (H : Heap) : Option R := callA C n 17 args H
@[irreducible] noncomputable def f_ref05_Cmp (n : Nat) (args : List V) (H : Heap) : Option R := callA C n 18 args H
@[irreducible] noncomputable def f_ref05_Neg (n : Nat) (args : List V) (H : Heap) : Option R := callA C n 19 args H
@[irreducible] noncomputable def f_svg_decimal (n : Nat) (args : List V) (H : Heap) : Option R := callA C n 20 args H
@[irreducible] noncomputable def f_ref40_Scaled (n : Nat) (args : List V) (H : Heap) : Option R := callA C n 21 args H
@[irreducible] noncomputable def f_ref03_Show (n : Nat) (args : List V) (H : Heap) : Option R := callA C n 22 args H
@[irreducible] noncomputable def f_ref03_Gcd (n : Nat) (args : List V) (H : Heap) : Option R := callA C n 23 args H
@[irreducible] noncomputable def f_ref03_DivMod (n : Nat) (args : List V) (H : Heap) : Option R := callA C n 24 args H
@[irreducible] noncomputable def f_ref03_Of (n : Nat) (args : List V) (H : Heap) : Option R := callA C n 25 args H
@[irreducible] noncomputable def f_ref04_Of (n : Nat) (args : List V) (H : Heap) : Option R := callA C n 26 args H
@[irreducible] noncomputable def f_ref03_Add (n : Nat) (args : List V) (H : Heap) : Option R := callA C n 27 args H
@[irreducible] noncomputable def f_ref03_Cmp (n : Nat) (args : List V) (H : Heap) : Option R := callA C n 28 args H
@[irreducible] noncomputable def f_ref04_make1 (n : Nat) (args : List V) (H : Heap) : Option R := callA C n 29 args H
@[irreducible] noncomputable def f_ref03_Sub (n : Nat) (args : List V) (H : Heap) : Option R := callA C n 30 args H
@[irreducible] noncomputable def f_ref03_Mul (n : Nat) (args : List V) (H : Heap) : Option R := callA C n 31 args H
@[irreducible] noncomputable def f_ref05_Add (n : Nat) (args : List V) (H : Heap) : Option R := callA C n 32 args H
@[irreducible] noncomputable def f_ref04_Cmp (n : Nat) (args : List V) (H : Heap) : Option R := callA C n 33 args H
@[irreducible] noncomputable def f_rat_Make (n : Nat) (args : List V) (H : Heap) : Option R := callA C n 34 args H
@[irreducible] noncomputable def f_svg_power (n : Nat) (args : List V) (H : Heap) : Option R := callA C n 35 args H
@[irreducible] noncomputable def f_whole_Of (n : Nat) (args : List V) (H : Heap) : Option R := callA C n 36 args H
@[irreducible] noncomputable def f_rat_Round (n : Nat) (args : List V) (H : Heap) : Option R := callA C n 37 args H
@[irreducible] noncomputable def f_rat_Mul (n : Nat) (args : List V) (H : Heap) : Option R := callA C n 38 args H
@[irreducible] noncomputable def f_nat_Show (n : Nat) (args : List V) (H : Heap) : Option R := callA C n 39 args H
@[irreducible] noncomputable def f_strings_Repeat (n : Nat) (args : List V) (H : Heap) : Option R := callA C n 40 args H
@[irreducible] noncomputable def f_whole_Sign (n : Nat) (args : List V) (H : Heap) : Option R := callA C n 41 args H
@[irreducible] noncomputable def f_ref05_Round (n : Nat) (args : List V) (H : Heap) : Option R := callA C n 42 args H
@[irreducible] noncomputable def f_ref03_Trim (n : Nat) (args : List V) (H : Heap) : Option R := callA C n 43 args H
@[irreducible] noncomputable def f_ref03_Half (n : Nat) (args : List V) (H : Heap) : Option R := callA C n 44 args H
@[irreducible] noncomputable def f_ref04_Sub (n : Nat) (args : List V) (H : Heap) : Option R := callA C n 45 args H
@[irreducible] noncomputable def f_rat_norm (n : Nat) (args : List V) (H : Heap) : Option R := callA C n 46 args H
@[irreducible] noncomputable def f_whole_Neg (n : Nat) (args : List V) (H : Heap) : Option R := callA C n 47 args H
@[irreducible] noncomputable def f_rat_lowest (n : Nat) (args : List V) (H : Heap) : Option R := callA C n 48 args H
@[irreducible] noncomputable def f_whole_Mul (n : Nat) (args : List V) (H : Heap) : Option R := callA C n 49 args H
@[irreducible] noncomputable def f_whole_norm (n : Nat) (args : List V) (H : Heap) : Option R := callA C n 50 args H
@[irreducible] noncomputable def f_nat_Of (n : Nat) (args : List V) (H : Heap) : Option R := callA C n 51 args H
@[irreducible] noncomputable def f_whole_Add (n : Nat) (args : List V) (H : Heap) : Option R := callA C n 52 args H
@[irreducible] noncomputable def f_rat_plain (n : Nat) (args : List V) (H : Heap) : Option R := callA C n 53 args H
@[irreducible] noncomputable def f_whole_Floor (n : Nat) (args : List V) (H : Heap) : Option R := callA C n 54 args H
@[irreducible] noncomputable def f_nat_Add (n : Nat) (args : List V) (H : Heap) : Option R := callA C n 55 args H
@[irreducible] noncomputable def f_nat_Mul (n : Nat) (args : List V) (H : Heap) : Option R := callA C n 56 args H
@[irreducible] noncomputable def f_nat_show (n : Nat) (args : List V) (H : Heap) : Option R := callA C n 57 args H
@[irreducible] noncomputable def f_whole_sign (n : Nat) (args : List V) (H : Heap) : Option R := callA C n 64 args H
@[irreducible] noncomputable def f_ref05_Floor (n : Nat) (args : List V) (H : Heap) : Option R := callA C n 65 args H
@[irreducible] noncomputable def f_whole_neg (n : Nat) (args : List V) (H : Heap) : Option R := callA C n 66 args H
@[irreducible] noncomputable def f_whole_Norm (n : Nat) (args : List V) (H : Heap) : Option R := callA C n 67 args H
@[irreducible] noncomputable def f_nat_Trim (n : Nat) (args : List V) (H : Heap) : Option R := callA C n 68 args H
@[irreducible] noncomputable def f_nat_Gcd (n : Nat) (args : List V) (H : Heap) : Option R := callA C n 69 args H
@[irreducible] noncomputable def f_nat_DivMod (n : Nat) (args : List V) (H : Heap) : Option R := callA C n 70 args H
@[irreducible] noncomputable def f_slices_Clone_api_Nat_uint32 (n : Nat) (args : List V) (H : Heap) : Option R := callA C n 71 args H
@[irreducible] noncomputable def f_nat_trim (n : Nat) (args : List V) (H : Heap) : Option R := callA C n 72 args H
@[irreducible] noncomputable def f_whole_add (n : Nat) (args : List V) (H : Heap) : Option R := callA C n 73 args H
@[irreducible] noncomputable def f_nat_short (n : Nat) (args : List V) (H : Heap) : Option R := callA C n 74 args H
@[irreducible] noncomputable def f_slices_Reverse_byte_byte (n : Nat) (args : List V) (H : Heap) : Option R := callA C n 75 args H
@[irreducible] noncomputable def f_nat_Bits (n : Nat) (args : List V) (H : Heap) : Option R := callA C n 81 args H
@[irreducible] noncomputable def f_ref04_Floor (n : Nat) (args : List V) (H : Heap) : Option R := callA C n 82 args H
@[irreducible] noncomputable def f_nat_divmod (n : Nat) (args : List V) (H : Heap) : Option R := callA C n 83 args H
@[irreducible] noncomputable def f_nat_Sub (n : Nat) (args : List V) (H : Heap) : Option R := callA C n 84 args H
@[irreducible] noncomputable def f_nat_size (n : Nat) (args : List V) (H : Heap) : Option R := callA C n 87 args H
@[irreducible] noncomputable def f_nat_cmp (n : Nat) (args : List V) (H : Heap) : Option R := callA C n 88 args H
@[irreducible] noncomputable def f_nat_long (n : Nat) (args : List V) (H : Heap) : Option R := callA C n 89 args H
@[irreducible] noncomputable def f_nat_sub (n : Nat) (args : List V) (H : Heap) : Option R := callA C n 90 args H
@[irreducible] noncomputable def f_math_bits_Len32 (n : Nat) (args : List V) (H : Heap) : Option R := callA C n 91 args H
@[irreducible] noncomputable def f_math_bits_LeadingZeros32 (n : Nat) (args : List V) (H : Heap) : Option R := callA C n 92 args H
@[irreducible] noncomputable def f_nat_shift (n : Nat) (args : List V) (H : Heap) : Option R := callA C n 93 args H
@[irreducible] noncomputable def f_nat_guess (n : Nat) (args : List V) (H : Heap) : Option R := callA C n 94 args H
@[irreducible] noncomputable def f_nat_off (n : Nat) (args : List V) (H : Heap) : Option R := callA C n 95 args H
@[irreducible] noncomputable def f_nat_back (n : Nat) (args : List V) (H : Heap) : Option R := callA C n 96 args H
end Go.AM
end

section
set_option linter.unusedVariables false
set_option linter.unusedSimpArgs false
/- What each Go function comes to on the machine: made by program (gen_seat.py), checked by the kernel. -/
set_option maxRecDepth 1000000
set_option linter.unusedVariables false
namespace Go.AM
/-! zellige/zelligelaw40.SvgDecimals -/
@[simp] noncomputable def law40_SvgDecimals_b (bd : B2) (n : Nat) (v0 v1 : V) (H : Heap) : Option R :=
 (bd (boxA ty_api_Rat v0) fun o1 =>
 (bd (ldN 3 (.ptr (some (H.n, 0))) (H.push o1)) fun t7_2 =>
 (bd (f_law40_short n [t7_2] (H.push o1)) fun r3 =>
 (bd (stA 3 (.ptr (some (H.n, 0))) r3.1 r3.2) fun H4 =>
 (bd (ldN 3 (.ptr (some (H.n, 0))) H4) fun t10_5 =>
 (bd (f_svg_Decimal n [t10_5, v1] H4) fun r6 =>
 (bd (extA r6.1 0) fun t13_7 =>
 (bd (extA r6.1 1) fun t14_8 =>
 (bd (arA .lss v1 (.int .i64 0)) fun t16_9 =>
 (bd (asB t16_9) fun b10 =>
 if b10 = true then
 (bd (arA .eql t13_7 (.str [])) fun t22_11 =>
 (bd (asB t22_11) fun b12 =>
 if b12 = true then
 (bd (unA .not t14_8) fun t25_13 =>
 (bd (asB t25_13) fun b14 =>
 if b14 = true then
 (bd (f_law40_lives n [] r6.2) fun r15 =>
 (some (r15.1, r15.2)))
 else
 (some ((.bool false), r6.2))))
 else
 (some ((.bool false), r6.2))))
 else
 (bd (arA .gtr v1 (.int .i64 30)) fun t19_16 =>
 (bd (asB t19_16) fun b17 =>
 if b17 = true then
 (bd (arA .eql t13_7 (.str [])) fun t22_18 =>
 (bd (asB t22_18) fun b19 =>
 if b19 = true then
 (bd (unA .not t14_8) fun t25_20 =>
 (bd (asB t25_20) fun b21 =>
 if b21 = true then
 (bd (f_law40_lives n [] r6.2) fun r22 =>
 (some (r22.1, r22.2)))
 else
 (some ((.bool false), r6.2))))
 else
 (some ((.bool false), r6.2))))
 else
 (bd (ldN 3 (.ptr (some (H.n, 0))) r6.2) fun t31_23 =>
 (bd (f_ref05_Of n [t31_23] r6.2) fun r24 =>
 (bd (f_ref05_Low n [r24.1] r24.2) fun r25 =>
 (bd (f_ref40_Decimal n [r25.1, v1] r25.2) fun r26 =>
 (bd (arA .eql t13_7 r26.1) fun t36_27 =>
 (bd (asB t36_27) fun b28 =>
 if b28 = true then
 (bd (asB t14_8) fun b29 =>
 if b29 = true then
 (bd (f_law40_lives n [] r26.2) fun r30 =>
 (some (r30.1, r30.2)))
 else
 (some ((.bool false), r26.2)))
 else
 (some ((.bool false), r26.2))))))))))))))))))))
theorem law40_SvgDecimals_tot {v0 v1 : V} {H : Heap} {Q : V → Heap → Prop} (h : Tot (fun n => law40_SvgDecimals_b @bnd n v0 v1 H) Q) : Tot (fun n => f_law40_SvgDecimals n [v0, v1] H) Q := Tot.fn (fun n => bd_bnd (fun bd => law40_SvgDecimals_b bd n v0 v1 H) (by kernel_rfl)) h
/-! zellige/zelligelaw40.SvgNear -/
@[irreducible] noncomputable def law40_SvgNear.l0 (n m0 : Nat) (v2 v5 v6 v8 v9 v10 v11 : V) (H : Heap) : Option R := Lp C n 4 [1, 1, 1, 1, 1, 1, 0, 1, 0, 0] m0 [(2, v2), (5, v5), (6, v6), (8, v8), (9, v9), (10, v10), (11, v11)] H (kB 0 (kC C n 4 [1, 1, 1, 1, 1, 1, 1] (kR C 4)))
@[irreducible] noncomputable def law40_SvgNear.p1 (n : Nat) (v2 v5 v8 v10 : V) (H : Heap) : Option R := E C n 4 [1, 1, 1, 1, 1, 1, 1] [(2, v2), (5, v5), (8, v8), (10, v10)] H (kR C 4)
@[irreducible] noncomputable def law40_SvgNear.p2 (n : Nat) (v2 v5 v8 : V) (H : Heap) : Option R := E C n 4 [1, 1, 1, 1, 1, 1, 1, 1] [(2, v2), (5, v5), (8, v8)] H (kR C 4)
@[irreducible] noncomputable def law40_SvgNear.l3 (n m0 : Nat) (v5 v8 v12 v13 : V) (H : Heap) : Option R := Lp C n 4 [1, 1, 1, 1, 1, 1, 1, 1, 1, 0, 1, 0, 0] m0 [(5, v5), (8, v8), (12, v12), (13, v13)] H (kB 2 (kC C n 4 [1, 1, 1, 1, 1, 1, 1, 1, 1, 1] (kR C 4)))
@[irreducible] noncomputable def law40_SvgNear.p4 (n : Nat) (v8 v12 : V) (H : Heap) : Option R := E C n 4 [1, 1, 1, 1, 1, 1, 1, 1, 1, 1] [(8, v8), (12, v12)] H (kR C 4)
@[simp] noncomputable def law40_SvgNear.l0_b (bd : B2) (n m0 : Nat) (v2 v5 v6 v8 v9 v10 v11 : V) (H : Heap) : Option R :=
 (bd (lenStr v6) fun t41_1 =>
 (bd (arA .lss v11 t41_1) fun t42_2 =>
 (bd (asB t42_2) fun b3 =>
 if b3 = true then
 (bd (ixStr v6 v11) fun t47_4 =>
 (bd (arA .geq t47_4 (.int .u8 48)) fun t48_5 =>
 (bd (asB t48_5) fun b6 =>
 if b6 = true then
 (bd (ixStr v6 v11) fun t52_7 =>
 (bd (arA .leq t52_7 (.int .u8 57)) fun t53_8 =>
 (bd (asB t53_8) fun b9 =>
 if b9 = true then
 (bd (ldN 2 v8 (H.more 0)) fun t55_10 =>
 (bd (ldN 2 v9 (H.more 0)) fun t56_11 =>
 (bd (f_ref04_Mul n [t55_10, t56_11] (H.more 0)) fun r12 =>
 (bd (ixStr v6 v11) fun t60_13 =>
 (bd (arA .sub t60_13 (.int .u8 48)) fun t61_14 =>
 (bd (cvInt .i64 t61_14) fun t62_15 =>
 (bd (f_ref04_Long n [t62_15] r12.2) fun r16 =>
 (bd (f_ref04_Add n [r12.1, r16.1] r16.2) fun r17 =>
 (bd (stA 2 v8 r17.1 r17.2) fun H18 =>
 (bd (arA .add v11 (.int .i64 1)) fun t44_19 =>
 (law40_SvgNear.l0 n m0 v2 v5 v6 v8 v9 v10 t44_19 H18)))))))))))
 else
 (bd (arA .add v11 (.int .i64 1)) fun t44_20 =>
 (law40_SvgNear.l0 n m0 v2 v5 v6 v8 v9 v10 t44_20 H)))))
 else
 (bd (arA .add v11 (.int .i64 1)) fun t44_21 =>
 (law40_SvgNear.l0 n m0 v2 v5 v6 v8 v9 v10 t44_21 H)))))
 else
 (law40_SvgNear.p1 n v2 v5 v8 v10 H))))
theorem law40_SvgNear.l0_tot {m0 : Nat → Nat} {v2 v5 v6 v8 v9 v10 v11 : V} {H : Heap} {Q : V → Heap → Prop} (hb : Big m0) (h : ∀ m0', Big m0' → Tot (fun n => law40_SvgNear.l0_b @bnd n (m0' n) v2 v5 v6 v8 v9 v10 v11 H) Q) : Tot (fun n => law40_SvgNear.l0 n (m0 n) v2 v5 v6 v8 v9 v10 v11 H) Q :=
  Tot.loop (f := fun n k => law40_SvgNear.l0 n k v2 v5 v6 v8 v9 v10 v11 H) (g := fun n k => law40_SvgNear.l0_b @bnd n k v2 v5 v6 v8 v9 v10 v11 H) hb (fun n k => bd_bnd (fun bd => law40_SvgNear.l0_b bd n k v2 v5 v6 v8 v9 v10 v11 H) (by kernel_rfl)) h
@[simp] noncomputable def law40_SvgNear.p1_b (bd : B2) (n : Nat) (v2 v5 v8 v10 : V) (H : Heap) : Option R :=
 (bd (asB v10) fun b1 =>
 if b1 = true then
 (bd (ldN 2 v8 H) fun t66_2 =>
 (bd (f_ref04_Neg n [t66_2] H) fun r3 =>
 (bd (stA 2 v8 r3.1 r3.2) fun H4 =>
 (law40_SvgNear.p2 n v2 v5 v8 H4))))
 else
 (law40_SvgNear.p2 n v2 v5 v8 H))
theorem law40_SvgNear.p1_tot {v2 v5 v8 v10 : V} {H : Heap} {Q : V → Heap → Prop} (h : Tot (fun n => law40_SvgNear.p1_b @bnd n v2 v5 v8 v10 H) Q) : Tot (fun n => law40_SvgNear.p1 n v2 v5 v8 v10 H) Q := Tot.eq (fun n => bd_bnd (fun bd => law40_SvgNear.p1_b bd n v2 v5 v8 v10 H) (by kernel_rfl)) h
@[simp] noncomputable def law40_SvgNear.p2_b (bd : B2) (n : Nat) (v2 v5 v8 : V) (H : Heap) : Option R :=
 (bd (ldN 3 v2 H) fun t68_1 =>
 (bd (f_ref05_Of n [t68_1] H) fun r2 =>
 (bd (stA 4 (.ptr (some (r2.2.n, 0))) r2.1 (r2.2.push (.cells [(.int .i64 0), (.slice ⟨none, 0, 0, false⟩), (.int .i64 0), (.slice ⟨none, 0, 0, false⟩)] ty_ref05_Rat false))) fun H3 =>
 (law40_SvgNear.l3 n n v5 v8 (.ptr (some (r2.2.n, 0))) (.int .i64 0) H3))))
theorem law40_SvgNear.p2_tot {v2 v5 v8 : V} {H : Heap} {Q : V → Heap → Prop} (h : Tot (fun n => law40_SvgNear.p2_b @bnd n v2 v5 v8 H) Q) : Tot (fun n => law40_SvgNear.p2 n v2 v5 v8 H) Q := Tot.eq (fun n => bd_bnd (fun bd => law40_SvgNear.p2_b bd n v2 v5 v8 H) (by kernel_rfl)) h
@[simp] noncomputable def law40_SvgNear.l3_b (bd : B2) (n m0 : Nat) (v5 v8 v12 v13 : V) (H : Heap) : Option R :=
 (bd (arA .lss v13 v5) fun t72_1 =>
 (bd (asB t72_1) fun b2 =>
 if b2 = true then
 (bd (f_ref05_Long n [(.int .i64 10)] (H.more 0)) fun r3 =>
 (bd (ldN 4 v12 r3.2) fun t75_4 =>
 (bd (chk (ldN 4 v12 (H.more 0)) t75_4) fun _ =>
 (bd (f_ref05_Mul n [t75_4, r3.1] r3.2) fun r5 =>
 (bd (stA 4 v12 r5.1 r5.2) fun H6 =>
 (bd (arA .add v13 (.int .i64 1)) fun t74_7 =>
 (law40_SvgNear.l3 n m0 v5 v8 v12 t74_7 H6)))))))
 else
 (law40_SvgNear.p4 n v8 v12 H)))
theorem law40_SvgNear.l3_tot {m0 : Nat → Nat} {v5 v8 v12 v13 : V} {H : Heap} {Q : V → Heap → Prop} (hb : Big m0) (h : ∀ m0', Big m0' → Tot (fun n => law40_SvgNear.l3_b @bnd n (m0' n) v5 v8 v12 v13 H) Q) : Tot (fun n => law40_SvgNear.l3 n (m0 n) v5 v8 v12 v13 H) Q :=
  Tot.loop (f := fun n k => law40_SvgNear.l3 n k v5 v8 v12 v13 H) (g := fun n k => law40_SvgNear.l3_b @bnd n k v5 v8 v12 v13 H) hb (fun n k => bd_bnd (fun bd => law40_SvgNear.l3_b bd n k v5 v8 v12 v13 H) (by kernel_rfl)) h
@[simp] noncomputable def law40_SvgNear.p4_b (bd : B2) (n : Nat) (v8 v12 : V) (H : Heap) : Option R :=
 (bd (f_ref04_Long n [(.int .i64 1)] (H.more 2)) fun r1 =>
 (bd (ldN 2 v8 r1.2) fun t78_2 =>
 (bd (chk (ldN 2 v8 (H.more 2)) t78_2) fun _ =>
 (bd (flA [(0, 2), (2, 2)] [(.int .i64 0), (.slice ⟨none, 0, 0, false⟩), (.int .i64 0), (.slice ⟨none, 0, 0, false⟩)] [(0, t78_2), (1, r1.1)]) fun t80_3 =>
 (bd (ldN 4 v12 r1.2) fun t81_4 =>
 (bd (chk (ldN 4 v12 (H.more 2)) t81_4) fun _ =>
 (bd (f_ref05_Sub n [t80_3, t81_4] r1.2) fun r5 =>
 (bd (f_ref04_Long n [(.int .i64 1)] r5.2) fun r6 =>
 (bd (f_ref04_Long n [(.int .i64 2)] r6.2) fun r7 =>
 (bd (stA 4 (.ptr (some ((H.n + 0), 0))) r5.1 ((r7.2.set (H.n + 0) (.cells [(.int .i64 0), (.slice ⟨none, 0, 0, false⟩), (.int .i64 0), (.slice ⟨none, 0, 0, false⟩)] ty_ref05_Rat false)).set (H.n + 1) (.cells [(.int .i64 0), (.slice ⟨none, 0, 0, false⟩), (.int .i64 0), (.slice ⟨none, 0, 0, false⟩)] ty_ref05_Rat false))) fun H8 =>
 (bd (flA [(0, 2), (2, 2)] [(.int .i64 0), (.slice ⟨none, 0, 0, false⟩), (.int .i64 0), (.slice ⟨none, 0, 0, false⟩)] [(0, r6.1), (1, r7.1)]) fun t85_9 =>
 (bd (stA 4 (.ptr (some ((H.n + 1), 0))) t85_9 H8) fun H10 =>
 (bd (ldN 4 (.ptr (some ((H.n + 0), 0))) (H10.more 0)) fun t86_11 =>
 (bd (ldN 4 (.ptr (some ((H.n + 1), 0))) (H10.more 0)) fun t87_12 =>
 (bd (f_ref05_Cmp n [t86_11, t87_12] (H10.more 0)) fun r13 =>
 (bd (arA .leq r13.1 (.int .i64 0)) fun t89_14 =>
 (bd (asB t89_14) fun b15 =>
 if b15 = true then
 (bd (ldN 4 (.ptr (some ((H.n + 1), 0))) r13.2) fun t92_16 =>
 (bd (f_ref05_Neg n [t92_16] r13.2) fun r17 =>
 (bd (ldN 4 (.ptr (some ((H.n + 0), 0))) r17.2) fun t91_18 =>
 (bd (chk (ldN 4 (.ptr (some ((H.n + 0), 0))) r13.2) t91_18) fun _ =>
 (bd (f_ref05_Cmp n [t91_18, r17.1] r17.2) fun r19 =>
 (bd (arA .gtr r19.1 (.int .i64 0)) fun t95_20 =>
 (bd (asB t95_20) fun b21 =>
 if b21 = true then
 (bd (f_law40_lives n [] r19.2) fun r22 =>
 (some (r22.1, r22.2)))
 else
 (some ((.bool false), r19.2)))))))))
 else
 (some ((.bool false), r13.2)))))))))))))))))))
theorem law40_SvgNear.p4_tot {v8 v12 : V} {H : Heap} {Q : V → Heap → Prop} (h : Tot (fun n => law40_SvgNear.p4_b @bnd n v8 v12 H) Q) : Tot (fun n => law40_SvgNear.p4 n v8 v12 H) Q := Tot.eq (fun n => bd_bnd (fun bd => law40_SvgNear.p4_b bd n v8 v12 H) (by kernel_rfl)) h
@[simp] noncomputable def law40_SvgNear_b (bd : B2) (n : Nat) (v0 v1 : V) (H : Heap) : Option R :=
 (bd (boxA ty_api_Rat v0) fun o1 =>
 (bd (ldN 3 (.ptr (some (H.n, 0))) (H.push o1)) fun t16_2 =>
 (bd (f_law40_short n [t16_2] (H.push o1)) fun r3 =>
 (bd (stA 3 (.ptr (some (H.n, 0))) r3.1 r3.2) fun H4 =>
 (bd (arA .rem v1 (.int .u8 31)) fun t19_5 =>
 (bd (cvInt .i64 t19_5) fun t20_6 =>
 (bd (ldN 3 (.ptr (some (H.n, 0))) H4) fun t22_7 =>
 (bd (f_svg_Decimal n [t22_7, t20_6] H4) fun r8 =>
 (bd (extA r8.1 0) fun t25_9 =>
 (bd (extA r8.1 1) fun t26_10 =>
 (bd (unA .not t26_10) fun t28_11 =>
 (bd (asB t28_11) fun b12 =>
 if b12 = true then
 (some ((.bool false), r8.2))
 else
 (bd (lenStr t25_9) fun t31_13 =>
 (bd (arA .eql t31_13 (.int .i64 0)) fun t32_14 =>
 (bd (asB t32_14) fun b15 =>
 if b15 = true then
 (some ((.bool false), r8.2))
 else
 (bd (f_ref04_Long n [(.int .i64 10)] (r8.2.more 2)) fun r16 =>
 (bd (flA [(0, 1), (1, 1)] [(.int .i64 0), (.slice ⟨none, 0, 0, false⟩)] []) fun t34_17 =>
 (bd (stA 2 (.ptr (some ((r8.2.n + 0), 0))) t34_17 ((r16.2.set (r8.2.n + 0) (.cells [(.int .i64 0), (.slice ⟨none, 0, 0, false⟩)] ty_ref04_Int false)).set (r8.2.n + 1) (.cells [(.int .i64 0), (.slice ⟨none, 0, 0, false⟩)] ty_ref04_Int false))) fun H18 =>
 (bd (stA 2 (.ptr (some ((r8.2.n + 1), 0))) r16.1 H18) fun H19 =>
 (bd (ixStr t25_9 (.int .i64 0)) fun t37_20 =>
 (bd (arA .eql t37_20 (.int .u8 45)) fun t38_21 =>
 (law40_SvgNear.l0 n n (.ptr (some (H.n, 0))) t20_6 t25_9 (.ptr (some ((r8.2.n + 0), 0))) (.ptr (some ((r8.2.n + 1), 0))) t38_21 (.int .i64 0) H19))))))))))))))))))))))
theorem law40_SvgNear_tot {v0 v1 : V} {H : Heap} {Q : V → Heap → Prop} (h : Tot (fun n => law40_SvgNear_b @bnd n v0 v1 H) Q) : Tot (fun n => f_law40_SvgNear n [v0, v1] H) Q := Tot.fn (fun n => bd_bnd (fun bd => law40_SvgNear_b bd n v0 v1 H) (by kernel_rfl)) h
/-! zellige/zelligelaw40.short -/
@[irreducible] noncomputable def law40_short.p0 (n : Nat) (v1 v2 v3 v4 : V) (H : Heap) : Option R := E C n 5 [1, 1, 1] [(1, v1), (2, v2), (3, v3), (4, v4)] H (kR C 5)
@[irreducible] noncomputable def law40_short.p1 (n : Nat) (v1 v2 v3 v4 : V) (H : Heap) : Option R := E C n 5 [1, 1, 1, 1] [(1, v1), (2, v2), (3, v3), (4, v4)] H (kR C 5)
@[simp] noncomputable def law40_short.p0_b (bd : B2) (n : Nat) (v1 v2 v3 v4 : V) (H : Heap) : Option R :=
 (bd (lenSl v4) fun t16_1 =>
 (bd (arA .gtr t16_1 (.int .i64 4)) fun t17_2 =>
 (bd (asB t17_2) fun b3 =>
 if b3 = true then
 (bd (slSl 1 v4 none (some (.int .i64 4))) fun t19_4 =>
 (law40_short.p1 n v1 v2 v3 t19_4 H))
 else
 (law40_short.p1 n v1 v2 v3 v4 H))))
theorem law40_short.p0_tot {v1 v2 v3 v4 : V} {H : Heap} {Q : V → Heap → Prop} (h : Tot (fun n => law40_short.p0_b @bnd n v1 v2 v3 v4 H) Q) : Tot (fun n => law40_short.p0 n v1 v2 v3 v4 H) Q := Tot.eq (fun n => bd_bnd (fun bd => law40_short.p0_b bd n v1 v2 v3 v4 H) (by kernel_rfl)) h
@[simp] noncomputable def law40_short.p1_b (bd : B2) (n : Nat) (v1 v2 v3 v4 : V) (H : Heap) : Option R :=
 (bd (bSl 1 ty_uint32 [(.int .u32 0)] 0 []) fun o1 =>
 (bd (appA 1 4 ty_uint32 (.slice ⟨some ((H.n + 0), 0), 0, 1, false⟩) v3 ((H.more 2).set (H.n + 0) o1)) fun p2 =>
 (bd (bSl 1 ty_uint32 [(.int .u32 0)] 0 []) fun o3 =>
 (bd (appA 1 4 ty_uint32 (.slice ⟨some ((H.n + 1), 0), 0, 1, false⟩) v4 (p2.2.set (H.n + 1) o3)) fun p4 =>
 (bd (faA 0 v1) fun t20_5 =>
 (bd (faA 0 t20_5) fun t21_6 =>
 (bd (ld1 t21_6 p4.2) fun t22_7 =>
 (bd (chk (ld1 t21_6 p2.2) t22_7) fun _ =>
 (bd (chk (ld1 t21_6 (H.more 2)) t22_7) fun _ =>
 (bd (flA [(0, 1), (1, 1)] [(.bool false), (.slice ⟨none, 0, 0, false⟩)] [(0, t22_7), (1, p2.1)]) fun t26_8 =>
 (bd (flA [(0, 2), (2, 1)] [(.bool false), (.slice ⟨none, 0, 0, false⟩), (.slice ⟨none, 0, 0, false⟩)] [(0, t26_8), (1, p4.1)]) fun t30_9 =>
 (bd (stA 3 v2 t30_9 p4.2) fun H10 =>
 (bd (ldN 3 v2 H10) fun t11 =>
 (some (t11, H10)))))))))))))))
theorem law40_short.p1_tot {v1 v2 v3 v4 : V} {H : Heap} {Q : V → Heap → Prop} (h : Tot (fun n => law40_short.p1_b @bnd n v1 v2 v3 v4 H) Q) : Tot (fun n => law40_short.p1 n v1 v2 v3 v4 H) Q := Tot.eq (fun n => bd_bnd (fun bd => law40_short.p1_b bd n v1 v2 v3 v4 H) (by kernel_rfl)) h
@[simp] noncomputable def law40_short_b (bd : B2) (n : Nat) (v0 : V) (H : Heap) : Option R :=
 (bd (boxA ty_api_Rat v0) fun o1 =>
 (bd (faA 0 (.ptr (some (H.n, 0)))) fun t5_2 =>
 (bd (faA 1 t5_2) fun t6_3 =>
 (bd (ld1 t6_3 (((H.push o1).push (.cells [(.bool false), (.slice ⟨none, 0, 0, false⟩), (.slice ⟨none, 0, 0, false⟩)] ty_api_Rat false)).more 0)) fun t7_4 =>
 (bd (faA 2 (.ptr (some (H.n, 0)))) fun t8_5 =>
 (bd (ld1 t8_5 (((H.push o1).push (.cells [(.bool false), (.slice ⟨none, 0, 0, false⟩), (.slice ⟨none, 0, 0, false⟩)] ty_api_Rat false)).more 0)) fun t9_6 =>
 (bd (lenSl t7_4) fun t11_7 =>
 (bd (arA .gtr t11_7 (.int .i64 4)) fun t12_8 =>
 (bd (asB t12_8) fun b9 =>
 if b9 = true then
 (bd (slSl 1 t7_4 none (some (.int .i64 4))) fun t14_10 =>
 (law40_short.p0 n (.ptr (some (H.n, 0))) (.ptr (some ((H.push o1).n, 0))) t14_10 t9_6 (((H.push o1).push (.cells [(.bool false), (.slice ⟨none, 0, 0, false⟩), (.slice ⟨none, 0, 0, false⟩)] ty_api_Rat false)).more 0)))
 else
 (law40_short.p0 n (.ptr (some (H.n, 0))) (.ptr (some ((H.push o1).n, 0))) t7_4 t9_6 (((H.push o1).push (.cells [(.bool false), (.slice ⟨none, 0, 0, false⟩), (.slice ⟨none, 0, 0, false⟩)] ty_api_Rat false)).more 0)))))))))))
theorem law40_short_tot {v0 : V} {H : Heap} {Q : V → Heap → Prop} (h : Tot (fun n => law40_short_b @bnd n v0 H) Q) : Tot (fun n => f_law40_short n [v0] H) Q := Tot.fn (fun n => bd_bnd (fun bd => law40_short_b bd n v0 H) (by kernel_rfl)) h
/-! zellige/svg.Decimal -/
@[simp] noncomputable def svg_Decimal_b (bd : B2) (n : Nat) (v0 v1 : V) (H : Heap) : Option R :=
 (bd (boxA ty_api_Rat v0) fun o1 =>
 (bd (arA .lss v1 (.int .i64 0)) fun t7_2 =>
 (bd (asB t7_2) fun b3 =>
 if b3 = true then
 (some (.tuple [(.str []), (.bool false)], (H.push o1)))
 else
 (bd (arA .gtr v1 (.int .i64 30)) fun t10_4 =>
 (bd (asB t10_4) fun b5 =>
 if b5 = true then
 (some (.tuple [(.str []), (.bool false)], (H.push o1)))
 else
 (bd (ldN 3 (.ptr (some (H.n, 0))) (H.push o1)) fun t12_6 =>
 (bd (f_svg_decimal n [t12_6, v1] (H.push o1)) fun r7 =>
 (some (.tuple [r7.1, (.bool true)], r7.2)))))))))
theorem svg_Decimal_tot {v0 v1 : V} {H : Heap} {Q : V → Heap → Prop} (h : Tot (fun n => svg_Decimal_b @bnd n v0 v1 H) Q) : Tot (fun n => f_svg_Decimal n [v0, v1] H) Q := Tot.fn (fun n => bd_bnd (fun bd => svg_Decimal_b bd n v0 v1 H) (by kernel_rfl)) h
/-! zellige/zelligelaw40.lives -/
@[simp] noncomputable def law40_lives_b (bd : B2) (n : Nat) (H : Heap) : Option R :=
 (bd (bSl 1 ty_uint32 [(.int .u32 0)] 1 [(0, (.int .u32 1))]) fun o1 =>
 (bd (flA [(0, 1), (1, 1)] [(.bool false), (.slice ⟨none, 0, 0, false⟩)] [(0, (.bool true)), (1, (.slice ⟨some (H.n, 0), 1, 1, false⟩))]) fun t9_2 =>
 (bd (bSl 1 ty_uint32 [(.int .u32 0)] 1 [(0, (.int .u32 8))]) fun o3 =>
 (bd (flA [(0, 2), (2, 1)] [(.bool false), (.slice ⟨none, 0, 0, false⟩), (.slice ⟨none, 0, 0, false⟩)] [(0, t9_2), (1, (.slice ⟨some ((H.push o1).n, 0), 1, 1, false⟩))]) fun t11_4 =>
 (bd (stA 3 (.ptr (some (((H.push o1).push o3).n, 0))) t11_4 (((H.push o1).push o3).push (.cells [(.bool false), (.slice ⟨none, 0, 0, false⟩), (.slice ⟨none, 0, 0, false⟩)] ty_api_Rat false))) fun H5 =>
 (bd (ldN 3 (.ptr (some (((H.push o1).push o3).n, 0))) H5) fun t13_6 =>
 (bd (f_svg_Decimal n [t13_6, (.int .i64 2)] H5) fun r7 =>
 (bd (extA r7.1 0) fun t15_8 =>
 (bd (extA r7.1 1) fun t16_9 =>
 (bd (ldN 3 (.ptr (some (((H.push o1).push o3).n, 0))) r7.2) fun t18_10 =>
 (bd (f_svg_Decimal n [t18_10, (.int .i64 0)] r7.2) fun r11 =>
 (bd (extA r11.1 0) fun t20_12 =>
 (bd (extA r11.1 1) fun t21_13 =>
 (bd (ldN 3 (.ptr (some (((H.push o1).push o3).n, 0))) r11.2) fun t23_14 =>
 (bd (f_svg_Decimal n [t23_14, (.int .i64 31)] r11.2) fun r15 =>
 (bd (extA r15.1 0) fun t25_16 =>
 (bd (extA r15.1 1) fun t26_17 =>
 (bd (arA .eql t15_8 (.str [45, 48, 46, 49, 50])) fun t28_18 =>
 (bd (asB t28_18) fun b19 =>
 if b19 = true then
 (bd (asB t16_9) fun b20 =>
 if b20 = true then
 (bd (arA .eql t20_12 (.str [48])) fun t34_21 =>
 (bd (asB t34_21) fun b22 =>
 if b22 = true then
 (bd (asB t21_13) fun b23 =>
 if b23 = true then
 (bd (unA .not t26_17) fun t41_24 =>
 (some (t41_24, r15.2)))
 else
 (some ((.bool false), r15.2)))
 else
 (some ((.bool false), r15.2))))
 else
 (some ((.bool false), r15.2)))
 else
 (some ((.bool false), r15.2)))))))))))))))))))))
theorem law40_lives_tot {H : Heap} {Q : V → Heap → Prop} (h : Tot (fun n => law40_lives_b @bnd n H) Q) : Tot (fun n => f_law40_lives n [] H) Q := Tot.fn (fun n => bd_bnd (fun bd => law40_lives_b bd n H) (by kernel_rfl)) h
/-! zellige/zelligeref40.Decimal -/
@[irreducible] noncomputable def ref40_Decimal.l0 (n m0 : Nat) (v1 v5 v6 v7 v8 : V) (H : Heap) : Option R := Lp C n 8 [1, 1, 1, 0, 1, 0, 0] m0 [(1, v1), (5, v5), (6, v6), (7, v7), (8, v8)] H (kB 0 (kC C n 8 [1, 1, 1, 1] (kR C 8)))
@[irreducible] noncomputable def ref40_Decimal.p1 (n m0 : Nat) (v1 v5 v6 v7 v8 : V) (H : Heap) : Option R := E C n 8 [1, 1, 1, 0, 1, 0, 0, 1, 0, 0, 1] [(1, v1), (5, v5), (6, v6), (7, v7), (8, v8)] H (kB 1 (kC C n 8 [1, 1, 1, 0, 1, 0, 0, 1, 1] (kL C n 8 [1, 1, 1, 0, 1, 0, 0] m0 (kB 0 (kC C n 8 [1, 1, 1, 1] (kR C 8))))))
@[irreducible] noncomputable def ref40_Decimal.p2 (n : Nat) (v5 v6 : V) (H : Heap) : Option R := E C n 8 [1, 1, 1, 1] [(5, v5), (6, v6)] H (kR C 8)
@[simp] noncomputable def ref40_Decimal.l0_b (bd : B2) (n m0 : Nat) (v1 v5 v6 v7 v8 : V) (H : Heap) : Option R :=
 (bd (lenStr v7) fun t18_1 =>
 (bd (arA .lss v8 t18_1) fun t19_2 =>
 (bd (asB t19_2) fun b3 =>
 if b3 = true then
 (bd (arA .eql v8 v1) fun t29_4 =>
 (bd (asB t29_4) fun b5 =>
 if b5 = true then
 (bd (arA .gtr v1 (.int .i64 0)) fun t32_6 =>
 (bd (asB t32_6) fun b7 =>
 if b7 = true then
 (bd (arA .add (.str [46]) v6) fun t35_8 =>
 (ref40_Decimal.p1 n m0 v1 v5 t35_8 v7 v8 H))
 else
 (ref40_Decimal.p1 n m0 v1 v5 v6 v7 v8 H)))
 else
 (ref40_Decimal.p1 n m0 v1 v5 v6 v7 v8 H)))
 else
 (bd (arA .leq v8 v1) fun t23_9 =>
 (bd (asB t23_9) fun b10 =>
 if b10 = true then
 (bd (arA .eql v8 v1) fun t29_11 =>
 (bd (asB t29_11) fun b12 =>
 if b12 = true then
 (bd (arA .gtr v1 (.int .i64 0)) fun t32_13 =>
 (bd (asB t32_13) fun b14 =>
 if b14 = true then
 (bd (arA .add (.str [46]) v6) fun t35_15 =>
 (ref40_Decimal.p1 n m0 v1 v5 t35_15 v7 v8 H))
 else
 (ref40_Decimal.p1 n m0 v1 v5 v6 v7 v8 H)))
 else
 (ref40_Decimal.p1 n m0 v1 v5 v6 v7 v8 H)))
 else
 (ref40_Decimal.p2 n v5 v6 H))))))
theorem ref40_Decimal.l0_tot {m0 : Nat → Nat} {v1 v5 v6 v7 v8 : V} {H : Heap} {Q : V → Heap → Prop} (hb : Big m0) (h : ∀ m0', Big m0' → Tot (fun n => ref40_Decimal.l0_b @bnd n (m0' n) v1 v5 v6 v7 v8 H) Q) : Tot (fun n => ref40_Decimal.l0 n (m0 n) v1 v5 v6 v7 v8 H) Q :=
  Tot.loop (f := fun n k => ref40_Decimal.l0 n k v1 v5 v6 v7 v8 H) (g := fun n k => ref40_Decimal.l0_b @bnd n k v1 v5 v6 v7 v8 H) hb (fun n k => bd_bnd (fun bd => ref40_Decimal.l0_b bd n k v1 v5 v6 v7 v8 H) (by kernel_rfl)) h
@[simp] noncomputable def ref40_Decimal.p1_b (bd : B2) (n m0 : Nat) (v1 v5 v6 v7 v8 : V) (H : Heap) : Option R :=
 (bd (lenStr v7) fun t38_1 =>
 (bd (arA .lss v8 t38_1) fun t39_2 =>
 (bd (asB t39_2) fun b3 =>
 if b3 = true then
 (bd (lenStr v7) fun t42_4 =>
 (bd (arA .sub t42_4 (.int .i64 1)) fun t43_5 =>
 (bd (arA .sub t43_5 v8) fun t45_6 =>
 (bd (lenStr v7) fun t47_7 =>
 (bd (arA .sub t47_7 v8) fun t49_8 =>
 (bd (slStr v7 (some t45_6) (some t49_8)) fun t50_9 =>
 (bd (arA .add t50_9 v6) fun t53_10 =>
 (bd (arA .add v8 (.int .i64 1)) fun t26_11 =>
 (ref40_Decimal.l0 n m0 v1 v5 t53_10 v7 t26_11 H)))))))))
 else
 (bd (arA .add (.str [48]) v6) fun t53_12 =>
 (bd (arA .add v8 (.int .i64 1)) fun t26_13 =>
 (ref40_Decimal.l0 n m0 v1 v5 t53_12 v7 t26_13 H))))))
theorem ref40_Decimal.p1_tot {m0 : Nat → Nat} {v1 v5 v6 v7 v8 : V} {H : Heap} {Q : V → Heap → Prop} (h : Tot (fun n => ref40_Decimal.p1_b @bnd n (m0 n) v1 v5 v6 v7 v8 H) Q) : Tot (fun n => ref40_Decimal.p1 n (m0 n) v1 v5 v6 v7 v8 H) Q := Tot.eq (fun n => bd_bnd (fun bd => ref40_Decimal.p1_b bd n (m0 n) v1 v5 v6 v7 v8 H) (by kernel_rfl)) h
@[simp] noncomputable def ref40_Decimal.p2_b (bd : B2) (n : Nat) (v5 v6 : V) (H : Heap) : Option R :=
 (bd (faA 0 v5) fun t54_1 =>
 (bd (ld1 t54_1 H) fun t55_2 =>
 (bd (arA .lss t55_2 (.int .i64 0)) fun t56_3 =>
 (bd (asB t56_3) fun b4 =>
 if b4 = true then
 (bd (arA .add (.str [45]) v6) fun t58_5 =>
 (some (t58_5, H)))
 else
 (some (v6, H))))))
theorem ref40_Decimal.p2_tot {v5 v6 : V} {H : Heap} {Q : V → Heap → Prop} (h : Tot (fun n => ref40_Decimal.p2_b @bnd n v5 v6 H) Q) : Tot (fun n => ref40_Decimal.p2 n v5 v6 H) Q := Tot.eq (fun n => bd_bnd (fun bd => ref40_Decimal.p2_b bd n v5 v6 H) (by kernel_rfl)) h
@[simp] noncomputable def ref40_Decimal_b (bd : B2) (n : Nat) (v0 v1 : V) (H : Heap) : Option R :=
 (bd (boxA ty_ref05_Rat v0) fun o1 =>
 (bd (ldN 4 (.ptr (some (H.n, 0))) (H.push o1)) fun t10_2 =>
 (bd (f_ref40_Scaled n [t10_2, v1] (H.push o1)) fun r3 =>
 (bd (stA 2 (.ptr (some (r3.2.n, 0))) r3.1 (r3.2.push (.cells [(.int .i64 0), (.slice ⟨none, 0, 0, false⟩)] ty_ref04_Int false))) fun H4 =>
 (bd (faA 1 (.ptr (some (r3.2.n, 0)))) fun t13_5 =>
 (bd (ld1 t13_5 H4) fun t14_6 =>
 (bd (f_ref03_Show n [t14_6] H4) fun r7 =>
 (ref40_Decimal.l0 n n v1 (.ptr (some (r3.2.n, 0))) (.str []) r7.1 (.int .i64 0) r7.2))))))))
theorem ref40_Decimal_tot {v0 v1 : V} {H : Heap} {Q : V → Heap → Prop} (h : Tot (fun n => ref40_Decimal_b @bnd n v0 v1 H) Q) : Tot (fun n => f_ref40_Decimal n [v0, v1] H) Q := Tot.fn (fun n => bd_bnd (fun bd => ref40_Decimal_b bd n v0 v1 H) (by kernel_rfl)) h
/-! zellige/zelligeref05.Low -/
@[simp] noncomputable def ref05_Low_b (bd : B2) (n : Nat) (v0 : V) (H : Heap) : Option R :=
 (bd (boxA ty_ref05_Rat v0) fun o1 =>
 (bd (faA 0 (.ptr (some (H.n, 0)))) fun t8_2 =>
 (bd (faA 0 t8_2) fun t9_3 =>
 (bd (ld1 t9_3 ((H.push o1).push (.cells [(.int .i64 0), (.slice ⟨none, 0, 0, false⟩), (.int .i64 0), (.slice ⟨none, 0, 0, false⟩)] ty_ref05_Rat false))) fun t10_4 =>
 (bd (arA .eql t10_4 (.int .i64 0)) fun t11_5 =>
 (bd (asB t11_5) fun b6 =>
 if b6 = true then
 (bd (flA [(0, 1), (1, 1)] [(.int .i64 0), (.slice ⟨none, 0, 0, false⟩)] []) fun t12_7 =>
 (bd (f_ref04_Long n [(.int .i64 1)] ((H.push o1).push (.cells [(.int .i64 0), (.slice ⟨none, 0, 0, false⟩), (.int .i64 0), (.slice ⟨none, 0, 0, false⟩)] ty_ref05_Rat false))) fun r8 =>
 (bd (flA [(0, 2), (2, 2)] [(.int .i64 0), (.slice ⟨none, 0, 0, false⟩), (.int .i64 0), (.slice ⟨none, 0, 0, false⟩)] [(0, t12_7), (1, r8.1)]) fun t14_9 =>
 (bd (stA 4 (.ptr (some ((H.push o1).n, 0))) t14_9 r8.2) fun H10 =>
 (bd (ldN 4 (.ptr (some ((H.push o1).n, 0))) H10) fun t11 =>
 (some (t11, H10)))))))
 else
 (bd (faA 0 (.ptr (some (H.n, 0)))) fun t15_12 =>
 (bd (faA 1 t15_12) fun t16_13 =>
 (bd (ld1 t16_13 ((H.push o1).push (.cells [(.int .i64 0), (.slice ⟨none, 0, 0, false⟩), (.int .i64 0), (.slice ⟨none, 0, 0, false⟩)] ty_ref05_Rat false))) fun t17_14 =>
 (bd (faA 2 (.ptr (some (H.n, 0)))) fun t18_15 =>
 (bd (faA 1 t18_15) fun t19_16 =>
 (bd (ld1 t19_16 ((H.push o1).push (.cells [(.int .i64 0), (.slice ⟨none, 0, 0, false⟩), (.int .i64 0), (.slice ⟨none, 0, 0, false⟩)] ty_ref05_Rat false))) fun t20_17 =>
 (bd (f_ref03_Gcd n [t17_14, t20_17] ((H.push o1).push (.cells [(.int .i64 0), (.slice ⟨none, 0, 0, false⟩), (.int .i64 0), (.slice ⟨none, 0, 0, false⟩)] ty_ref05_Rat false))) fun r18 =>
 (bd (faA 0 (.ptr (some (H.n, 0)))) fun t23_19 =>
 (bd (faA 1 t23_19) fun t24_20 =>
 (bd (ld1 t24_20 r18.2) fun t25_21 =>
 (bd (f_ref03_DivMod n [t25_21, r18.1] r18.2) fun r22 =>
 (bd (extA r22.1 0) fun t28_23 =>
 (bd (extA r22.1 1) fun t29_24 =>
 (bd (faA 2 (.ptr (some (H.n, 0)))) fun t31_25 =>
 (bd (faA 1 t31_25) fun t32_26 =>
 (bd (ld1 t32_26 r22.2) fun t33_27 =>
 (bd (f_ref03_DivMod n [t33_27, r18.1] r22.2) fun r28 =>
 (bd (extA r28.1 0) fun t36_29 =>
 (bd (extA r28.1 1) fun t37_30 =>
 (bd (faA 0 (.ptr (some (H.n, 0)))) fun t38_31 =>
 (bd (faA 0 t38_31) fun t39_32 =>
 (bd (ld1 t39_32 r28.2) fun t40_33 =>
 (bd (flA [(0, 1), (1, 1)] [(.int .i64 0), (.slice ⟨none, 0, 0, false⟩)] [(0, t40_33), (1, t28_23)]) fun t42_34 =>
 (bd (flA [(0, 1), (1, 1)] [(.int .i64 0), (.slice ⟨none, 0, 0, false⟩)] [(0, (.int .i64 1)), (1, t36_29)]) fun t44_35 =>
 (bd (flA [(0, 2), (2, 2)] [(.int .i64 0), (.slice ⟨none, 0, 0, false⟩), (.int .i64 0), (.slice ⟨none, 0, 0, false⟩)] [(0, t42_34), (1, t44_35)]) fun t45_36 =>
 (bd (stA 4 (.ptr (some ((H.push o1).n, 0))) t45_36 r28.2) fun H37 =>
 (bd (ldN 4 (.ptr (some ((H.push o1).n, 0))) H37) fun t38 =>
 (some (t38, H37)))))))))))))))))))))))))))))))))))
theorem ref05_Low_tot {v0 : V} {H : Heap} {Q : V → Heap → Prop} (h : Tot (fun n => ref05_Low_b @bnd n v0 H) Q) : Tot (fun n => f_ref05_Low n [v0] H) Q := Tot.fn (fun n => bd_bnd (fun bd => ref05_Low_b bd n v0 H) (by kernel_rfl)) h
/-! zellige/zelligeref05.Of -/
@[simp] noncomputable def ref05_Of_b (bd : B2) (n : Nat) (v0 : V) (H : Heap) : Option R :=
 (bd (boxA ty_api_Rat v0) fun o1 =>
 (bd (faA 2 (.ptr (some (H.n, 0)))) fun t4_2 =>
 (bd (ld1 t4_2 ((H.push o1).push (.cells [(.int .i64 0), (.slice ⟨none, 0, 0, false⟩), (.int .i64 0), (.slice ⟨none, 0, 0, false⟩)] ty_ref05_Rat false))) fun t5_3 =>
 (bd (f_ref03_Of n [t5_3] ((H.push o1).push (.cells [(.int .i64 0), (.slice ⟨none, 0, 0, false⟩), (.int .i64 0), (.slice ⟨none, 0, 0, false⟩)] ty_ref05_Rat false))) fun r4 =>
 (bd (lenSl r4.1) fun t8_5 =>
 (bd (arA .eql t8_5 (.int .i64 0)) fun t9_6 =>
 (bd (asB t9_6) fun b7 =>
 if b7 = true then
 (bd (flA [(0, 1), (1, 1)] [(.int .i64 0), (.slice ⟨none, 0, 0, false⟩)] []) fun t10_8 =>
 (bd (f_ref04_Long n [(.int .i64 1)] r4.2) fun r9 =>
 (bd (flA [(0, 2), (2, 2)] [(.int .i64 0), (.slice ⟨none, 0, 0, false⟩), (.int .i64 0), (.slice ⟨none, 0, 0, false⟩)] [(0, t10_8), (1, r9.1)]) fun t12_10 =>
 (bd (stA 4 (.ptr (some ((H.push o1).n, 0))) t12_10 r9.2) fun H11 =>
 (bd (ldN 4 (.ptr (some ((H.push o1).n, 0))) H11) fun t12 =>
 (some (t12, H11)))))))
 else
 (bd (faA 0 (.ptr (some (H.n, 0)))) fun t13_13 =>
 (bd (ldN 2 t13_13 r4.2) fun t14_14 =>
 (bd (f_ref04_Of n [t14_14] r4.2) fun r15 =>
 (bd (flA [(0, 1), (1, 1)] [(.int .i64 0), (.slice ⟨none, 0, 0, false⟩)] [(0, (.int .i64 1)), (1, r4.1)]) fun t17_16 =>
 (bd (flA [(0, 2), (2, 2)] [(.int .i64 0), (.slice ⟨none, 0, 0, false⟩), (.int .i64 0), (.slice ⟨none, 0, 0, false⟩)] [(0, r15.1), (1, t17_16)]) fun t18_17 =>
 (bd (stA 4 (.ptr (some ((H.push o1).n, 0))) t18_17 r15.2) fun H18 =>
 (bd (ldN 4 (.ptr (some ((H.push o1).n, 0))) H18) fun t19 =>
 (some (t19, H18))))))))))))))))
theorem ref05_Of_tot {v0 : V} {H : Heap} {Q : V → Heap → Prop} (h : Tot (fun n => ref05_Of_b @bnd n v0 H) Q) : Tot (fun n => f_ref05_Of n [v0] H) Q := Tot.fn (fun n => bd_bnd (fun bd => ref05_Of_b bd n v0 H) (by kernel_rfl)) h
/-! zellige/zelligeref04.Long -/
@[irreducible] noncomputable def ref04_Long.p0 (n : Nat) (v2 v3 v4 : V) (H : Heap) : Option R := E C n 11 [1, 1, 1, 1] [(2, v2), (3, v3), (4, v4)] H (kR C 11)
@[simp] noncomputable def ref04_Long.p0_b (bd : B2) (n : Nat) (v2 v3 v4 : V) (H : Heap) : Option R :=
 (bd (cvInt .u32 v4) fun t17_1 =>
 (bd (shA .shr v4 (.int .u64 32)) fun t19_2 =>
 (bd (cvInt .u32 t19_2) fun t20_3 =>
 (bd (bSl 1 ty_uint32 [(.int .u32 0)] 2 [(0, t17_1), (1, t20_3)]) fun o4 =>
 (bd (f_ref03_Of n [(.slice ⟨some (H.n, 0), 2, 1, false⟩)] (H.push o4)) fun r5 =>
 (bd (flA [(0, 1), (1, 1)] [(.int .i64 0), (.slice ⟨none, 0, 0, false⟩)] [(0, v3), (1, r5.1)]) fun t23_6 =>
 (bd (stA 2 v2 t23_6 r5.2) fun H7 =>
 (bd (ldN 2 v2 H7) fun t8 =>
 (some (t8, H7))))))))))
theorem ref04_Long.p0_tot {v2 v3 v4 : V} {H : Heap} {Q : V → Heap → Prop} (h : Tot (fun n => ref04_Long.p0_b @bnd n v2 v3 v4 H) Q) : Tot (fun n => ref04_Long.p0 n v2 v3 v4 H) Q := Tot.eq (fun n => bd_bnd (fun bd => ref04_Long.p0_b bd n v2 v3 v4 H) (by kernel_rfl)) h
@[simp] noncomputable def ref04_Long_b (bd : B2) (n : Nat) (v0 : V) (H : Heap) : Option R :=
 (bd (arA .eql v0 (.int .i64 0)) fun t6_1 =>
 (bd (asB t6_1) fun b2 =>
 if b2 = true then
 (bd (flA [(0, 1), (1, 1)] [(.int .i64 0), (.slice ⟨none, 0, 0, false⟩)] []) fun t7_3 =>
 (bd (stA 2 (.ptr (some (H.n, 0))) t7_3 (H.push (.cells [(.int .i64 0), (.slice ⟨none, 0, 0, false⟩)] ty_ref04_Int false))) fun H4 =>
 (bd (ldN 2 (.ptr (some (H.n, 0))) H4) fun t5 =>
 (some (t5, H4)))))
 else
 (bd (cvInt .u64 v0) fun t9_6 =>
 (bd (arA .lss v0 (.int .i64 0)) fun t11_7 =>
 (bd (asB t11_7) fun b8 =>
 if b8 = true then
 (bd (cvInt .u64 v0) fun t13_9 =>
 (bd (arA .sub (.int .u64 0) t13_9) fun t14_10 =>
 (ref04_Long.p0 n (.ptr (some (H.n, 0))) (.int .i64 (-1)) t14_10 (H.push (.cells [(.int .i64 0), (.slice ⟨none, 0, 0, false⟩)] ty_ref04_Int false)))))
 else
 (ref04_Long.p0 n (.ptr (some (H.n, 0))) (.int .i64 1) t9_6 (H.push (.cells [(.int .i64 0), (.slice ⟨none, 0, 0, false⟩)] ty_ref04_Int false))))))))
theorem ref04_Long_tot {v0 : V} {H : Heap} {Q : V → Heap → Prop} (h : Tot (fun n => ref04_Long_b @bnd n v0 H) Q) : Tot (fun n => f_ref04_Long n [v0] H) Q := Tot.fn (fun n => bd_bnd (fun bd => ref04_Long_b bd n v0 H) (by kernel_rfl)) h
/-! zellige/zelligeref04.Add -/
@[simp] noncomputable def ref04_Add_b (bd : B2) (n : Nat) (v0 v1 : V) (H : Heap) : Option R :=
 (bd (boxA ty_ref04_Int v0) fun o1 =>
 (bd (boxA ty_ref04_Int v1) fun o2 =>
 (bd (faA 0 (.ptr (some (H.n, 0)))) fun t5_3 =>
 (bd (ld1 t5_3 (((H.push o1).push o2).push (.cells [(.int .i64 0), (.slice ⟨none, 0, 0, false⟩)] ty_ref04_Int false))) fun t6_4 =>
 (bd (arA .eql t6_4 (.int .i64 0)) fun t7_5 =>
 (bd (asB t7_5) fun b6 =>
 if b6 = true then
 (bd (ldN 2 (.ptr (some ((H.push o1).n, 0))) (((H.push o1).push o2).push (.cells [(.int .i64 0), (.slice ⟨none, 0, 0, false⟩)] ty_ref04_Int false))) fun t8_7 =>
 (bd (stA 2 (.ptr (some (((H.push o1).push o2).n, 0))) t8_7 (((H.push o1).push o2).push (.cells [(.int .i64 0), (.slice ⟨none, 0, 0, false⟩)] ty_ref04_Int false))) fun H8 =>
 (bd (ldN 2 (.ptr (some (((H.push o1).push o2).n, 0))) H8) fun t9 =>
 (some (t9, H8)))))
 else
 (bd (faA 0 (.ptr (some ((H.push o1).n, 0)))) fun t9_10 =>
 (bd (ld1 t9_10 (((H.push o1).push o2).push (.cells [(.int .i64 0), (.slice ⟨none, 0, 0, false⟩)] ty_ref04_Int false))) fun t10_11 =>
 (bd (arA .eql t10_11 (.int .i64 0)) fun t11_12 =>
 (bd (asB t11_12) fun b13 =>
 if b13 = true then
 (bd (ldN 2 (.ptr (some (H.n, 0))) (((H.push o1).push o2).push (.cells [(.int .i64 0), (.slice ⟨none, 0, 0, false⟩)] ty_ref04_Int false))) fun t12_14 =>
 (bd (stA 2 (.ptr (some (((H.push o1).push o2).n, 0))) t12_14 (((H.push o1).push o2).push (.cells [(.int .i64 0), (.slice ⟨none, 0, 0, false⟩)] ty_ref04_Int false))) fun H15 =>
 (bd (ldN 2 (.ptr (some (((H.push o1).push o2).n, 0))) H15) fun t16 =>
 (some (t16, H15)))))
 else
 (bd (faA 0 (.ptr (some (H.n, 0)))) fun t13_17 =>
 (bd (ld1 t13_17 (((H.push o1).push o2).push (.cells [(.int .i64 0), (.slice ⟨none, 0, 0, false⟩)] ty_ref04_Int false))) fun t14_18 =>
 (bd (faA 0 (.ptr (some ((H.push o1).n, 0)))) fun t15_19 =>
 (bd (ld1 t15_19 (((H.push o1).push o2).push (.cells [(.int .i64 0), (.slice ⟨none, 0, 0, false⟩)] ty_ref04_Int false))) fun t16_20 =>
 (bd (arA .eql t14_18 t16_20) fun t17_21 =>
 (bd (asB t17_21) fun b22 =>
 if b22 = true then
 (bd (faA 1 (.ptr (some (H.n, 0)))) fun t20_23 =>
 (bd (ld1 t20_23 ((((H.push o1).push o2).push (.cells [(.int .i64 0), (.slice ⟨none, 0, 0, false⟩)] ty_ref04_Int false)).more 0)) fun t21_24 =>
 (bd (faA 1 (.ptr (some ((H.push o1).n, 0)))) fun t22_25 =>
 (bd (ld1 t22_25 ((((H.push o1).push o2).push (.cells [(.int .i64 0), (.slice ⟨none, 0, 0, false⟩)] ty_ref04_Int false)).more 0)) fun t23_26 =>
 (bd (f_ref03_Add n [t21_24, t23_26] ((((H.push o1).push o2).push (.cells [(.int .i64 0), (.slice ⟨none, 0, 0, false⟩)] ty_ref04_Int false)).more 0)) fun r27 =>
 (bd (faA 0 (.ptr (some (H.n, 0)))) fun t18_28 =>
 (bd (ld1 t18_28 r27.2) fun t19_29 =>
 (bd (chk (ld1 t18_28 ((((H.push o1).push o2).push (.cells [(.int .i64 0), (.slice ⟨none, 0, 0, false⟩)] ty_ref04_Int false)).more 0)) t19_29) fun _ =>
 (bd (flA [(0, 1), (1, 1)] [(.int .i64 0), (.slice ⟨none, 0, 0, false⟩)] [(0, t19_29), (1, r27.1)]) fun t25_30 =>
 (bd (stA 2 (.ptr (some (((H.push o1).push o2).n, 0))) t25_30 r27.2) fun H31 =>
 (bd (ldN 2 (.ptr (some (((H.push o1).push o2).n, 0))) H31) fun t32 =>
 (some (t32, H31)))))))))))))
 else
 (bd (faA 1 (.ptr (some (H.n, 0)))) fun t26_33 =>
 (bd (ld1 t26_33 (((H.push o1).push o2).push (.cells [(.int .i64 0), (.slice ⟨none, 0, 0, false⟩)] ty_ref04_Int false))) fun t27_34 =>
 (bd (faA 1 (.ptr (some ((H.push o1).n, 0)))) fun t28_35 =>
 (bd (ld1 t28_35 (((H.push o1).push o2).push (.cells [(.int .i64 0), (.slice ⟨none, 0, 0, false⟩)] ty_ref04_Int false))) fun t29_36 =>
 (bd (f_ref03_Cmp n [t27_34, t29_36] (((H.push o1).push o2).push (.cells [(.int .i64 0), (.slice ⟨none, 0, 0, false⟩)] ty_ref04_Int false))) fun r37 =>
 (bd (arA .geq r37.1 (.int .i64 0)) fun t31_38 =>
 (bd (asB t31_38) fun b39 =>
 if b39 = true then
 (bd (faA 1 (.ptr (some (H.n, 0)))) fun t34_40 =>
 (bd (ld1 t34_40 (r37.2.more 0)) fun t35_41 =>
 (bd (faA 1 (.ptr (some ((H.push o1).n, 0)))) fun t36_42 =>
 (bd (ld1 t36_42 (r37.2.more 0)) fun t37_43 =>
 (bd (f_ref03_Sub n [t35_41, t37_43] (r37.2.more 0)) fun r44 =>
 (bd (faA 0 (.ptr (some (H.n, 0)))) fun t32_45 =>
 (bd (ld1 t32_45 r44.2) fun t33_46 =>
 (bd (chk (ld1 t32_45 (r37.2.more 0)) t33_46) fun _ =>
 (bd (f_ref04_make1 n [t33_46, r44.1] r44.2) fun r47 =>
 (bd (stA 2 (.ptr (some (((H.push o1).push o2).n, 0))) r47.1 r47.2) fun H48 =>
 (bd (ldN 2 (.ptr (some (((H.push o1).push o2).n, 0))) H48) fun t49 =>
 (some (t49, H48)))))))))))))
 else
 (bd (faA 1 (.ptr (some ((H.push o1).n, 0)))) fun t42_50 =>
 (bd (ld1 t42_50 (r37.2.more 0)) fun t43_51 =>
 (bd (faA 1 (.ptr (some (H.n, 0)))) fun t44_52 =>
 (bd (ld1 t44_52 (r37.2.more 0)) fun t45_53 =>
 (bd (f_ref03_Sub n [t43_51, t45_53] (r37.2.more 0)) fun r54 =>
 (bd (faA 0 (.ptr (some ((H.push o1).n, 0)))) fun t40_55 =>
 (bd (ld1 t40_55 r54.2) fun t41_56 =>
 (bd (chk (ld1 t40_55 (r37.2.more 0)) t41_56) fun _ =>
 (bd (f_ref04_make1 n [t41_56, r54.1] r54.2) fun r57 =>
 (bd (stA 2 (.ptr (some (((H.push o1).push o2).n, 0))) r57.1 r57.2) fun H58 =>
 (bd (ldN 2 (.ptr (some (((H.push o1).push o2).n, 0))) H58) fun t59 =>
 (some (t59, H58))))))))))))))))))))))))))))))))))))
theorem ref04_Add_tot {v0 v1 : V} {H : Heap} {Q : V → Heap → Prop} (h : Tot (fun n => ref04_Add_b @bnd n v0 v1 H) Q) : Tot (fun n => f_ref04_Add n [v0, v1] H) Q := Tot.fn (fun n => bd_bnd (fun bd => ref04_Add_b bd n v0 v1 H) (by kernel_rfl)) h
/-! zellige/zelligeref04.Mul -/
@[simp] noncomputable def ref04_Mul_b (bd : B2) (n : Nat) (v0 v1 : V) (H : Heap) : Option R :=
 (bd (boxA ty_ref04_Int v0) fun o1 =>
 (bd (boxA ty_ref04_Int v1) fun o2 =>
 (bd (faA 1 (.ptr (some (H.n, 0)))) fun t10_3 =>
 (bd (ld1 t10_3 ((((H.push o1).push o2).push (.cells [(.int .i64 0), (.slice ⟨none, 0, 0, false⟩)] ty_ref04_Int false)).more 0)) fun t11_4 =>
 (bd (faA 1 (.ptr (some ((H.push o1).n, 0)))) fun t12_5 =>
 (bd (ld1 t12_5 ((((H.push o1).push o2).push (.cells [(.int .i64 0), (.slice ⟨none, 0, 0, false⟩)] ty_ref04_Int false)).more 0)) fun t13_6 =>
 (bd (f_ref03_Mul n [t11_4, t13_6] ((((H.push o1).push o2).push (.cells [(.int .i64 0), (.slice ⟨none, 0, 0, false⟩)] ty_ref04_Int false)).more 0)) fun r7 =>
 (bd (faA 0 (.ptr (some (H.n, 0)))) fun t5_8 =>
 (bd (ld1 t5_8 r7.2) fun t6_9 =>
 (bd (chk (ld1 t5_8 ((((H.push o1).push o2).push (.cells [(.int .i64 0), (.slice ⟨none, 0, 0, false⟩)] ty_ref04_Int false)).more 0)) t6_9) fun _ =>
 (bd (faA 0 (.ptr (some ((H.push o1).n, 0)))) fun t7_10 =>
 (bd (ld1 t7_10 r7.2) fun t8_11 =>
 (bd (chk (ld1 t7_10 ((((H.push o1).push o2).push (.cells [(.int .i64 0), (.slice ⟨none, 0, 0, false⟩)] ty_ref04_Int false)).more 0)) t8_11) fun _ =>
 (bd (arA .mul t6_9 t8_11) fun t9_12 =>
 (bd (f_ref04_make1 n [t9_12, r7.1] r7.2) fun r13 =>
 (bd (stA 2 (.ptr (some (((H.push o1).push o2).n, 0))) r13.1 r13.2) fun H14 =>
 (bd (ldN 2 (.ptr (some (((H.push o1).push o2).n, 0))) H14) fun t15 =>
 (some (t15, H14)))))))))))))))))))
theorem ref04_Mul_tot {v0 v1 : V} {H : Heap} {Q : V → Heap → Prop} (h : Tot (fun n => ref04_Mul_b @bnd n v0 v1 H) Q) : Tot (fun n => f_ref04_Mul n [v0, v1] H) Q := Tot.fn (fun n => bd_bnd (fun bd => ref04_Mul_b bd n v0 v1 H) (by kernel_rfl)) h
/-! zellige/zelligeref04.Neg -/
@[simp] noncomputable def ref04_Neg_b (bd : B2) (n : Nat) (v0 : V) (H : Heap) : Option R :=
 (bd (boxA ty_ref04_Int v0) fun o1 =>
 (bd (faA 0 (.ptr (some (H.n, 0)))) fun t3_2 =>
 (bd (ld1 t3_2 ((H.push o1).push (.cells [(.int .i64 0), (.slice ⟨none, 0, 0, false⟩)] ty_ref04_Int false))) fun t4_3 =>
 (bd (arA .sub (.int .i64 0) t4_3) fun t5_4 =>
 (bd (faA 1 (.ptr (some (H.n, 0)))) fun t6_5 =>
 (bd (ld1 t6_5 ((H.push o1).push (.cells [(.int .i64 0), (.slice ⟨none, 0, 0, false⟩)] ty_ref04_Int false))) fun t7_6 =>
 (bd (flA [(0, 1), (1, 1)] [(.int .i64 0), (.slice ⟨none, 0, 0, false⟩)] [(0, t5_4), (1, t7_6)]) fun t8_7 =>
 (bd (stA 2 (.ptr (some ((H.push o1).n, 0))) t8_7 ((H.push o1).push (.cells [(.int .i64 0), (.slice ⟨none, 0, 0, false⟩)] ty_ref04_Int false))) fun H8 =>
 (bd (ldN 2 (.ptr (some ((H.push o1).n, 0))) H8) fun t9 =>
 (some (t9, H8)))))))))))
theorem ref04_Neg_tot {v0 : V} {H : Heap} {Q : V → Heap → Prop} (h : Tot (fun n => ref04_Neg_b @bnd n v0 H) Q) : Tot (fun n => f_ref04_Neg n [v0] H) Q := Tot.fn (fun n => bd_bnd (fun bd => ref04_Neg_b bd n v0 H) (by kernel_rfl)) h
/-! zellige/zelligeref05.Mul -/
@[simp] noncomputable def ref05_Mul_b (bd : B2) (n : Nat) (v0 v1 : V) (H : Heap) : Option R :=
 (bd (boxA ty_ref05_Rat v0) fun o1 =>
 (bd (boxA ty_ref05_Rat v1) fun o2 =>
 (bd (faA 0 (.ptr (some (H.n, 0)))) fun t5_3 =>
 (bd (ldN 2 t5_3 ((((H.push o1).push o2).push (.cells [(.int .i64 0), (.slice ⟨none, 0, 0, false⟩), (.int .i64 0), (.slice ⟨none, 0, 0, false⟩)] ty_ref05_Rat false)).more 0)) fun t6_4 =>
 (bd (faA 0 (.ptr (some ((H.push o1).n, 0)))) fun t7_5 =>
 (bd (ldN 2 t7_5 ((((H.push o1).push o2).push (.cells [(.int .i64 0), (.slice ⟨none, 0, 0, false⟩), (.int .i64 0), (.slice ⟨none, 0, 0, false⟩)] ty_ref05_Rat false)).more 0)) fun t8_6 =>
 (bd (f_ref04_Mul n [t6_4, t8_6] ((((H.push o1).push o2).push (.cells [(.int .i64 0), (.slice ⟨none, 0, 0, false⟩), (.int .i64 0), (.slice ⟨none, 0, 0, false⟩)] ty_ref05_Rat false)).more 0)) fun r7 =>
 (bd (faA 2 (.ptr (some (H.n, 0)))) fun t10_8 =>
 (bd (ldN 2 t10_8 r7.2) fun t11_9 =>
 (bd (chk (ldN 2 t10_8 ((((H.push o1).push o2).push (.cells [(.int .i64 0), (.slice ⟨none, 0, 0, false⟩), (.int .i64 0), (.slice ⟨none, 0, 0, false⟩)] ty_ref05_Rat false)).more 0)) t11_9) fun _ =>
 (bd (faA 2 (.ptr (some ((H.push o1).n, 0)))) fun t12_10 =>
 (bd (ldN 2 t12_10 r7.2) fun t13_11 =>
 (bd (chk (ldN 2 t12_10 ((((H.push o1).push o2).push (.cells [(.int .i64 0), (.slice ⟨none, 0, 0, false⟩), (.int .i64 0), (.slice ⟨none, 0, 0, false⟩)] ty_ref05_Rat false)).more 0)) t13_11) fun _ =>
 (bd (f_ref04_Mul n [t11_9, t13_11] r7.2) fun r12 =>
 (bd (flA [(0, 2), (2, 2)] [(.int .i64 0), (.slice ⟨none, 0, 0, false⟩), (.int .i64 0), (.slice ⟨none, 0, 0, false⟩)] [(0, r7.1), (1, r12.1)]) fun t15_13 =>
 (bd (stA 4 (.ptr (some (((H.push o1).push o2).n, 0))) t15_13 r12.2) fun H14 =>
 (bd (ldN 4 (.ptr (some (((H.push o1).push o2).n, 0))) H14) fun t15 =>
 (some (t15, H14)))))))))))))))))))
theorem ref05_Mul_tot {v0 v1 : V} {H : Heap} {Q : V → Heap → Prop} (h : Tot (fun n => ref05_Mul_b @bnd n v0 v1 H) Q) : Tot (fun n => f_ref05_Mul n [v0, v1] H) Q := Tot.fn (fun n => bd_bnd (fun bd => ref05_Mul_b bd n v0 v1 H) (by kernel_rfl)) h
/-! zellige/zelligeref05.Long -/
@[simp] noncomputable def ref05_Long_b (bd : B2) (n : Nat) (v0 : V) (H : Heap) : Option R :=
 (bd (f_ref04_Long n [v0] (H.push (.cells [(.int .i64 0), (.slice ⟨none, 0, 0, false⟩), (.int .i64 0), (.slice ⟨none, 0, 0, false⟩)] ty_ref05_Rat false))) fun r1 =>
 (bd (f_ref04_Long n [(.int .i64 1)] r1.2) fun r2 =>
 (bd (flA [(0, 2), (2, 2)] [(.int .i64 0), (.slice ⟨none, 0, 0, false⟩), (.int .i64 0), (.slice ⟨none, 0, 0, false⟩)] [(0, r1.1), (1, r2.1)]) fun t6_3 =>
 (bd (stA 4 (.ptr (some (H.n, 0))) t6_3 r2.2) fun H4 =>
 (bd (ldN 4 (.ptr (some (H.n, 0))) H4) fun t5 =>
 (some (t5, H4)))))))
theorem ref05_Long_tot {v0 : V} {H : Heap} {Q : V → Heap → Prop} (h : Tot (fun n => ref05_Long_b @bnd n v0 H) Q) : Tot (fun n => f_ref05_Long n [v0] H) Q := Tot.fn (fun n => bd_bnd (fun bd => ref05_Long_b bd n v0 H) (by kernel_rfl)) h
/-! zellige/zelligeref05.Sub -/
@[simp] noncomputable def ref05_Sub_b (bd : B2) (n : Nat) (v0 v1 : V) (H : Heap) : Option R :=
 (bd (boxA ty_ref05_Rat v0) fun o1 =>
 (bd (boxA ty_ref05_Rat v1) fun o2 =>
 (bd (ldN 4 (.ptr (some ((H.push o1).n, 0))) ((((H.push o1).push o2).push (.cells [(.int .i64 0), (.slice ⟨none, 0, 0, false⟩), (.int .i64 0), (.slice ⟨none, 0, 0, false⟩)] ty_ref05_Rat false)).more 0)) fun t6_3 =>
 (bd (f_ref05_Neg n [t6_3] ((((H.push o1).push o2).push (.cells [(.int .i64 0), (.slice ⟨none, 0, 0, false⟩), (.int .i64 0), (.slice ⟨none, 0, 0, false⟩)] ty_ref05_Rat false)).more 0)) fun r4 =>
 (bd (ldN 4 (.ptr (some (H.n, 0))) r4.2) fun t5_5 =>
 (bd (chk (ldN 4 (.ptr (some (H.n, 0))) ((((H.push o1).push o2).push (.cells [(.int .i64 0), (.slice ⟨none, 0, 0, false⟩), (.int .i64 0), (.slice ⟨none, 0, 0, false⟩)] ty_ref05_Rat false)).more 0)) t5_5) fun _ =>
 (bd (f_ref05_Add n [t5_5, r4.1] r4.2) fun r6 =>
 (bd (stA 4 (.ptr (some (((H.push o1).push o2).n, 0))) r6.1 r6.2) fun H7 =>
 (bd (ldN 4 (.ptr (some (((H.push o1).push o2).n, 0))) H7) fun t8 =>
 (some (t8, H7)))))))))))
theorem ref05_Sub_tot {v0 v1 : V} {H : Heap} {Q : V → Heap → Prop} (h : Tot (fun n => ref05_Sub_b @bnd n v0 v1 H) Q) : Tot (fun n => f_ref05_Sub n [v0, v1] H) Q := Tot.fn (fun n => bd_bnd (fun bd => ref05_Sub_b bd n v0 v1 H) (by kernel_rfl)) h
/-! zellige/zelligeref05.Cmp -/
@[simp] noncomputable def ref05_Cmp_b (bd : B2) (n : Nat) (v0 v1 : V) (H : Heap) : Option R :=
 (bd (boxA ty_ref05_Rat v0) fun o1 =>
 (bd (boxA ty_ref05_Rat v1) fun o2 =>
 (bd (faA 0 (.ptr (some (H.n, 0)))) fun t5_3 =>
 (bd (ldN 2 t5_3 (((H.push o1).push o2).more 0)) fun t6_4 =>
 (bd (faA 2 (.ptr (some ((H.push o1).n, 0)))) fun t7_5 =>
 (bd (ldN 2 t7_5 (((H.push o1).push o2).more 0)) fun t8_6 =>
 (bd (f_ref04_Mul n [t6_4, t8_6] (((H.push o1).push o2).more 0)) fun r7 =>
 (bd (faA 0 (.ptr (some ((H.push o1).n, 0)))) fun t10_8 =>
 (bd (ldN 2 t10_8 r7.2) fun t11_9 =>
 (bd (chk (ldN 2 t10_8 (((H.push o1).push o2).more 0)) t11_9) fun _ =>
 (bd (faA 2 (.ptr (some (H.n, 0)))) fun t12_10 =>
 (bd (ldN 2 t12_10 r7.2) fun t13_11 =>
 (bd (chk (ldN 2 t12_10 (((H.push o1).push o2).more 0)) t13_11) fun _ =>
 (bd (f_ref04_Mul n [t11_9, t13_11] r7.2) fun r12 =>
 (bd (f_ref04_Cmp n [r7.1, r12.1] r12.2) fun r13 =>
 (some (r13.1, r13.2)))))))))))))))))
theorem ref05_Cmp_tot {v0 v1 : V} {H : Heap} {Q : V → Heap → Prop} (h : Tot (fun n => ref05_Cmp_b @bnd n v0 v1 H) Q) : Tot (fun n => f_ref05_Cmp n [v0, v1] H) Q := Tot.fn (fun n => bd_bnd (fun bd => ref05_Cmp_b bd n v0 v1 H) (by kernel_rfl)) h
/-! zellige/zelligeref05.Neg -/
@[simp] noncomputable def ref05_Neg_b (bd : B2) (n : Nat) (v0 : V) (H : Heap) : Option R :=
 (bd (boxA ty_ref05_Rat v0) fun o1 =>
 (bd (faA 0 (.ptr (some (H.n, 0)))) fun t3_2 =>
 (bd (ldN 2 t3_2 (((H.push o1).push (.cells [(.int .i64 0), (.slice ⟨none, 0, 0, false⟩), (.int .i64 0), (.slice ⟨none, 0, 0, false⟩)] ty_ref05_Rat false)).more 0)) fun t4_3 =>
 (bd (f_ref04_Neg n [t4_3] (((H.push o1).push (.cells [(.int .i64 0), (.slice ⟨none, 0, 0, false⟩), (.int .i64 0), (.slice ⟨none, 0, 0, false⟩)] ty_ref05_Rat false)).more 0)) fun r4 =>
 (bd (faA 2 (.ptr (some (H.n, 0)))) fun t6_5 =>
 (bd (ldN 2 t6_5 r4.2) fun t7_6 =>
 (bd (chk (ldN 2 t6_5 (((H.push o1).push (.cells [(.int .i64 0), (.slice ⟨none, 0, 0, false⟩), (.int .i64 0), (.slice ⟨none, 0, 0, false⟩)] ty_ref05_Rat false)).more 0)) t7_6) fun _ =>
 (bd (flA [(0, 2), (2, 2)] [(.int .i64 0), (.slice ⟨none, 0, 0, false⟩), (.int .i64 0), (.slice ⟨none, 0, 0, false⟩)] [(0, r4.1), (1, t7_6)]) fun t8_7 =>
 (bd (stA 4 (.ptr (some ((H.push o1).n, 0))) t8_7 r4.2) fun H8 =>
 (bd (ldN 4 (.ptr (some ((H.push o1).n, 0))) H8) fun t9 =>
 (some (t9, H8))))))))))))
theorem ref05_Neg_tot {v0 : V} {H : Heap} {Q : V → Heap → Prop} (h : Tot (fun n => ref05_Neg_b @bnd n v0 H) Q) : Tot (fun n => f_ref05_Neg n [v0] H) Q := Tot.fn (fun n => bd_bnd (fun bd => ref05_Neg_b bd n v0 H) (by kernel_rfl)) h
/-! zellige/svg.decimal -/
@[irreducible] noncomputable def svg_decimal.p0 (n : Nat) (v1 v7 v8 : V) (H : Heap) : Option R := E C n 20 [1, 1, 1, 1, 1] [(1, v1), (7, v7), (8, v8)] H (kR C 20)
@[irreducible] noncomputable def svg_decimal.p1 (n : Nat) (v7 v8 : V) (H : Heap) : Option R := E C n 20 [1, 1, 1, 1, 1, 1] [(7, v7), (8, v8)] H (kR C 20)
@[simp] noncomputable def svg_decimal.p0_b (bd : B2) (n : Nat) (v1 v7 v8 : V) (H : Heap) : Option R :=
 (bd (arA .gtr v1 (.int .i64 0)) fun t37_1 =>
 (bd (asB t37_1) fun b2 =>
 if b2 = true then
 (bd (lenStr v8) fun t39_3 =>
 (bd (arA .sub t39_3 v1) fun t41_4 =>
 (bd (slStr v8 none (some t41_4)) fun t44_5 =>
 (bd (arA .add t44_5 (.str [46])) fun t45_6 =>
 (bd (slStr v8 (some t41_4) none) fun t48_7 =>
 (bd (arA .add t45_6 t48_7) fun t49_8 =>
 (svg_decimal.p1 n v7 t49_8 (H.more 0))))))))
 else
 (svg_decimal.p1 n v7 v8 H)))
theorem svg_decimal.p0_tot {v1 v7 v8 : V} {H : Heap} {Q : V → Heap → Prop} (h : Tot (fun n => svg_decimal.p0_b @bnd n v1 v7 v8 H) Q) : Tot (fun n => svg_decimal.p0 n v1 v7 v8 H) Q := Tot.eq (fun n => bd_bnd (fun bd => svg_decimal.p0_b bd n v1 v7 v8 H) (by kernel_rfl)) h
@[simp] noncomputable def svg_decimal.p1_b (bd : B2) (n : Nat) (v7 v8 : V) (H : Heap) : Option R :=
 (bd (ldN 2 v7 H) fun t50_1 =>
 (bd (f_whole_Sign n [t50_1] H) fun r2 =>
 (bd (arA .lss r2.1 (.int .i64 0)) fun t52_3 =>
 (bd (asB t52_3) fun b4 =>
 if b4 = true then
 (bd (arA .add (.str [45]) v8) fun t54_5 =>
 (some (t54_5, r2.2)))
 else
 (some (v8, r2.2))))))
theorem svg_decimal.p1_tot {v7 v8 : V} {H : Heap} {Q : V → Heap → Prop} (h : Tot (fun n => svg_decimal.p1_b @bnd n v7 v8 H) Q) : Tot (fun n => svg_decimal.p1 n v7 v8 H) Q := Tot.eq (fun n => bd_bnd (fun bd => svg_decimal.p1_b bd n v7 v8 H) (by kernel_rfl)) h
@[simp] noncomputable def svg_decimal_b (bd : B2) (n : Nat) (v0 v1 : V) (H : Heap) : Option R :=
 (bd (boxA ty_api_Rat v0) fun o1 =>
 (bd (f_svg_power n [v1] (H.push o1)) fun r2 =>
 (bd (f_whole_Of n [(.int .i64 1)] r2.2) fun r3 =>
 (bd (f_rat_Make n [r2.1, r3.1] r3.2) fun r4 =>
 (bd (extA r4.1 0) fun t16_5 =>
 (bd (extA r4.1 1) fun t17_6 =>
 (bd (stA 3 (.ptr (some (r4.2.n, 0))) t16_5 (r4.2.push (.cells [(.bool false), (.slice ⟨none, 0, 0, false⟩), (.slice ⟨none, 0, 0, false⟩)] ty_api_Rat false))) fun H7 =>
 (bd (ldN 3 (.ptr (some (H.n, 0))) H7) fun t18_8 =>
 (bd (ldN 3 (.ptr (some (r4.2.n, 0))) H7) fun t19_9 =>
 (bd (f_rat_Mul n [t18_8, t19_9] H7) fun r10 =>
 (bd (f_rat_Round n [r10.1] r10.2) fun r11 =>
 (bd (stA 2 (.ptr (some (r11.2.n, 0))) r11.1 (r11.2.push (.cells [(.bool false), (.slice ⟨none, 0, 0, false⟩)] ty_api_Int false))) fun H12 =>
 (bd (faA 1 (.ptr (some (r11.2.n, 0)))) fun t22_13 =>
 (bd (ld1 t22_13 H12) fun t23_14 =>
 (bd (f_nat_Show n [t23_14] H12) fun r15 =>
 (bd (arA .add v1 (.int .i64 1)) fun t26_16 =>
 (bd (lenStr r15.1) fun t28_17 =>
 (bd (arA .sub t26_16 t28_17) fun t29_18 =>
 (bd (arA .gtr t29_18 (.int .i64 0)) fun t31_19 =>
 (bd (asB t31_19) fun b20 =>
 if b20 = true then
 (bd (f_strings_Repeat n [(.str [48]), t29_18] r15.2) fun r21 =>
 (bd (arA .add r21.1 r15.1) fun t35_22 =>
 (svg_decimal.p0 n v1 (.ptr (some (r11.2.n, 0))) t35_22 r21.2)))
 else
 (svg_decimal.p0 n v1 (.ptr (some (r11.2.n, 0))) r15.1 r15.2)))))))))))))))))))))
theorem svg_decimal_tot {v0 v1 : V} {H : Heap} {Q : V → Heap → Prop} (h : Tot (fun n => svg_decimal_b @bnd n v0 v1 H) Q) : Tot (fun n => f_svg_decimal n [v0, v1] H) Q := Tot.fn (fun n => bd_bnd (fun bd => svg_decimal_b bd n v0 v1 H) (by kernel_rfl)) h
/-! zellige/zelligeref40.Scaled -/
@[irreducible] noncomputable def ref40_Scaled.l0 (n m0 : Nat) (v1 v2 v4 v5 : V) (H : Heap) : Option R := Lp C n 21 [1, 0, 1, 0, 0] m0 [(1, v1), (2, v2), (4, v4), (5, v5)] H (kB 0 (kC C n 21 [1, 1] (kR C 21)))
@[simp] noncomputable def ref40_Scaled.l0_b (bd : B2) (n m0 : Nat) (v1 v2 v4 v5 : V) (H : Heap) : Option R :=
 (bd (arA .lss v5 v1) fun t8_1 =>
 (bd (asB t8_1) fun b2 =>
 if b2 = true then
 (bd (f_ref05_Long n [(.int .i64 10)] (H.more 0)) fun r3 =>
 (bd (ldN 4 v2 r3.2) fun t11_4 =>
 (bd (chk (ldN 4 v2 (H.more 0)) t11_4) fun _ =>
 (bd (f_ref05_Mul n [t11_4, r3.1] r3.2) fun r5 =>
 (bd (stA 4 v2 r5.1 r5.2) fun H6 =>
 (bd (arA .add v5 (.int .i64 1)) fun t10_7 =>
 (ref40_Scaled.l0 n m0 v1 v2 v4 t10_7 H6)))))))
 else
 (bd (ldN 4 v2 H) fun t14_8 =>
 (bd (f_ref05_Round n [t14_8] H) fun r9 =>
 (bd (stA 2 v4 r9.1 r9.2) fun H10 =>
 (bd (ldN 2 v4 H10) fun t11 =>
 (some (t11, H10))))))))
theorem ref40_Scaled.l0_tot {m0 : Nat → Nat} {v1 v2 v4 v5 : V} {H : Heap} {Q : V → Heap → Prop} (hb : Big m0) (h : ∀ m0', Big m0' → Tot (fun n => ref40_Scaled.l0_b @bnd n (m0' n) v1 v2 v4 v5 H) Q) : Tot (fun n => ref40_Scaled.l0 n (m0 n) v1 v2 v4 v5 H) Q :=
  Tot.loop (f := fun n k => ref40_Scaled.l0 n k v1 v2 v4 v5 H) (g := fun n k => ref40_Scaled.l0_b @bnd n k v1 v2 v4 v5 H) hb (fun n k => bd_bnd (fun bd => ref40_Scaled.l0_b bd n k v1 v2 v4 v5 H) (by kernel_rfl)) h
@[simp] noncomputable def ref40_Scaled_b (bd : B2) (n : Nat) (v0 v1 : V) (H : Heap) : Option R :=
 (bd (boxA ty_ref05_Rat v0) fun o1 =>
 (ref40_Scaled.l0 n n v1 (.ptr (some (H.n, 0))) (.ptr (some ((H.push o1).n, 0))) (.int .i64 0) ((H.push o1).push (.cells [(.int .i64 0), (.slice ⟨none, 0, 0, false⟩)] ty_ref04_Int false))))
theorem ref40_Scaled_tot {v0 v1 : V} {H : Heap} {Q : V → Heap → Prop} (h : Tot (fun n => ref40_Scaled_b @bnd n v0 v1 H) Q) : Tot (fun n => f_ref40_Scaled n [v0, v1] H) Q := Tot.fn (fun n => bd_bnd (fun bd => ref40_Scaled_b bd n v0 v1 H) (by kernel_rfl)) h
/-! zellige/zelligeref03.Show -/
@[irreducible] noncomputable def ref03_Show.l0 (n m0 : Nat) (v3 v4 : V) (H : Heap) : Option R := Lp C n 22 [1, 1, 0, 0, 0] m0 [(3, v3), (4, v4)] H (kB 0 (kC C n 22 [1, 1, 1] (kR C 22)))
@[irreducible] noncomputable def ref03_Show.l1 (n m0 m1 : Nat) (v3 v4 v5 v6 : V) (H : Heap) : Option R := Lp C n 22 [1, 1, 0, 0, 0, 1, 0, 1, 0, 1, 0, 0] m1 [(3, v3), (4, v4), (5, v5), (6, v6)] H (kB 2 (kC C n 22 [1, 1, 0, 0, 0, 1, 0, 1, 1] (kB 1 (kL C n 22 [1, 1, 0, 0, 0] m0 (kB 0 (kC C n 22 [1, 1, 1] (kR C 22)))))))
@[irreducible] noncomputable def ref03_Show.p2 (n m0 : Nat) (v3 v4 v5 : V) (H : Heap) : Option R := E C n 22 [1, 1, 0, 0, 0, 1, 0, 1, 1] [(3, v3), (4, v4), (5, v5)] H (kB 1 (kL C n 22 [1, 1, 0, 0, 0] m0 (kB 0 (kC C n 22 [1, 1, 1] (kR C 22)))))
@[simp] noncomputable def ref03_Show.l0_b (bd : B2) (n m0 : Nat) (v3 v4 : V) (H : Heap) : Option R :=
 (bd (lenSl v3) fun t11_1 =>
 (bd (arA .gtr t11_1 (.int .i64 0)) fun t12_2 =>
 (bd (asB t12_2) fun b3 =>
 if b3 = true then
 (bd (lenSl v3) fun t18_4 =>
 (bd (arA .sub t18_4 (.int .i64 1)) fun t19_5 =>
 (ref03_Show.l1 n m0 n v3 v4 (.int .i64 0) t19_5 H)))
 else
 (bd (arA .eql v4 (.str [])) fun t15_6 =>
 (bd (asB t15_6) fun b7 =>
 if b7 = true then
 (bd (lenSl v3) fun t18_8 =>
 (bd (arA .sub t18_8 (.int .i64 1)) fun t19_9 =>
 (ref03_Show.l1 n m0 n v3 v4 (.int .i64 0) t19_9 H)))
 else
 (some (v4, H)))))))
theorem ref03_Show.l0_tot {m0 : Nat → Nat} {v3 v4 : V} {H : Heap} {Q : V → Heap → Prop} (hb : Big m0) (h : ∀ m0', Big m0' → Tot (fun n => ref03_Show.l0_b @bnd n (m0' n) v3 v4 H) Q) : Tot (fun n => ref03_Show.l0 n (m0 n) v3 v4 H) Q :=
  Tot.loop (f := fun n k => ref03_Show.l0 n k v3 v4 H) (g := fun n k => ref03_Show.l0_b @bnd n k v3 v4 H) hb (fun n k => bd_bnd (fun bd => ref03_Show.l0_b bd n k v3 v4 H) (by kernel_rfl)) h
@[simp] noncomputable def ref03_Show.l1_b (bd : B2) (n m0 m1 : Nat) (v3 v4 v5 v6 : V) (H : Heap) : Option R :=
 (bd (arA .geq v6 (.int .i64 0)) fun t21_1 =>
 (bd (asB t21_1) fun b2 =>
 if b2 = true then
 (bd (arA .mul v5 (.int .i64 65536)) fun t25_3 =>
 (bd (idxS 1 v3 v6) fun t28_4 =>
 (bd (ld1 t28_4 H) fun t29_5 =>
 (bd (arA .add t25_3 t29_5) fun t30_6 =>
 (bd (arA .quo t30_6 (.int .i64 10)) fun t34_7 =>
 (bd (arA .rem t30_6 (.int .i64 10)) fun t36_8 =>
 (bd (idxS 1 v3 v6) fun t37_9 =>
 (bd (stA 1 t37_9 t34_7 H) fun H10 =>
 (bd (arA .sub v6 (.int .i64 1)) fun t23_11 =>
 (ref03_Show.l1 n m0 m1 v3 v4 t36_8 t23_11 H10))))))))))
 else
 (ref03_Show.p2 n m0 v3 v4 v5 H)))
theorem ref03_Show.l1_tot {m0 : Nat → Nat} {m1 : Nat → Nat} {v3 v4 v5 v6 : V} {H : Heap} {Q : V → Heap → Prop} (hb : Big m1) (h : ∀ m1', Big m1' → Tot (fun n => ref03_Show.l1_b @bnd n (m0 n) (m1' n) v3 v4 v5 v6 H) Q) : Tot (fun n => ref03_Show.l1 n (m0 n) (m1 n) v3 v4 v5 v6 H) Q :=
  Tot.loop (f := fun n k => ref03_Show.l1 n (m0 n) k v3 v4 v5 v6 H) (g := fun n k => ref03_Show.l1_b @bnd n (m0 n) k v3 v4 v5 v6 H) hb (fun n k => bd_bnd (fun bd => ref03_Show.l1_b bd n (m0 n) k v3 v4 v5 v6 H) (by kernel_rfl)) h
@[simp] noncomputable def ref03_Show.p2_b (bd : B2) (n m0 : Nat) (v3 v4 v5 : V) (H : Heap) : Option R :=
 (bd (f_ref03_Trim n [v3] H) fun r1 =>
 (bd (arA .add v5 (.int .i64 1)) fun t42_2 =>
 (bd (slStr (.str [48, 49, 50, 51, 52, 53, 54, 55, 56, 57]) (some v5) (some t42_2)) fun t43_3 =>
 (bd (arA .add t43_3 v4) fun t45_4 =>
 (ref03_Show.l0 n m0 r1.1 t45_4 r1.2)))))
theorem ref03_Show.p2_tot {m0 : Nat → Nat} {v3 v4 v5 : V} {H : Heap} {Q : V → Heap → Prop} (h : Tot (fun n => ref03_Show.p2_b @bnd n (m0 n) v3 v4 v5 H) Q) : Tot (fun n => ref03_Show.p2 n (m0 n) v3 v4 v5 H) Q := Tot.eq (fun n => bd_bnd (fun bd => ref03_Show.p2_b bd n (m0 n) v3 v4 v5 H) (by kernel_rfl)) h
@[simp] noncomputable def ref03_Show_b (bd : B2) (n : Nat) (v0 : V) (H : Heap) : Option R :=
 (bd (bSl 1 ty_int [(.int .i64 0)] 0 []) fun o1 =>
 (bd (appA 1 8 ty_int (.slice ⟨some (H.n, 0), 0, 1, false⟩) v0 (H.push o1)) fun p2 =>
 (ref03_Show.l0 n n p2.1 (.str []) p2.2)))
theorem ref03_Show_tot {v0 : V} {H : Heap} {Q : V → Heap → Prop} (h : Tot (fun n => ref03_Show_b @bnd n v0 H) Q) : Tot (fun n => f_ref03_Show n [v0] H) Q := Tot.fn (fun n => bd_bnd (fun bd => ref03_Show_b bd n v0 H) (by kernel_rfl)) h
end Go.AM
end
