/- Merged by program from: AmSpec AmSim AmKeep AmArg2 AmLaw AmFT UsA RowG ShA ShB ShC ShD ShE ShF ShG ShH ShJ HvLC. -/
import Derived.IntWalk
import Derived.WideShapes
import Derived.Test.YtfobbpeiehiinaaGreatDoorX3
section
set_option linter.unusedVariables false
set_option linter.unusedSimpArgs false
namespace Go.AM
theorem Tot.yes {c : Prop} [Decidable c] {a b : Nat → Option R} {Q : V → Heap → Prop} (h : c) (ha : Tot a Q) : Tot (fun n => if c then a n else b n) Q := Tot.ite (fun _ => ha) fun k => (k h).elim
theorem Tot.no {c : Prop} [Decidable c] {a b : Nat → Option R} {Q : V → Heap → Prop} (h : ¬ c) (hb : Tot b Q) : Tot (fun n => if c then a n else b n) Q := Tot.ite (fun k => (h k).elim) fun _ => hb
structure Ch (X : Nat → Prop) (H H' : Heap) : Prop where
  n : H.n ≤ H'.n
  get : ∀ i, i < H.n → ¬ X i → H'.get i = H.get i
abbrev Ext0 (H H' : Heap) : Prop := Ch (fun _ => False) H H'
theorem Ch.refl {X : Nat → Prop} {H : Heap} : Ch X H H := ⟨Nat.le_refl _, fun _ _ _ => rfl⟩
theorem Ch.trans {X Y : Nat → Prop} {H H' H'' : Heap} (h : Ch X H H') (k : Ch Y H' H'') (hXY : ∀ i, i < H.n → Y i → X i) : Ch X H H'' :=
  ⟨Nat.le_trans h.n k.n, fun i hi hx => (k.get i (Nat.lt_of_lt_of_le hi h.n) fun y => hx (hXY i hi y)).trans (h.get i hi hx)⟩
theorem Ch.t {X : Nat → Prop} {H H' H'' : Heap} (h : Ch X H H') (k : Ext0 H' H'') : Ch X H H'' := h.trans k fun _ _ f => f.elim
theorem Ch.mono {X Y : Nat → Prop} {H H' : Heap} (h : Ch X H H') (hXY : ∀ i, i < H.n → X i → Y i) : Ch Y H H' := ⟨h.n, fun i hi hy => h.get i hi fun x => hy (hXY i hi x)⟩
theorem Ch.ext {X : Nat → Prop} {H H' : Heap} (h : Ch X H H') (hX : ∀ i, i < H.n → ¬ X i) : Ext0 H H' := h.mono fun i hi x => (hX i hi x).elim
theorem Ch.push {X : Nat → Prop} {H : Heap} {o : O} : Ch X H (H.push o) := ⟨by simp, fun i hi _ => by rw [Heap.get_push, if_neg (by omega)]⟩
theorem Ch.set {X : Nat → Prop} {H : Heap} {i : Nat} {o : O} (hi : X i) : Ch X H (H.set i o) := ⟨by simp, fun j hj hx => by rw [Heap.get_set, if_neg (fun e => hx (by rw [e]; exact hi))]⟩
theorem Ch.more {X : Nat → Prop} {H : Heap} {m : Nat} : Ch X H (H.more m) := ⟨by simp, fun i hi _ => rfl⟩
theorem Heap.gqz {H : Heap} {i : Nat} {o : O} (h : i ≠ H.n) : (H.push o).get i = H.get i := by rw [Heap.get_push, if_neg h]
theorem Heap.gpz {H : Heap} {i : Nat} {o : O} (h : i = H.n) : (H.push o).get i = o := by rw [Heap.get_push, if_pos h]
theorem Heap.gtz {H : Heap} {i j : Nat} {o : O} (h : i ≠ j) : (H.set j o).get i = H.get i := by rw [Heap.get_set, if_neg h]
theorem Heap.gsz {H : Heap} {i j : Nat} {o : O} (h : i = j) : (H.set j o).get i = o := by rw [Heap.get_set, if_pos h]
abbrev nums (k : IntKind) (l : List Nat) : List V := l.map fun (x : Nat) => V.int k x
structure Row (H : Heap) (k : IntKind) (s : Sl) (l : List Nat) : Prop where
  len : s.len = l.length
  low : ∀ b o, s.ad = some (b, o) → b < H.n ∧ s.esz = 1
  mem : l ≠ [] → ∃ b o cs e ro, s.ad = some (b, o) ∧ H.get b = .cells cs e ro ∧ o + l.length ≤ cs.length ∧ (cs.drop o).take l.length = nums k l
def Sl.has (s : Sl) (i : Nat) : Prop := ∃ o, s.ad = some (i, o)
def Fr (n : Nat) (s : Sl) : Prop := ∀ i, s.has i → n ≤ i
def at_ (s : Sl) (i : Nat) : V := match s.ad with
  | some (b, o) => .ptr (some (b, o + i))
  | none => .dead
theorem Row.ch {X : Nat → Prop} {H H' : Heap} {k : IntKind} {s : Sl} {l : List Nat} (h : Row H k s l) (e : Ch X H H') (hX : ∀ i, s.has i → ¬ X i) : Row H' k s l := by
  refine ⟨h.len, fun b o hs => ⟨Nat.lt_of_lt_of_le (h.low b o hs).1 e.n, (h.low b o hs).2⟩, fun hl => ?_⟩
  obtain ⟨b, o, cs, e', ro, h1, h2, h3, h4⟩ := h.mem hl
  exact ⟨b, o, cs, e', ro, h1, by rw [e.get b (h.low b o h1).1 (hX b ⟨o, h1⟩)]; exact h2, h3, h4⟩
theorem Row.ext {H H' : Heap} {k : IntKind} {s : Sl} {l : List Nat} (h : Row H k s l) (e : Ext0 H H') : Row H' k s l := h.ch e fun _ _ f => f
theorem Row.lt {H : Heap} {k : IntKind} {s : Sl} {l : List Nat} (h : Row H k s l) {i : Nat} (hs : s.has i) : i < H.n := by
  obtain ⟨o, hs⟩ := hs; exact (h.low i o hs).1
theorem Row.nil {H : Heap} {k : IntKind} {z : Nat} {f : Bool} : Row H k ⟨none, 0, z, f⟩ [] := ⟨rfl, fun _ _ h => (by cases h), fun h => (h rfl).elim⟩
theorem Row.new {H : Heap} {k : IntKind} {l : List Nat} {b e : Nat} {ro f : Bool} (hb : b < H.n) (hg : H.get b = .cells (nums k l) e ro) : Row H k ⟨some (b, 0), l.length, 1, f⟩ l :=
  ⟨rfl, fun c o h => by (cases h; exact ⟨hb, rfl⟩), fun _ => ⟨b, 0, nums k l, e, ro, rfl, hg, by simp, by rw [List.drop_zero, List.take_of_length_le (by simp)]⟩⟩
theorem Row.lenSl {H : Heap} {k : IntKind} {s : Sl} {l : List Nat} (h : Row H k s l) : lenSl (.slice s) = some (.int .i64 (l.length : Int)) := by
  simp [AM.lenSl, h.len]
theorem Row.get {H : Heap} {k : IntKind} {s : Sl} {l : List Nat} (h : Row H k s l) {i : Nat} (hi : i < l.length) : ld1 (at_ s i) H = some (.int k (nth l i : Nat)) := by
  have hl : l ≠ [] := by intro e; subst e; simp at hi
  obtain ⟨b, o, cs, e', ro, a1, a2, a3, a4⟩ := h.mem hl
  simp only [at_, a1, ld1, a2]
  have h5 : ((cs.drop o).take l.length)[i]? = (nums k l)[i]? := by rw [a4]
  rw [List.getElem?_take, if_pos hi, List.getElem?_drop] at h5
  rw [h5]
  simp [nums, nth, List.getElem?_eq_getElem hi, List.getD_eq_getElem?_getD]
theorem Row.rd {H : Heap} {k : IntKind} {s : Sl} {l : List Nat} (h : Row H k s l) : rdS s H = some (nums k l) := by
  by_cases hl : l = []
  · subst hl
    have := h.len
    simp at this
    unfold rdS
    split <;> simp [this, nums]
  · obtain ⟨b, o, cs, e', ro, a1, a2, a3, a4⟩ := h.mem hl
    have h2 := (h.low b o a1).2
    have hn : ¬ s.len = 0 := by rw [h.len]; simpa using hl
    unfold rdS
    rw [a1]
    simp only [if_neg hn, a2, h2, Nat.mul_one]
    rw [h.len, if_pos a3, a4]
theorem Row.src {H : Heap} {k : IntKind} {s : Sl} {l : List Nat} (h : Row H k s l) : srcA 1 (.slice s) H = some (l.length, nums k l) := by
  have : s.ad.isNone = true ∨ s.esz = 1 := by
    cases hs : s.ad with
    | none => exact .inl rfl
    | some p => exact .inr (h.low p.1 p.2 (by rw [hs])).2
  simp only [srcA, if_pos this, h.rd, Option.map_some, h.len]
def subS (s : Sl) (lo hi : Nat) : Sl := ⟨s.ad.map fun (b, o) => (b, o + lo), hi - lo, 1, false⟩
theorem Row.sub {H : Heap} {k : IntKind} {s : Sl} {l : List Nat} (h : Row H k s l) {lo hi : Nat} (h1 : lo ≤ hi) (h2 : hi ≤ l.length) : Row H k (subS s lo hi) ((l.drop lo).take (hi - lo)) := by
  refine ⟨by simp [subS]; omega, ?_, ?_⟩
  · intro b o hs
    unfold subS at hs ⊢
    cases ha : s.ad with
    | none => rw [ha] at hs; simp at hs
    | some p => rw [ha] at hs; simp at hs; exact ⟨by have := (h.low p.1 p.2 (by rw [ha])).1; omega, rfl⟩
  · intro hl
    have hne : l ≠ [] := by intro e; subst e; simp at hl
    obtain ⟨b, o, cs, e', ro, a1, a2, a3, a4⟩ := h.mem hne
    refine ⟨b, o + lo, cs, e', ro, by simp [subS, a1], a2, by simp; omega, ?_⟩
    have hlen : ((l.drop lo).take (hi - lo)).length = hi - lo := by simp; omega
    rw [hlen, ← List.drop_drop]
    have : ((cs.drop o).take l.length).drop lo = (nums k l).drop lo := by rw [a4]
    rw [List.drop_take] at this
    have h6 : (((cs.drop o).drop lo).take (l.length - lo)).take (hi - lo) = ((nums k l).drop lo).take (hi - lo) := by rw [this]
    rw [List.take_take, show min (hi - lo) (l.length - lo) = hi - lo by omega] at h6
    rw [h6]; simp [nums, List.map_drop, List.map_take]
theorem Row.slice {H : Heap} {k : IntKind} {s : Sl} {l : List Nat} (h : Row H k s l) {lo hi : Option V} {a b : Nat} (hlo : bndA 0 lo = some a) (hhi : bndA s.len hi = some b) (h1 : a ≤ b) (h2 : b ≤ l.length) :
    slSl 1 (.slice s) lo hi = some (.slice (subS s a b)) := by
  have : s.ad.isNone = true ∨ s.esz = 1 := by
    cases hs : s.ad with
    | none => exact .inl rfl
    | some p => exact .inr (h.low p.1 p.2 (by rw [hs])).2
  have h3 : b ≤ s.len := by rw [h.len]; exact h2
  simp only [slSl, hlo, hhi, Option.bind_some]
  rw [if_pos ⟨h1, h3, this⟩]
  simp [subS]
theorem bndA_int {d : Nat} {q : IntKind} {i : Int} (h : 0 ≤ i) : bndA d (some (.int q i)) = some i.toNat := by simp [bndA, h]
theorem bndA_none {d : Nat} : bndA d none = some d := rfl
theorem Fr.nil {n z l : Nat} {f : Bool} : Fr n ⟨none, l, z, f⟩ := fun i hi => by unfold Sl.has at hi; simp at hi
def Own (H : Heap) (k : IntKind) (e : Nat) (s : Sl) (l : List Nat) : Prop :=
  (s = ⟨none, 0, 0, false⟩ ∧ l = []) ∨ ∃ b, s = ⟨some (b, 0), l.length, 1, false⟩ ∧ b < H.n ∧ H.get b = .cells (nums k l) e false
theorem Own.row {H : Heap} {k : IntKind} {e : Nat} {s : Sl} {l : List Nat} (h : Own H k e s l) : Row H k s l := by
  rcases h with ⟨rfl, rfl⟩ | ⟨b, rfl, h1, h2⟩
  · exact Row.nil
  · exact Row.new h1 h2
theorem Own.ch {X : Nat → Prop} {H H' : Heap} {k : IntKind} {e : Nat} {s : Sl} {l : List Nat} (h : Own H k e s l) (c : Ch X H H') (hX : ∀ i, s.has i → ¬ X i) : Own H' k e s l := by
  rcases h with h | ⟨b, rfl, h1, h2⟩
  · exact .inl h
  · exact .inr ⟨b, rfl, Nat.lt_of_lt_of_le h1 c.n, by rw [c.get b h1 (hX b ⟨0, rfl⟩)]; exact h2⟩
theorem Own.ext {H H' : Heap} {k : IntKind} {e : Nat} {s : Sl} {l : List Nat} (h : Own H k e s l) (c : Ext0 H H') : Own H' k e s l := h.ch c fun _ _ f => f
theorem rowA_nums {k : IntKind} : ∀ n, rowA [.int k 0] n = nums k (List.replicate n 0)
  | 0 => rfl
  | n + 1 => by
    have := rowA_nums (k := k) n
    simp only [rowA, this, nums, List.replicate_succ, List.map_cons, List.cons_append, List.nil_append]
    rfl
theorem Own.new {H : Heap} {k : IntKind} {e : Nat} {l : List Nat} : Own (H.push (.cells (nums k l) e false)) k e ⟨some (H.n, 0), l.length, 1, false⟩ l :=
  .inr ⟨H.n, rfl, by simp, Heap.gpz rfl⟩
theorem nums_rep {k : IntKind} {n : Nat} : nums k (List.replicate n 0) = List.replicate n (.int k 0) := by simp [nums]
theorem Own.make {H : Heap} {k : IntKind} {e n : Nat} : Own (H.push (.cells (List.replicate n (.int k 0)) e false)) k e ⟨some (H.n, 0), n, 1, false⟩ (List.replicate n 0) :=
  .inr ⟨H.n, by simp, by simp, by rw [nums_rep]; exact Heap.gpz rfl⟩
structure Mut (H : Heap) (k : IntKind) (e b : Nat) (p l q : List Nat) (s : Sl) : Prop where
  ad : s.ad = some (b, p.length)
  len : s.len = l.length
  esz : s.esz = 1
  lt : b < H.n
  get : H.get b = .cells (nums k (p ++ l ++ q)) e false
theorem Mut.row {H : Heap} {k : IntKind} {e b : Nat} {p l q : List Nat} {s : Sl} (h : Mut H k e b p l q s) : Row H k s l :=
  ⟨h.len, fun c o hs => by rw [h.ad] at hs; cases hs; exact ⟨h.lt, h.esz⟩, fun _ => ⟨b, p.length, _, e, false, h.ad, h.get, by simp <;> omega, by
    simp only [nums, List.map_append, List.append_assoc]
    rw [List.drop_left' (by simp)]
    rw [List.take_left' (by simp)]⟩⟩
theorem Mut.has {H : Heap} {k : IntKind} {e b : Nat} {p l q : List Nat} {s : Sl} (h : Mut H k e b p l q s) {i : Nat} : s.has i ↔ i = b := by
  unfold Sl.has; rw [h.ad]; constructor
  · rintro ⟨o, h⟩; simp at h; exact h.1.symm
  · rintro rfl; exact ⟨_, rfl⟩
theorem Mut.ch {X : Nat → Prop} {H H' : Heap} {k : IntKind} {e b : Nat} {p l q : List Nat} {s : Sl} (h : Mut H k e b p l q s) (c : Ch X H H') (hX : ¬ X b) : Mut H' k e b p l q s :=
  ⟨h.ad, h.len, h.esz, Nat.lt_of_lt_of_le h.lt c.n, by rw [c.get b h.lt hX]; exact h.get⟩
theorem Mut.ext {H H' : Heap} {k : IntKind} {e b : Nat} {p l q : List Nat} {s : Sl} (h : Mut H k e b p l q s) (c : Ext0 H H') : Mut H' k e b p l q s := h.ch c fun f => f
theorem Mut.own {H : Heap} {k : IntKind} {e b : Nat} {l : List Nat} {s : Sl} (h : Mut H k e b [] l [] s) (hf : s.full = false) : Own H k e s l := by
  refine .inr ⟨b, ?_, h.lt, by simpa using h.get⟩
  cases s with
  | mk a n z f =>
    have h1 := h.ad; have h2 := h.len; have h3 := h.esz
    simp at h1 h2 h3 hf
    subst h1 h2 h3 hf; rfl
theorem Mut.make {H : Heap} {k : IntKind} {e n : Nat} : Mut (H.push (.cells (List.replicate n (.int k 0)) e false)) k e H.n [] (List.replicate n 0) [] ⟨some (H.n, 0), n, 1, false⟩ :=
  ⟨rfl, by simp, rfl, by simp, by rw [Heap.gpz rfl]; simp⟩
theorem Mut.part {H : Heap} {k : IntKind} {e b : Nat} {l p m q : List Nat} {s : Sl} (h : Mut H k e b [] l [] s) (he : l = p ++ m ++ q) : Mut H k e b p m q (subS s p.length (p.length + m.length)) :=
  ⟨by simp [subS, h.ad], by simp [subS], rfl, h.lt, by rw [h.get, he]; simp⟩
theorem Mut.pre {H : Heap} {k : IntKind} {e b : Nat} {l l1 l2 q : List Nat} {s t : Sl} (h : Mut H k e b [] l q s) (he : l = l1 ++ l2) (h1 : t.ad = s.ad) (h2 : t.esz = 1) (h3 : t.len = l1.length) : Mut H k e b [] l1 (l2 ++ q) t :=
  ⟨by rw [h1, h.ad], h3, h2, h.lt, by rw [h.get, he]; simp⟩
theorem lset_one {cs : List V} {o : Nat} {x : V} : lset cs o [x] = cs.set o x := rfl
theorem Mut.st {H : Heap} {k : IntKind} {e b : Nat} {p l q : List Nat} {s : Sl} (h : Mut H k e b p l q s) {i x : Nat} {xi : Int} (hi : i < l.length) (hx : xi = (x : Int)) :
    ∃ H', stA 1 (at_ s i) (.int k xi) H = some H' ∧ Mut H' k e b p (l.set i x) q s ∧ Ch (· = b) H H' := by
  subst hx
  refine ⟨H.set b (.cells (nums k (p ++ l.set i x ++ q)) e false), ?_, ⟨h.ad, by simp [h.len], h.esz, by simp [h.lt], by rw [Heap.gsz rfl]⟩, Ch.set rfl⟩
  have hc : V.cells (.int k (x : Int)) = [.int k x] := rfl
  simp only [at_, h.ad, stA, h.get, hc]
  rw [if_pos ⟨rfl, by simp; omega, by simp [V.one]⟩, lset_one]
  congr 3
  simp only [nums, ← List.map_set (f := fun (x : Nat) => V.int k x)]
  congr 1
  rw [List.append_assoc, List.append_assoc, List.set_append_right _ _ (by omega), show p.length + i - p.length = i by omega, List.set_append_left _ _ hi]
theorem Tot.st {H : Heap} {k : IntKind} {e b : Nat} {p l q : List Nat} {s : Sl} (h : Mut H k e b p l q s) {i x : Nat} {xi : Int} (hi : i < l.length) (hx : xi = (x : Int)) {K : Nat → Heap → Option R} {Q : V → Heap → Prop}
    (hk : ∀ H', Mut H' k e b p (l.set i x) q s → Ch (· = b) H H' → Tot (fun n => K n H') Q) : Tot (fun n => bnd (stA 1 (at_ s i) (.int k xi) H) (K n)) Q := by
  obtain ⟨H', h1, h2, h3⟩ := h.st hi hx
  simp only [h1, bnd_some]
  exact hk H' h2 h3
theorem mkSl_nums {by_ e : Nat} {k q q' : IntKind} {l c : Int} (h : 0 ≤ l ∧ l ≤ c ∧ c < 2147483648 ∧ by_ ≤ 4096) :
    mkSl 1 by_ e [.int k 0] (.int q l) (.int q' c) = some (.cells (List.replicate l.toNat (.int k 0)) e false, l.toNat) := by
  simp only [mkSl]
  rw [if_pos ⟨h.1, h.2.1, h.2.2.1, h.2.2.2, rfl, rfl⟩, rowA_nums, nums_rep]
theorem mkSl_zero {by_ e : Nat} {k q q' : IntKind} {c : Int} (h : 0 ≤ c ∧ c < 2147483648 ∧ by_ ≤ 4096) :
    mkSl 1 by_ e [.int k 0] (.int q 0) (.int q' c) = some (.cells (nums k []) e false, 0) := by
  rw [mkSl_nums (by omega)]; rfl
end Go.AM
end
section
set_option linter.unusedVariables false
set_option linter.unusedSimpArgs false
namespace Go.AM
theorem wrap_i64 {n : Int} (h : -9223372036854775808 ≤ n ∧ n ≤ 9223372036854775807) : IntKind.i64.wrap n = n := IntWalk.i64_in n h
theorem wrap_u64 {n : Int} (h : 0 ≤ n ∧ n ≤ 18446744073709551615) : IntKind.u64.wrap n = n := IntWalk.u64_in n h
theorem wrap_u32 {n : Int} (h : 0 ≤ n ∧ n ≤ 4294967295) : IntKind.u32.wrap n = n := IntWalk.u32_in n h
theorem wrap_u8 {n : Int} (h : 0 ≤ n ∧ n ≤ 255) : IntKind.u8.wrap n = n := IntWalk.u8_in n h
theorem wrap_u64m (n : Int) : IntKind.u64.wrap n = n % 18446744073709551616 := rfl
theorem ar_add {k : IntKind} {a b : Int} : arA .add (.int k a) (.int k b) = some (.int k (k.wrap (a + b))) := by simp [arA, intA]
theorem ar_sub {k : IntKind} {a b : Int} : arA .sub (.int k a) (.int k b) = some (.int k (k.wrap (a - b))) := by simp [arA, intA]
theorem ar_mul {k : IntKind} {a b : Int} : arA .mul (.int k a) (.int k b) = some (.int k (k.wrap (a * b))) := by simp [arA, intA]
theorem ar_quo {k : IntKind} {a b : Int} (h : 0 ≤ a ∧ 1 ≤ b) : arA .quo (.int k a) (.int k b) = some (.int k (k.wrap (a / b))) := by
  have : b ≠ 0 := by omega
  simp [arA, intA, this, Int.tdiv_eq_ediv_of_nonneg h.1]
theorem ar_rem {k : IntKind} {a b : Int} (h : 0 ≤ a ∧ 1 ≤ b) : arA .rem (.int k a) (.int k b) = some (.int k (a % b)) := by
  have : b ≠ 0 := by omega
  simp [arA, intA, this, Int.tmod_eq_emod_of_nonneg h.1]
theorem ar_lss {k : IntKind} {a b : Int} : arA .lss (.int k a) (.int k b) = some (.bool (decide (a < b))) := by simp [arA, intA]
theorem ar_leq {k : IntKind} {a b : Int} : arA .leq (.int k a) (.int k b) = some (.bool (decide (a ≤ b))) := by simp [arA, intA]
theorem ar_gtr {k : IntKind} {a b : Int} : arA .gtr (.int k a) (.int k b) = some (.bool (decide (a > b))) := by simp [arA, intA]
theorem ar_geq {k : IntKind} {a b : Int} : arA .geq (.int k a) (.int k b) = some (.bool (decide (a ≥ b))) := by simp [arA, intA]
theorem ar_eql {k : IntKind} {a b : Int} : arA .eql (.int k a) (.int k b) = some (.bool (decide (a = b))) := by
  have : (a == b) = decide (a = b) := by by_cases h : a = b <;> simp [h]
  simp [arA, intA, this]
theorem ar_neq {k : IntKind} {a b : Int} : arA .neq (.int k a) (.int k b) = some (.bool (decide (a ≠ b))) := by
  have : (a != b) = decide (a ≠ b) := by by_cases h : a = b <;> simp [h]
  simp [arA, intA, this]
theorem shr_u64 {q : IntKind} {a : Int} (h : 0 ≤ a) : shA .shr (.int .u64 a) (.int q 32) = some (.int .u64 (a / 4294967296)) := by
  simp [shA, shiftA, IntKind.bits, Int.fdiv_eq_ediv_of_nonneg]
theorem shr_u64_63 {q : IntKind} {a : Int} (h : 0 ≤ a) : shA .shr (.int .u64 a) (.int q 63) = some (.int .u64 (a / 9223372036854775808)) := by
  simp [shA, shiftA, IntKind.bits, Int.fdiv_eq_ediv_of_nonneg]
theorem wrap_u64_pos (z : Int) : 0 ≤ IntKind.u64.wrap z := by rw [wrap_u64m]; exact Int.emod_nonneg _ (by decide)
theorem shr_u64w {q : IntKind} {a : Int} : shA .shr (.int .u64 (IntKind.u64.wrap a)) (.int q 32) = some (.int .u64 (IntKind.u64.wrap a / 4294967296)) := shr_u64 (wrap_u64_pos _)
theorem shr_u64_63w {q : IntKind} {a : Int} : shA .shr (.int .u64 (IntKind.u64.wrap a)) (.int q 63) = some (.int .u64 (IntKind.u64.wrap a / 9223372036854775808)) := shr_u64_63 (wrap_u64_pos _)
theorem asB_bool {b : Bool} : asB (.bool b) = some b := (Eq.refl _).trans (Eq.refl _)
theorem cv_int {k k' : IntKind} {n : Int} : cvInt k (.int k' n) = some (.int k (k.wrap n)) := (Eq.refl _).trans (Eq.refl _)
theorem ext_tuple {vs : List V} {i : Nat} : extA (.tuple vs) i = vs[i]? := (Eq.refl _).trans (Eq.refl _)
theorem lenSl_mk {a : Option (Nat × Nat)} {l z : Nat} {f : Bool} : lenSl (.slice ⟨a, l, z, f⟩) = some (.int .i64 (l : Int)) := (Eq.refl _).trans (Eq.refl _)
theorem faA_mk {b o off : Nat} : faA off (.ptr (some (b, o))) = some (.ptr (some (b, o + off))) := (Eq.refl _).trans (Eq.refl _)
attribute [simp] ar_add ar_sub ar_mul ar_quo ar_rem ar_lss ar_leq ar_gtr ar_geq ar_eql ar_neq shr_u64 shr_u64_63 shr_u64w shr_u64_63w asB_bool cv_int ext_tuple lenSl_mk faA_mk
theorem more_zero {H : Heap} : H.more 0 = H := (Eq.refl _).trans (Eq.refl _)
attribute [simp] more_zero mkSl_nums
attribute [simp high] mkSl_zero
attribute [simp] wrap_i64 wrap_u64 wrap_u32 wrap_u8 bndA_int bndA_none
theorem one_bool {b : Bool} : V.one (.bool b) = true := (Eq.refl _).trans (Eq.refl _)
theorem one_int {k : IntKind} {n : Int} : V.one (.int k n) = true := (Eq.refl _).trans (Eq.refl _)
theorem one_slice {s : Sl} : V.one (.slice s) = true := (Eq.refl _).trans (Eq.refl _)
theorem one_str {s : List UInt8} : V.one (.str s) = true := (Eq.refl _).trans (Eq.refl _)
theorem cells_bool {b : Bool} : V.cells (.bool b) = [.bool b] := (Eq.refl _).trans (Eq.refl _)
theorem cells_int {k : IntKind} {n : Int} : V.cells (.int k n) = [.int k n] := (Eq.refl _).trans (Eq.refl _)
theorem cells_slice {s : Sl} : V.cells (.slice s) = [.slice s] := (Eq.refl _).trans (Eq.refl _)
theorem cells_agg {l : List V} : V.cells (.agg l) = l := (Eq.refl _).trans (Eq.refl _)
theorem boxA_agg {e : Nat} {cs : List V} (h : cs.all V.one = true) : boxA e (.agg cs) = some (.cells cs e false) := by simp only [boxA, cells_agg, h, if_true]
theorem un_not {b : Bool} : unA .not (.bool b) = some (.bool !b) := (Eq.refl _).trans (Eq.refl _)
theorem un_neg {k : IntKind} {n : Int} : unA .neg (.int k n) = some (.int k (k.wrap (0 - n))) := (Eq.refl _).trans (Eq.refl _)
theorem chk_bool {b : Bool} : chk (some (.bool b)) (.bool b) = some () := by simp [chk, V.beq]
theorem chk_int {k : IntKind} {n : Int} : chk (some (.int k n)) (.int k n) = some () := by simp [chk, V.beq]
theorem chk_slice {s : Sl} : chk (some (.slice s)) (.slice s) = some () := by simp [chk, V.beq]
theorem beqs_self : ∀ (l : List V), (∀ v, v ∈ l → V.beq v v = true) → V.beqs l l = true
  | [], _ => by simp [V.beqs]
  | v :: l, h => by simp [V.beqs, h v (by simp), beqs_self l fun u hu => h u (by simp [hu])]
theorem ld1_push_ne {H : Heap} {i o : Nat} {ob : O} (h : i ≠ H.n) : ld1 (.ptr (some (i, o))) (H.push ob) = ld1 (.ptr (some (i, o))) H := by simp only [ld1, Heap.gqz h]
theorem ld1_push_eq {H : Heap} {i o e : Nat} {cs : List V} {r : Bool} (h : i = H.n) : ld1 (.ptr (some (i, o))) (H.push (.cells cs e r)) = cs[o]? := by simp only [ld1, Heap.gpz h]
theorem ldN_push_ne {H : Heap} {n i o : Nat} {ob : O} (h : i ≠ H.n) : ldN n (.ptr (some (i, o))) (H.push ob) = ldN n (.ptr (some (i, o))) H := by simp only [ldN, Heap.gqz h]
theorem ldN_push_eq {H : Heap} {n i o e : Nat} {cs : List V} {r : Bool} (h : i = H.n) (hn : o + n ≤ cs.length) : ldN n (.ptr (some (i, o))) (H.push (.cells cs e r)) = some (.agg ((cs.drop o).take n)) := by simp only [ldN, Heap.gpz h, if_pos hn]
theorem Ch.ld1 {X : Nat → Prop} {H H' : Heap} (c : Ch X H H') {i o : Nat} (h : i < H.n) (hx : ¬ X i) : ld1 (.ptr (some (i, o))) H' = ld1 (.ptr (some (i, o))) H := by simp only [AM.ld1, c.get i h hx]
theorem Ch.ldN {X : Nat → Prop} {H H' : Heap} (c : Ch X H H') {n i o : Nat} (h : i < H.n) (hx : ¬ X i) : ldN n (.ptr (some (i, o))) H' = ldN n (.ptr (some (i, o))) H := by simp only [AM.ldN, c.get i h hx]
theorem Ch.l1 {H H' : Heap} (c : Ext0 H H') {i o : Nat} (h : i < H.n) : AM.ld1 (.ptr (some (i, o))) H' = AM.ld1 (.ptr (some (i, o))) H := c.ld1 h fun f => f
theorem Ch.g {H H' : Heap} (c : Ext0 H H') {i : Nat} (h : i < H.n) : H'.get i = H.get i := c.get i h fun f => f
attribute [simp] one_bool one_int one_slice one_str cells_bool cells_int cells_slice cells_agg boxA_agg un_not un_neg chk_bool chk_int chk_slice ld1_push_ne ld1_push_eq ldN_push_ne ldN_push_eq flA flE fillA lset Heap.gqz Heap.gpz
end Go.AM
end
section
set_option linter.unusedVariables false
set_option linter.unusedSimpArgs false
set_option linter.unusedSimpArgs false
namespace Go.AM
structure Keep (lo : Nat) (H H' : Heap) : Prop where
  n : H.n ≤ H'.n
  get : ∀ i, lo ≤ i → i < H.n → H'.get i = H.get i
theorem Keep.refl {lo : Nat} {H : Heap} : Keep lo H H := ⟨Nat.le_refl _, fun _ _ _ => rfl⟩
theorem Keep.call {lo : Nat} {H H' H'' : Heap} (h : Keep lo H H') (c : Ext0 H' H'') : Keep lo H H'' :=
  ⟨Nat.le_trans h.n c.n, fun i h1 h2 => (c.get i (Nat.lt_of_lt_of_le h2 h.n) fun f => f).trans (h.get i h1 h2)⟩
theorem Keep.push {lo : Nat} {H H' : Heap} {o : O} (h : Keep lo H H') : Keep lo H (H'.push o) := h.call Ch.push
theorem Keep.more {lo m : Nat} {H H' : Heap} (h : Keep lo H H') : Keep lo H (H'.more m) := h.call Ch.more
theorem Keep.set {lo j : Nat} {H H' : Heap} {o : O} (h : Keep lo H H') (hj : j < lo ∨ H.n ≤ j) : Keep lo H (H'.set j o) :=
  ⟨by simpa using h.n, fun i h1 h2 => by rw [Heap.gtz (by omega)]; exact h.get i h1 h2⟩
theorem Keep.ext {H H' : Heap} (h : Keep 0 H H') : Ext0 H H' := ⟨h.n, fun i hi _ => h.get i (Nat.zero_le _) hi⟩
theorem Row.keep {lo : Nat} {H H' : Heap} {k : IntKind} {s : Sl} {l : List Nat} (h : Row H k s l) (f : Fr lo s) (c : Keep lo H H') : Row H' k s l := by
  refine ⟨h.len, fun b o hs => ⟨Nat.lt_of_lt_of_le (h.low b o hs).1 c.n, (h.low b o hs).2⟩, fun hl => ?_⟩
  obtain ⟨b, o, cs, e', ro, h1, h2, h3, h4⟩ := h.mem hl
  exact ⟨b, o, cs, e', ro, h1, by rw [c.get b (f b ⟨o, h1⟩) (h.low b o h1).1]; exact h2, h3, h4⟩
theorem Fr.zero {s : Sl} : Fr 0 s := fun _ _ => Nat.zero_le _
theorem Fr.mono {m n : Nat} {s : Sl} (h : Fr n s) (hm : m ≤ n) : Fr m s := fun i hi => Nat.le_trans hm (h i hi)
theorem gmz {H : Heap} {m j : Nat} : (H.more m).get j = H.get j := (Eq.refl _).trans (Eq.refl _)
theorem lhz {i o : Nat} {H : Heap} : ld1 (.ptr (some (i, o))) H = (match H.get i with | .cells cs _ _ => cs[o]? | _ => none) := (Eq.refl _).trans (Eq.refl _)
theorem lgz {n i o : Nat} {H : Heap} : ldN n (.ptr (some (i, o))) H = (match H.get i with | .cells cs _ _ => if o + n ≤ cs.length then some (.agg ((cs.drop o).take n)) else none | _ => none) := (Eq.refl _).trans (Eq.refl _)
theorem chk_agg {l : List V} (h : ∀ v, v ∈ l → V.beq v v = true) : chk (some (.agg l)) (.agg l) = some () := by simp [chk, V.beq, beqs_self l h]
theorem beq_bool {b : Bool} : V.beq (.bool b) (.bool b) = true := by simp [V.beq]
theorem beq_int {k : IntKind} {n : Int} : V.beq (.int k n) (.int k n) = true := by simp [V.beq]
theorem beq_slice {s : Sl} : V.beq (.slice s) (.slice s) = true := by simp [V.beq]
theorem gs {a : V} {l : List V} {i : Nat} : (a :: l)[i + 1]? = l[i]? := by simp
theorem chk_i {b : Bool} {s : Sl} : chk (some (.agg [.bool b, .slice s])) (.agg [.bool b, .slice s]) = some () := chk_agg (by simp [V.beq])
theorem chk_r {b : Bool} {s t : Sl} : chk (some (.agg [.bool b, .slice s, .slice t])) (.agg [.bool b, .slice s, .slice t]) = some () := chk_agg (by simp [V.beq])
theorem chk_i' {k : IntKind} {b : Int} {s : Sl} : chk (some (.agg [.int k b, .slice s])) (.agg [.int k b, .slice s]) = some () := chk_agg (by simp [V.beq])
theorem chk_r' {k l : IntKind} {b c : Int} {s t : Sl} : chk (some (.agg [.int k b, .slice s, .int l c, .slice t])) (.agg [.int k b, .slice s, .int l c, .slice t]) = some () := chk_agg (by simp [V.beq])
attribute [simp] chk_i chk_r chk_i' chk_r'
attribute [simp] beq_bool beq_int beq_slice
theorem Tot.pure {α : Type} {x : Option α} {a : α} {k : Nat → α → Option R} {Q : V → Heap → Prop} (h : x = some a) (hk : Tot (fun n => k n a) Q) : Tot (fun n => bnd x (k n)) Q := by
  subst h; exact hk
theorem Tot.chk {x : Option Unit} {k : Nat → Unit → Option R} {Q : V → Heap → Prop} (h : x = some ()) (hk : Tot (fun n => k n ()) Q) : Tot (fun n => bnd x (k n)) Q := by
  subst h; exact hk
theorem Keep.auto {lo : Nat} {H H' : Heap} (h : Keep lo H H' := by (repeat (first | exact Keep.refl | refine Keep.call ?_ (by assumption) | refine Keep.push ?_ | refine Keep.more ?_ | refine Keep.set ?_ (by first | omega | (simp only [npz, nsz, nmz] <;> omega) | fail)))) : Keep lo H H' := h
theorem Tot.autoP {α : Type} {x : Option α} {a : α} {k : Nat → α → Option R} {Q : V → Heap → Prop} (hk : Tot (fun n => k n a) Q) (h : x = some a := by simp (disch := first | omega | (simp only [npz, nsz, nmz] <;> omega) | fail) [lhz, lgz, sgz, boxA, gz, gs, Heap.gqz, Heap.gpz, Heap.gtz, Heap.gsz, gmz, npz, nsz, nmz]; try exact rfl) : Tot (fun n => bnd x (k n)) Q := Tot.pure h hk
theorem Tot.autoC {x : Option Unit} {k : Nat → Unit → Option R} {Q : V → Heap → Prop} (hk : Tot (fun n => k n ()) Q) (h : x = some () := by simp (disch := first | omega | (simp only [npz, nsz, nmz] <;> omega) | fail) [lhz, lgz, sgz, boxA, gz, gs, Heap.gqz, Heap.gpz, Heap.gtz, Heap.gsz, gmz, npz, nsz, nmz]; done) : Tot (fun n => bnd x (k n)) Q := Tot.chk h hk
end Go.AM
end
section
set_option linter.unusedVariables false
set_option linter.unusedSimpArgs false
set_option linter.unusedSimpArgs false
namespace Go.AM
open Go.RowKit (Below)
section
variable {P : Program} {B n0 N : Nat} {w0 w1 w w' w'' : World} {μ0 μ μ' μ'' ν : Mu} {H0 H H' H'' : Heap} {T : Type} {enc : TypeId × Value → T}
theorem got_one {k : Nat} {t : TypeId} {v : V} {x : Value} (hr : Rel B w0 μ H w) (ho : ∀ j M, μ j = some M → (H.get j).own = false) (h1 : VRel μ v x) (h2 : v.one = true) (h3 : P.cellsOf t = 1) (h4 : WT P k t [v] H) : Got P B w0 μ H w k t [x] :=
  ⟨μ, H, [v], Grows.refl, hr, ho, by simp only [VRels]; exact ⟨x, [], rfl, h1, rfl⟩, by simp [h2], by simp [h3], h4⟩
theorem cells_spec {base n : Nat} {a : Addr} {xs : List Value} (h : w.cells? base a n = some xs) : xs.length = n ∧ ∀ (i : Nat), i < n → w.cell? (a.add i) = xs[i]? := by
  unfold World.cells? at h
  split at h
  · obtain ⟨h1, h2⟩ := mapM_some h
    simp at h1
    refine ⟨h1.symm, fun i hi => ?_⟩
    obtain ⟨y, h3, h4⟩ := h2 i i (by simp [hi])
    rw [h3, h4]
  · simp at h
theorem cell_spot {a : Addr} {x : Value} (h : w.cell? a = some x) : ∃ c e fr, w.heap[a.block]? = some (.cells c e fr) ∧ a.spot = none ∧ c[a.off]? = some x := by
  unfold World.cell? at h
  split at h
  · rename_i c e fr hb
    split at h
    · simp at h
    · rename_i hs; exact ⟨c, e, fr, hb, by simpa using hs, h⟩
  · simp at h
theorem flatten_get {α : Type} {k : Nat} {xss : List (List α)} {i j : Nat} {xs : List α} (hl : ∀ (i : Nat) (u : List α), xss[i]? = some u → u.length = k) (hi : xss[i]? = some xs) (hj : j < k) : xss.flatten[i * k + j]? = xs[j]? := by
  have := flatten_chunk hl hi
  rw [← this, List.getElem?_take, if_pos hj, List.getElem?_drop]
theorem build_list {A : Type} : ∀ (n : Nat) {Q : Nat → A → Prop}, (∀ i, i < n → ∃ x, Q i x) → ∃ l : List A, l.length = n ∧ ∀ (i : Nat) (x : A), l[i]? = some x → Q i x
  | 0, Q, _ => ⟨[], rfl, by simp⟩
  | n + 1, Q, h => by
    obtain ⟨x, hx⟩ := h 0 (by omega)
    obtain ⟨l, hl, hq⟩ := build_list n (Q := fun i x => Q (i + 1) x) fun i hi => h (i + 1) (by omega)
    refine ⟨x :: l, by simp [hl], ?_⟩
    intro i y hy
    cases i with
    | zero => simp at hy; subst hy; exact hx
    | succ i => simp at hy; exact hq i y hy
theorem chunk_whole {α : Type} {k : Nat} {cs : List α} : ∀ {xss : List (List α)} {off : Nat}, off + xss.length * k = cs.length → (∀ (i : Nat) (u : List α), xss[i]? = some u → u = (cs.drop (off + i * k)).take k) → xss.flatten = cs.drop off
  | [], off, h, _ => by simp at h; simp [h]
  | u :: xss, off, h, hu => by
    have h0 := hu 0 u (by simp)
    simp only [Nat.zero_mul, Nat.add_zero] at h0
    have ih := chunk_whole (k := k) (cs := cs) (xss := xss) (off := off + k) (by simp [Nat.succ_mul] at h; omega) fun i v hv => by
      have := hu (i + 1) v (by simpa using hv)
      rw [this, Nat.succ_mul]
      congr 2
      omega
    simp only [List.flatten_cons, ih, h0]
    rw [← List.drop_drop]
    exact List.take_append_drop _ _
theorem add_off (a : Addr) (i : Nat) (hs : a.spot = none) : a.add i = ⟨a.block, a.off + i, none⟩ := by
  cases a with
  | mk b o s =>
    simp only at hs; subst hs
    unfold Addr.add
    split
    · rename_i h; subst h; rfl
    · rfl
theorem got_slice {k fuel len cap : Nat} {t e : TypeId} {a : Addr} (hr : Rel B w0 μ H w) (ho : ∀ j M, μ j = some M → (H.get j).own = false)
    (hu : P.underlying t = some (.slice e)) (hp1 : P.cellsOf t = 1) (hp2 : 0 < P.cellsOf e) (hlc : len ≤ cap) (hcm : cap ≤ maxLen)
    (hstep : ∀ (x : {xs : List Value // ∃ d ps, DataW.trod enc P w 0 (fun _ => true) true fuel e xs = some (d, ps)}) (μ : Mu) (H : Heap), Rel B w0 μ H w → (∀ j M, μ j = some M → (H.get j).own = false) → Got P B w0 μ H w k e x.1)
    (hE : ∀ i, i < cap → ∃ xs, w.cells? 0 (a.add (i * P.cellsOf e)) (P.cellsOf e) = some xs ∧ ∃ d ps, DataW.trod enc P w 0 (fun _ => true) true fuel e xs = some (d, ps)) :
    Got P B w0 μ H w (k + 1) t [.slice (some a) len cap] := by
  by_cases hc0 : cap = 0
  · subst hc0
    have hl0 : len = 0 := by omega
    subst hl0
    have hfr : μ H.n = none := hr.fresh (Nat.le_refl _)
    refine ⟨μ.put H.n ⟨0, 0, 0⟩, H.push .none, [.slice ⟨some (H.n, 0), 0, P.cellsOf e, false⟩], ⟨Mu.le_put hfr, by simp, fun i hi => by rw [Heap.get_push, if_neg (by omega)]⟩,
      hr.lay (by simp [O.live]) rfl ho trivial, ?_, ?_, rfl, by simp [hp1], ?_⟩
    · intro j M e1
      rw [Heap.get_push]
      simp only [Mu.put] at e1
      split at e1
      · rename_i hj; rw [if_pos hj]; rfl
      · rename_i hj; rw [if_neg hj]; exact ho j M e1
    · simp only [VRels, VRel]
      exact ⟨_, _, rfl, ⟨⟨0, 0, 0⟩, a, 0, by simp [Mu.put], rfl, Nat.le_refl _, by simp, .inl rfl⟩, rfl⟩
    · unfold WT
      simp only [hu]
      exact .inr ⟨H.n, 0, false, rfl, by simp, by omega, by simp⟩
  · obtain ⟨las, hl, hq⟩ := build_list (A := {xs : List Value // ∃ d ps, DataW.trod enc P w 0 (fun _ => true) true fuel e xs = some (d, ps)}) len
      (Q := fun i x => w.cells? 0 (a.add (i * P.cellsOf e)) (P.cellsOf e) = some x.1) fun i hi => by
        obtain ⟨xs, h1, h2⟩ := hE i (by omega)
        exact ⟨⟨xs, h2⟩, h1⟩
    obtain ⟨μ1, H1, vss, g1, r1, o1, l1, v1, n1, t1⟩ := got_list (P := P) (fuel := k) (w := w) (w0 := w0) (B := B) (fun _ => e) (fun x => x.1) hstep las μ H hr ho
    have hget : ∀ (i : Nat) (u : List V), vss[i]? = some u → u.length = P.cellsOf e ∧ WT P k e u H1 := by
      intro i u h2
      have hi : i < las.length := by rw [← l1]; exact (List.getElem?_eq_some_iff.mp h2).1
      exact t1 i _ u (List.getElem?_eq_getElem hi) h2
    have hfl := flatten_len fun i u hi => (hget i u hi).1
    rw [l1, hl] at hfl
    have hlast : ∃ c e' fr, w.heap[a.block]? = some (.cells c e' fr) ∧ a.spot = none ∧ a.off + cap * P.cellsOf e ≤ c.size := by
      obtain ⟨xs, h1, _⟩ := hE (cap - 1) (by omega)
      obtain ⟨hx1, hx2⟩ := cells_spec h1
      have h3 := hx2 (P.cellsOf e - 1) (by omega)
      have h4 : xs[P.cellsOf e - 1]? = some (xs[P.cellsOf e - 1]'(by omega)) := List.getElem?_eq_getElem _
      rw [h4] at h3
      obtain ⟨c, e', fr, k1, k2, k3⟩ := cell_spot h3
      have hs : a.spot = none := by
        obtain ⟨ys, j1, _⟩ := hE 0 (by omega)
        obtain ⟨jx1, jx2⟩ := cells_spec j1
        have j3 := jx2 0 hp2
        have j4 : ys[0]? = some (ys[0]'(by omega)) := List.getElem?_eq_getElem _
        rw [j4] at j3
        obtain ⟨_, _, _, _, m2, _⟩ := cell_spot j3
        simpa [Addr.add] using m2
      rw [add_off a _ hs, add_off _ _ rfl] at k1 k3
      simp only at k1 k3
      have k4 := (Array.getElem?_eq_some_iff.mp k3).1
      refine ⟨c, e', fr, k1, hs, ?_⟩
      have : cap * P.cellsOf e = (cap - 1) * P.cellsOf e + P.cellsOf e := by
        rw [← Nat.succ_mul]; congr 1; omega
      omega
    obtain ⟨c, e', fr, hb, hs, hsz⟩ := hlast
    have hfr : μ1 H1.n = none := r1.fresh (Nat.le_refl _)
    have hle := Mu.le_put (L := ⟨a.block, a.off, c.size⟩) hfr
    have hmul : len * P.cellsOf e ≤ cap * P.cellsOf e := Nat.mul_le_mul_right _ hlc
    refine ⟨μ1.put H1.n ⟨a.block, a.off, c.size⟩, H1.push (.cells vss.flatten e true), [.slice ⟨some (H1.n, 0), len, P.cellsOf e, false⟩],
      g1.trans ⟨hle, by simp, fun i hi => by rw [Heap.get_push, if_neg (by omega)]⟩,
      r1.lay (fun _ => (Array.getElem?_eq_some_iff.mp hb).1) rfl o1 ?_, ?_, ?_, rfl, by simp [hp1], ?_⟩
    · refine ⟨c, e', fr, hb, rfl, by simp only [hfl]; omega, ?_, by simp⟩
      intro j v hv
      have hj : j < len * P.cellsOf e := by rw [← hfl]; exact (List.getElem?_eq_some_iff.mp hv).1
      refine ⟨?_, ?_⟩
      · have := List.all_eq_true.mp n1 v (List.mem_of_getElem? hv)
        exact this
      · obtain ⟨x, hx, hv'⟩ := VRels.get v1 j v hv
        refine ⟨x, ?_, VRel.mono hle _ _ hv'⟩
        have hdm : j / P.cellsOf e < len := (Nat.div_lt_iff_lt_mul hp2).mpr hj
        have hja : las[j / P.cellsOf e]? = some (las[j / P.cellsOf e]'(by omega)) := List.getElem?_eq_getElem _
        have hq1 := hq _ _ hja
        obtain ⟨hx1, hx2⟩ := cells_spec hq1
        have hmod : j % P.cellsOf e < P.cellsOf e := Nat.mod_lt _ hp2
        have h3 := hx2 _ hmod
        have hlens : ∀ (i : Nat) (u : List Value), (las.map fun x => x.1)[i]? = some u → u.length = P.cellsOf e := by
          intro i u hi
          rw [List.getElem?_map] at hi
          cases ha : las[i]? with
          | none => rw [ha] at hi; simp at hi
          | some y => rw [ha] at hi; simp at hi; rw [← hi]; exact (cells_spec (hq i y ha)).1
        have h4 := flatten_get (xss := las.map fun x => x.1) (i := j / P.cellsOf e) (j := j % P.cellsOf e) (k := P.cellsOf e) hlens (by rw [List.getElem?_map, hja]; rfl) hmod
        have hjj : j / P.cellsOf e * P.cellsOf e + j % P.cellsOf e = j := by rw [Nat.mul_comm]; exact Nat.div_add_mod _ _
        rw [hjj, hx] at h4
        rw [← h4, add_off a _ hs, add_off _ _ rfl] at h3
        obtain ⟨c', e'', fr', k1, k2, k3⟩ := cell_spot h3
        simp only at k1 k3
        rw [hb] at k1
        cases k1
        rw [show a.off + j / P.cellsOf e * P.cellsOf e + j % P.cellsOf e = a.off + j by omega] at k3
        exact k3
    · intro j M e1
      rw [Heap.get_push]
      simp only [Mu.put] at e1
      split at e1
      · rename_i hj; rw [if_pos hj]; rfl
      · rename_i hj; rw [if_neg hj]; exact o1 j M e1
    · simp only [VRels, VRel]
      refine ⟨_, _, rfl, ⟨⟨a.block, a.off, c.size⟩, a, cap, by simp [Mu.put], rfl, hlc, by simp, .inr ⟨?_, by simpa using hsz⟩⟩, rfl⟩
      cases a with
      | mk b o s => simp at hs; subst hs; simp
    · unfold WT
      simp only [hu]
      refine .inr ⟨H1.n, len, false, rfl, by simp, by omega, fun _ => ⟨e, vss.flatten, by rw [Heap.get_push, if_pos rfl], hfl, fun j hj => ?_⟩⟩
      have h2 : vss[j]? = some vss[j] := List.getElem?_eq_getElem (by omega)
      rw [flatten_chunk (fun i u hi => (hget i u hi).1) h2]
      exact (hget j _ h2).2.mono (by simp) fun i hi => by rw [Heap.get_push, if_neg (by omega)]
theorem got : ∀ (k : Nat) (t : TypeId), plainT P k t = true → ∀ (fuel : Nat) (cs : List Value) (d : DataW T) (ps : List MemPlace),
    DataW.trod enc P w 0 (fun _ => true) true fuel t cs = some (d, ps) → ∀ (μ : Mu) (H : Heap), Rel B w0 μ H w → (∀ j M, μ j = some M → (H.get j).own = false) → Got P B w0 μ H w k t cs
  | 0, t, hp, _, _, _, _, _, _, _, _, _ => by simp [plainT] at hp
  | k + 1, t, hp, 0, cs, d, ps, h, μ, H, hr, ho => by simp [DataW.trod] at h
  | k + 1, t, hp, fuel + 1, cs, d, ps, h, μ, H, hr, ho => by
    unfold plainT at hp
    unfold DataW.trod at h
    split at hp
    · rename_i hu
      simp only [hu] at h
      split at h
      all_goals first
        | (rename_i heq; cases heq; done)
        | (simp at h; done)
        | skip
      rename_i b _
      exact got_one hr ho (v := .bool b) (by simp only [VRel]) rfl (by simpa using hp) (by unfold WT; simp [hu])
    · rename_i q hu
      simp only [hu] at h
      split at h
      all_goals first
        | (rename_i heq; cases heq; done)
        | (simp at h; done)
        | skip
      rename_i q' k' n heq
      cases heq
      split at h
      · rename_i hc
        obtain ⟨rfl, hw⟩ := hc
        exact got_one hr ho (v := .int k' n) (by simp only [VRel]) rfl (by simpa using hp) (by unfold WT; simp [hu]; exact hw)
      · simp at h
    · rename_i hu
      simp only [hu] at h
      split at h
      all_goals first
        | (rename_i heq; cases heq; done)
        | (simp at h; done)
        | skip
      rename_i s _
      split at h
      · rename_i hc
        exact got_one hr ho (v := .str s.data.toList) (by simp only [VRel]) rfl (by simpa using hp) (by unfold WT; simp only [hu]; exact ⟨_, rfl, by simpa using hc⟩)
      · simp at h
    · rename_i e hu
      simp only [Bool.and_eq_true, decide_eq_true_eq] at hp
      obtain ⟨⟨hp1, hp2⟩, hp3⟩ := hp
      simp only [hu] at h
      split at h
      all_goals first
        | (rename_i heq; cases heq; done)
        | (simp at h; done)
        | skip
      · exact got_one hr ho (v := .slice ⟨none, 0, 0, false⟩) (by simp only [VRel]; exact ⟨trivial, trivial⟩) rfl hp1 (by unfold WT; simp [hu])
      · rename_i e' a len cap heq
        cases heq
        split at h
        · rename_i hc
          obtain ⟨_, hlc, hcm⟩ := hc
          cases hes : (List.range len).mapM fun i => (w.cells? 0 (a.add (i * P.cellsOf e)) (P.cellsOf e)).bind (DataW.trod enc P w 0 (fun _ => true) true fuel e) with
          | none => rw [hes] at h; simp at h
          | some elems =>
            rw [hes] at h
            simp only [Option.bind_some, if_true] at h
            cases hrs : (List.range (cap - len)).mapM fun j => (w.cells? 0 (a.add ((len + j) * P.cellsOf e)) (P.cellsOf e)).bind (DataW.trod enc P w 0 (fun _ => true) true fuel e) with
            | none => rw [hrs] at h; simp at h
            | some rest =>
              clear h
              have hE : ∀ i, i < cap → ∃ xs, w.cells? 0 (a.add (i * P.cellsOf e)) (P.cellsOf e) = some xs ∧ ∃ d ps, DataW.trod enc P w 0 (fun _ => true) true fuel e xs = some (d, ps) := by
                intro i hi
                by_cases hil : i < len
                · obtain ⟨y, h1, _⟩ := (mapM_some hes).2 i i (by simp [hil])
                  cases hx : w.cells? 0 (a.add (i * P.cellsOf e)) (P.cellsOf e) with
                  | none => rw [hx] at h1; simp at h1
                  | some xs => rw [hx] at h1; exact ⟨xs, rfl, y.1, y.2, h1⟩
                · obtain ⟨y, h1, _⟩ := (mapM_some hrs).2 (i - len) (i - len) (by rw [List.getElem?_range (by omega)])
                  rw [show len + (i - len) = i by omega] at h1
                  cases hx : w.cells? 0 (a.add (i * P.cellsOf e)) (P.cellsOf e) with
                  | none => rw [hx] at h1; simp at h1
                  | some xs => rw [hx] at h1; exact ⟨xs, rfl, y.1, y.2, h1⟩
              exact got_slice hr ho hu hp1 hp2 hlc hcm (fun x μ H r o => got k e hp3 fuel x.1 _ _ x.2.choose_spec.choose_spec μ H r o) hE
        · simp at h
    · rename_i fs hu
      simp only [Bool.and_eq_true, List.all_eq_true] at hp
      obtain ⟨hp1, hp2⟩ := hp
      simp only [hu] at h
      split at h
      · rename_i hlen
        cases hm : fs.toList.mapM fun f => DataW.trod enc P w 0 (fun _ => true) true fuel f.type ((cs.drop f.offset).take (P.cellsOf f.type)) with
        | none => rw [hm] at h; simp at h
        | some xs =>
          clear h
          obtain ⟨_, hm2⟩ := mapM_some hm
          obtain ⟨las, hl, hq⟩ := build_list (A := {p : Field × List Value // plainT P k p.1.type = true ∧ ∃ d ps, DataW.trod enc P w 0 (fun _ => true) true fuel p.1.type p.2 = some (d, ps)}) fs.toList.length
            (Q := fun i x => fs.toList[i]? = some x.1.1 ∧ x.1.2 = (cs.drop x.1.1.offset).take (P.cellsOf x.1.1.type)) fun i hi => by
              have hf : fs.toList[i]? = some fs.toList[i] := List.getElem?_eq_getElem hi
              obtain ⟨y, h1, _⟩ := hm2 i _ hf
              exact ⟨⟨(fs.toList[i], (cs.drop fs.toList[i].offset).take (P.cellsOf fs.toList[i].type)), hp2 _ (List.getElem_mem hi), y.1, y.2, h1⟩, hf, rfl⟩
          obtain ⟨μ1, H1, vss, g1, r1, o1, l1, v1, n1, t1⟩ := got_list (P := P) (fuel := k) (w := w) (w0 := w0) (B := B) (fun x => x.1.1.type) (fun x => x.1.2) (fun x μ H r o => got k x.1.1.type x.2.1 fuel x.1.2 _ _ x.2.2.choose_spec.choose_spec μ H r o) las μ H hr ho
          have hlen' : vss.length = fs.toList.length := by rw [l1, hl]
          have hget : ∀ (i : Nat) (f : Field) (u : List V), fs.toList[i]? = some f → vss[i]? = some u → u.length = P.cellsOf f.type ∧ WT P k f.type u H1 := by
            intro i f u h1 h2
            have hi : i < las.length := by rw [hl]; exact (List.getElem?_eq_some_iff.mp h1).1
            have ha := List.getElem?_eq_getElem hi
            have hq1 := hq i _ ha
            have := t1 i _ u ha h2
            rw [h1] at hq1
            have hff : f = las[i].1.1 := by simpa using hq1.1
            rw [hff]; exact this
          obtain ⟨q1, q2, q3⟩ := tiles_chunk hp1 hlen' fun i f u h1 h2 => (hget i f u h1 h2).1
          have hcs : (las.map fun x => x.1.2).flatten = cs := by
            have he : (las.map fun x => x.1.2) = fs.toList.map fun f => (cs.drop f.offset).take (P.cellsOf f.type) := by
              apply List.ext_getElem?
              intro i
              simp only [List.getElem?_map]
              cases ha : las[i]? with
              | none =>
                have : fs.toList[i]? = none := by rw [List.getElem?_eq_none_iff] at ha ⊢; omega
                rw [this]; rfl
              | some x =>
                obtain ⟨h1, h2⟩ := hq i x ha
                rw [h1]; simp [h2]
            rw [he, (tiles_whole hlen hp1).2]; rfl
          rw [hcs] at v1
          refine ⟨μ1, H1, vss.flatten, g1, r1, o1, v1, n1, by simpa using q2, ?_⟩
          unfold WT
          simp only [hu]
          refine ⟨by simpa using q2, fun f hf => ?_⟩
          obtain ⟨i, hi, rfl⟩ := List.getElem_of_mem hf
          have h1 : fs.toList[i]? = some fs.toList[i] := List.getElem?_eq_getElem hi
          have h2 : vss[i]? = some vss[i] := List.getElem?_eq_getElem (by omega)
          have := (q3 i _ _ h1 h2).2
          simp only [Nat.sub_zero] at this
          rw [this]
          exact (hget i _ _ h1 h2).2
      · simp at h
    · rename_i n e hu
      simp only [Bool.and_eq_true, decide_eq_true_eq] at hp
      obtain ⟨hp1, hp2⟩ := hp
      simp only [hu] at h
      split at h
      · rename_i hlen
        cases hm : (List.range n).mapM fun i => DataW.trod enc P w 0 (fun _ => true) true fuel e ((cs.drop (i * P.cellsOf e)).take (P.cellsOf e)) with
        | none => rw [hm] at h; simp at h
        | some xs =>
          clear h
          obtain ⟨_, hm2⟩ := mapM_some hm
          obtain ⟨las, hl, hq⟩ := build_list (A := {p : List Value // ∃ d ps, DataW.trod enc P w 0 (fun _ => true) true fuel e p = some (d, ps)}) n
            (Q := fun i x => x.1 = (cs.drop (i * P.cellsOf e)).take (P.cellsOf e)) fun i hi => by
              obtain ⟨y, h1, _⟩ := hm2 i i (by simp [hi])
              exact ⟨⟨_, y.1, y.2, h1⟩, rfl⟩
          obtain ⟨μ1, H1, vss, g1, r1, o1, l1, v1, n1, t1⟩ := got_list (P := P) (fuel := k) (w := w) (w0 := w0) (B := B) (fun _ => e) (fun x => x.1) (fun x μ H r o => got k e hp2 fuel x.1 _ _ x.2.choose_spec.choose_spec μ H r o) las μ H hr ho
          have hget : ∀ (i : Nat) (u : List V), vss[i]? = some u → u.length = P.cellsOf e ∧ WT P k e u H1 := by
            intro i u h2
            have hi : i < las.length := by rw [← l1]; exact (List.getElem?_eq_some_iff.mp h2).1
            exact t1 i _ u (List.getElem?_eq_getElem hi) h2
          have hcs : (las.map fun x => x.1).flatten = cs := by
            have := chunk_whole (cs := cs) (k := P.cellsOf e) (xss := las.map fun x => x.1) (off := 0) (by simp [hl, hp1, hlen]) fun i u hi => by
              rw [List.getElem?_map] at hi
              cases ha : las[i]? with
              | none => rw [ha] at hi; simp at hi
              | some x => rw [ha] at hi; simp at hi; rw [← hi, hq i x ha]; simp
            simpa using this
          rw [hcs] at v1
          have hfl := flatten_len fun i u hi => (hget i u hi).1
          rw [l1, hl, hp1] at hfl
          refine ⟨μ1, H1, vss.flatten, g1, r1, o1, v1, n1, hfl, ?_⟩
          unfold WT
          simp only [hu]
          refine ⟨hfl, fun i hi => ?_⟩
          have h2 : vss[i]? = some vss[i] := List.getElem?_eq_getElem (by omega)
          rw [flatten_chunk (fun i u hi => (hget i u hi).1) h2]
          exact (hget i _ h2).2
      · simp at h
    · simp at hp
end
end Go.AM
end
section
set_option linter.unusedVariables false
set_option linter.unusedSimpArgs false
set_option linter.unusedSimpArgs false
namespace Go.AM
open Go.RowKit (Below)
def argV (P : Program) (t : TypeId) (vs : List V) : V := match P.underlying t with
  | some (.struct _) | some (.array _ _) => .agg vs
  | _ => vs.headD .dead
def WTs (P : Program) (k : Nat) (H : Heap) : List TypeId → List V → Prop
  | [], vs => vs = []
  | t :: ts, vs => ∃ cs us, vs = argV P t cs :: us ∧ WT P k t cs H ∧ WTs P k H ts us
theorem WTs.mono {P : Program} {k : Nat} {H H' : Heap} (hn : H.n ≤ H'.n) (hg : ∀ i, i < H.n → H'.get i = H.get i) : ∀ (ts : List TypeId) (vs : List V), WTs P k H ts vs → WTs P k H' ts vs
  | [], _, h => h
  | t :: ts, vs, ⟨cs, us, e, h, r⟩ => ⟨cs, us, e, WT.mono hn hg k t cs h, WTs.mono hn hg ts us r⟩
section
variable {P : Program} {B : Nat} {w0 w : World} {μ : Mu} {H : Heap} {T : Type} {enc : TypeId × Value → T}
theorem argV_rel {k b : Nat} {t : TypeId} {v : Value} {vs : List V} (h : VRels μ vs v.cells.toList) (hv : Value.okWide P w .any b t v) (hp : plainT P k t = true) : VRel μ (argV P t vs) v := by
  unfold argV
  cases k with
  | zero => simp [plainT] at hp
  | succ k =>
    unfold plainT at hp
    have key : ∀ x, v = x → x.cells = #[x] → VRel μ (vs.headD .dead) v := by
      intro x e1 e2
      subst e1
      rw [e2] at h
      cases vs with
      | nil => simp [VRel]
      | cons u us =>
        simp only [VRels] at h
        obtain ⟨y, ys, e, a, _⟩ := h
        simp at e
        rw [e.1]; exact a
    split at hp
    · rename_i hu; simp only [hu]
      obtain ⟨x, rfl⟩ := WideShapes.okWide_bool hu hv
      exact key _ rfl rfl
    · rename_i q hu; simp only [hu]
      obtain ⟨x, rfl⟩ := WideShapes.okWide_int hu hv
      exact key _ rfl rfl
    · rename_i hu; simp only [hu]
      obtain ⟨x, rfl⟩ := WideShapes.okWide_string hu hv
      exact key _ rfl rfl
    · rename_i e hu; simp only [hu]
      obtain ⟨a, l, c, rfl⟩ := WideShapes.okWide_slice hu hv
      exact key _ rfl rfl
    · rename_i fs hu
      simp only [hu]
      unfold Value.okWide at hv
      simp only [hu] at hv
      obtain ⟨cs, rfl, _⟩ := hv
      simp only [VRel]
      exact ⟨cs, rfl, by simpa [Value.cells] using h⟩
    · rename_i n e hu
      simp only [hu]
      unfold Value.okWide at hv
      simp only [hu] at hv
      obtain ⟨cs, rfl, _⟩ := hv
      simp only [VRel]
      exact ⟨cs, rfl, by simpa [Value.cells] using h⟩
    · cases hp
theorem got_all {k : Nat} : ∀ (ts : List TypeId) (vs : List Value) (ds : List (DataW T)) (ps : List MemPlace) (μ : Mu) (H : Heap),
    ts.all (fun t => plainT P k t) = true → DataW.TrodAll enc P w 0 (fun _ => true) true ts vs ds ps → (∀ (j : Nat) t v, ts[j]? = some t → vs[j]? = some v → ∃ b, Value.okWide P w .any b t v) →
    Rel B w0 μ H w → (∀ j M, μ j = some M → (H.get j).own = false) →
    ∃ μ' H' us, Grows μ H μ' H' ∧ Rel B w0 μ' H' w ∧ (∀ j M, μ' j = some M → (H'.get j).own = false) ∧ VRels μ' us vs ∧ WTs P k H' ts us
  | [], vs, ds, ps, μ, H, _, h, _, hr, ho => by
    cases vs with
    | nil => exact ⟨μ, H, [], Grows.refl, hr, ho, rfl, rfl⟩
    | cons v vs => simp [DataW.TrodAll] at h
  | t :: ts, vs, ds, ps, μ, H, hp, h, hv, hr, ho => by
    cases vs with
    | nil => simp [DataW.TrodAll] at h
    | cons v vs =>
      cases ds with
      | nil => simp [DataW.TrodAll] at h
      | cons d ds =>
        obtain ⟨p, q, ⟨fuel, h1⟩, h2, _⟩ := h
        simp only [List.all_cons, Bool.and_eq_true] at hp
        obtain ⟨μ1, H1, us, g1, r1, o1, v1, n1, l1, t1⟩ := got k t hp.1 fuel _ _ _ h1 μ H hr ho
        obtain ⟨μ2, H2, us2, g2, r2, o2, v2, t2⟩ := got_all ts vs ds q μ1 H1 hp.2 h2 (fun j t v a b => hv (j + 1) t v (by simpa using a) (by simpa using b)) r1 o1
        obtain ⟨b, hw⟩ := hv 0 t v (by simp) (by simp)
        refine ⟨μ2, H2, argV P t us :: us2, g1.trans g2, r2, o2, ?_, us, us2, rfl, WT.mono g2.n g2.get _ _ _ t1, t2⟩
        simp only [VRels]
        exact ⟨v, vs, rfl, VRel.mono g2.le _ _ (argV_rel v1 hw hp.1), v2⟩
theorem Rel.start (w : World) : Rel w.heap.size w ⟨fun _ => none, fun _ => none⟩ ⟨0, .nil⟩ w :=
  ⟨Below.refl _ _, Nat.le_refl _, fun i L h => (by cases h), fun i L h => (by cases h), fun i j L M h => (by cases h), fun i _ => by simp [Heap.get, T.get], fun b vs h => (by cases h), fun b vs h => (by cases h), fun i L h => (by cases h)⟩
theorem law_calls {C : Cfg} (ok : C.Ok) {f : FuncId} {k : Nat} {ts : List TypeId} {args : Array Value} {ds : List (DataW T)} {ps : List MemPlace} {W : World}
    (hp : ts.all (fun t => plainT C.P k t) = true) (hA : DataW.TrodAll enc C.P W 0 (fun _ => true) true ts args.toList ds ps)
    (hv : ∀ (j : Nat) t v, ts[j]? = some t → args.toList[j]? = some v → ∃ b, Value.okWide C.P W .any b t v)
    (hent : (callFunc f args).run C.P W = .ok (.enter f args) W)
    (hlaw : ∀ (H : Heap) (us : List V), WTs C.P k H ts us → ∃ n H', callA C n f us H = some (.bool true, H')) (hy : f < yB := by decide) :
    Calls C.P f args W (fun e W' => e = .returned (.bool true) ∧ Below W.heap.size W W') := by
  obtain ⟨μ, H, us, _, hr, _, hvs, hwt⟩ := got_all (P := C.P) (B := W.heap.size) (w0 := W) (w := W) ts args.toList ds ps _ _ hp hA hv (Rel.start W) (by intro j M h; cases h)
  obtain ⟨n, H', hc⟩ := hlaw H us hwt
  have := (callA_sound ok n f us H _ H' hc W.heap.size 0 W W μ args hr (Nat.zero_le _) hvs).1 hy
  rw [hent] at this
  simp only [Gives] at this
  refine this.mono fun e w' ⟨x, he, μ', s, hx⟩ => ?_
  simp only [VRel] at hx
  subst hx
  exact ⟨he, s.rel.below⟩
end
end Go.AM
end
section
set_option linter.unusedVariables false
set_option linter.unusedSimpArgs false
set_option linter.unusedSimpArgs false
set_option linter.unusedVariables false
namespace Go.AM
open Go.RowKit (Below)
def FT (P : Program) : Nat → TypeId → List V → Prop
  | 0, _, _ => False
  | fuel + 1, t, cs => match P.underlying t with
    | some .bool => ∃ b, cs = [.bool b]
    | some (.int k) => ∃ n, cs = [.int k n] ∧ (Lit.int k n).wf = true
    | some .string => ∃ s : List UInt8, cs = [.str s] ∧ s.length ≤ maxLen
    | some (.slice e) => ∃ len z xs, cs = [.list len z xs] ∧ len ≤ maxLen ∧ (len = 0 → z = 0 ∧ xs = []) ∧ (len ≠ 0 → z = P.cellsOf e) ∧ xs.length = len * P.cellsOf e ∧ ∀ j, j < len → FT P fuel e ((xs.drop (j * P.cellsOf e)).take (P.cellsOf e))
    | some (.struct fs) => cs.length = P.cellsOf t ∧ ∀ f ∈ fs.toList, FT P fuel f.type ((cs.drop f.offset).take (P.cellsOf f.type))
    | some (.array n e) => cs.length = P.cellsOf t ∧ ∀ i, i < n → FT P fuel e ((cs.drop (i * P.cellsOf e)).take (P.cellsOf e))
    | _ => False
def sdep (P : Program) : Nat → TypeId → Nat
  | 0, _ => 0
  | fuel + 1, t => match P.underlying t with
    | some (.slice e) => sdep P fuel e + 1
    | some (.struct fs) => (fs.toList.map fun f => sdep P fuel f.type).foldr max 1
    | some (.array _ e) => max 1 (sdep P fuel e)
    | _ => 1
theorem frzL_app {f : V → Option (V × List Nat)} : ∀ {a b a' b' : List V} {i j : List Nat}, frzL f a = some (a', i) → frzL f b = some (b', j) → frzL f (a ++ b) = some (a' ++ b', i ++ j)
  | [], b, a', b', i, j, h1, h2 => by simp only [frzL, Option.some.injEq, Prod.mk.injEq] at h1; obtain ⟨rfl, rfl⟩ := h1; exact h2
  | v :: a, b, a', b', i, j, h1, h2 => by
    simp only [frzL] at h1
    cases hv : f v with
    | none => rw [hv] at h1; cases h1
    | some p =>
      rw [hv] at h1
      cases ha : frzL f a with
      | none => rw [ha] at h1; cases h1
      | some q =>
        rw [ha] at h1
        simp only [Option.some.injEq, Prod.mk.injEq] at h1
        obtain ⟨rfl, rfl⟩ := h1
        have := frzL_app (a := a) (b := b) ha h2
        simp only [List.cons_append, frzL, hv, this, List.append_assoc]
theorem frzL_flat {f : V → Option (V × List Nat)} {A : Type} (part : A → List V) (R : A → List V → Prop) : ∀ (l : List A), (∀ a ∈ l, ∃ u i, frzL f (part a) = some (u, i) ∧ R a u) →
    ∃ (us : List (List V)) (ids : List Nat), frzL f (l.map part).flatten = some (us.flatten, ids) ∧ us.length = l.length ∧ ∀ (i : Nat) (a : A) (u : List V), l[i]? = some a → us[i]? = some u → R a u
  | [], _ => ⟨[], [], rfl, rfl, fun i a u h => by simp at h⟩
  | a :: l, h => by
    obtain ⟨u, i, h1, h2⟩ := h a (by simp)
    obtain ⟨us, ids, k1, k2, k3⟩ := frzL_flat part R l fun b hb => h b (by simp [hb])
    refine ⟨u :: us, i ++ ids, ?_, by simp [k2], ?_⟩
    · simp only [List.map_cons, List.flatten_cons]; exact frzL_app h1 k1
    · intro j b w hb hw
      cases j with
      | zero => simp at hb hw; subst hb hw; exact h2
      | succ j => simp at hb hw; exact k3 j b w hb hw
theorem foldr_le {l : List Nat} {d : Nat} (h : l.foldr max 1 ≤ d) : 1 ≤ d ∧ ∀ x ∈ l, x ≤ d := by
  induction l with
  | nil => exact ⟨by simpa using h, fun x hx => by simp at hx⟩
  | cons y l ih =>
    simp only [List.foldr_cons] at h
    obtain ⟨a, b⟩ := ih (by omega)
    refine ⟨a, fun x hx => ?_⟩
    rcases List.mem_cons.1 hx with rfl | hx
    · omega
    · exact b x hx
section
variable {P : Program}
theorem FT.len : ∀ {k : Nat} {t : TypeId} {cs : List V}, plainT P k t = true → FT P k t cs → cs.length = P.cellsOf t
  | 0, t, cs, hp, h => by simp [plainT] at hp
  | k + 1, t, cs, hp, h => by
    unfold plainT at hp
    unfold FT at h
    split at h
    · rename_i hu; simp only [hu, decide_eq_true_eq] at hp; obtain ⟨b, rfl⟩ := h; simp [hp]
    · rename_i hu; simp only [hu, decide_eq_true_eq] at hp; obtain ⟨b, rfl, -⟩ := h; simp [hp]
    · rename_i hu; simp only [hu, decide_eq_true_eq] at hp; obtain ⟨b, rfl, -⟩ := h; simp [hp]
    · rename_i hu; simp only [hu, Bool.and_eq_true, decide_eq_true_eq] at hp; obtain ⟨a, b, c, rfl, -⟩ := h; simp [hp.1.1]
    · exact h.1
    · exact h.1
    · exact h.elim
theorem chunks_len {α : Type} {m n : Nat} {cs : List α} (h : cs.length = n * m) : ((List.range n).map fun i => (cs.drop (i * m)).take m).flatten = cs := by
  induction n generalizing cs with
  | zero => simp at h; simp [h]
  | succ n ih =>
    rw [List.range_succ_eq_map, List.map_cons, List.flatten_cons, List.map_map]
    have e : ((fun i => (cs.drop (i * m)).take m) ∘ Nat.succ) = fun i => ((cs.drop m).drop (i * m)).take m := by
      funext i
      simp only [Function.comp, List.drop_drop]
      rw [show m + i * m = i.succ * m by rw [Nat.succ_mul]; omega]
    rw [e, ih (by rw [List.length_drop, h, Nat.succ_mul]; omega)]
    simp
theorem WT.frz {H : Heap} : ∀ {k : Nat} {t : TypeId} {cs : List V} {d : Nat}, plainT P k t = true → WT P k t cs H → sdep P k t ≤ d → ∃ us ids, frzL (frzV H d) cs = some (us, ids) ∧ FT P k t us
  | 0, t, cs, d, hp, h, hd => by simp [plainT] at hp
  | k + 1, t, cs, d, hp, h, hd => by
    unfold plainT at hp
    unfold WT at h
    unfold sdep at hd
    split at h
    · rename_i hu
      simp only [hu] at hd
      obtain ⟨b, rfl⟩ := h
      obtain ⟨d', rfl⟩ : ∃ d', d = d' + 1 := ⟨d - 1, by omega⟩
      exact ⟨_, [], frzL_fro1 rfl, by unfold FT; simp only [hu]; exact ⟨b, rfl⟩⟩
    · rename_i q hu
      simp only [hu] at hd
      obtain ⟨b, rfl, w⟩ := h
      obtain ⟨d', rfl⟩ : ∃ d', d = d' + 1 := ⟨d - 1, by omega⟩
      exact ⟨_, [], frzL_fro1 rfl, by unfold FT; simp only [hu]; exact ⟨b, rfl, w⟩⟩
    · rename_i hu
      simp only [hu] at hd
      obtain ⟨b, rfl, w⟩ := h
      obtain ⟨d', rfl⟩ : ∃ d', d = d' + 1 := ⟨d - 1, by omega⟩
      exact ⟨_, [], frzL_fro1 rfl, by unfold FT; simp only [hu]; exact ⟨b, rfl, w⟩⟩
    · rename_i e hu
      simp only [hu] at hd hp
      simp only [Bool.and_eq_true, decide_eq_true_eq] at hp
      obtain ⟨d', rfl⟩ : ∃ d', d = d' + 1 := ⟨d - 1, by omega⟩
      have hnil : ∀ (s : Sl), s.len = 0 → frzL (frzV H (d' + 1)) [.slice s] = some ([.list 0 0 []], []) := by
        intro s hs
        simp only [frzL, frzV, hs, if_true, List.append_nil]
      have hft : FT P (k + 1) t [.list 0 0 []] := by
        unfold FT; simp only [hu]
        exact ⟨0, 0, [], rfl, Nat.zero_le _, fun _ => ⟨rfl, rfl⟩, fun h => (h rfl).elim, by simp, fun j hj => by omega⟩
      rcases h with rfl | ⟨i, len, full, rfl, h1, h2, h3⟩
      · exact ⟨_, _, hnil _ rfl, hft⟩
      · by_cases h0 : len = 0
        · subst h0; exact ⟨_, _, hnil _ rfl, hft⟩
        · obtain ⟨el, xs, g, hl, hx⟩ := h3 h0
          have := frzL_flat (f := frzV H d') (fun i => (xs.drop (i * P.cellsOf e)).take (P.cellsOf e)) (fun _ u => FT P k e u) (List.range len) fun j hj => by
            obtain ⟨us, ids, a, b⟩ := WT.frz (d := d') hp.2 (hx j (List.mem_range.1 hj)) (by omega)
            exact ⟨us, ids, a, b⟩
          obtain ⟨us, ids, a1, a2, a3⟩ := this
          rw [chunks_len hl] at a1
          rw [List.length_range] at a2
          have hul : ∀ (i : Nat) (u : List V), us[i]? = some u → u.length = P.cellsOf e := by
            intro i u hi
            have hi2 : i < us.length := by
              rcases Nat.lt_or_ge i us.length with h | h
              · exact h
              · rw [List.getElem?_eq_none h] at hi; cases hi
            exact FT.len hp.2 (a3 i i u (by simp [List.getElem?_range (show i < len by omega)]) hi)
          refine ⟨[.list len (P.cellsOf e) us.flatten], i :: ids, ?_, ?_⟩
          · have ht : (xs.drop 0).take (len * P.cellsOf e) = xs := by rw [List.drop_zero, ← hl, List.take_length]
            have hf : frzV H (d' + 1) (.slice ⟨some (i, 0), len, P.cellsOf e, full⟩) = some (.list len (P.cellsOf e) us.flatten, i :: ids) := by
              unfold frzV
              simp only [if_neg h0, g, ht, a1, Nat.zero_add]
              rw [if_pos (by omega)]
            simp only [frzL, hf, List.append_nil]
          · unfold FT; simp only [hu]
            refine ⟨len, _, _, rfl, h2, fun h => (h0 h).elim, fun _ => rfl, by rw [flatten_len hul, a2], fun j hj => ?_⟩
            have hj2 : j < us.length := by omega
            have hg : us[j]? = some us[j] := by simp [hj2]
            rw [flatten_chunk hul hg]
            exact a3 j j us[j] (by simp [List.getElem?_range (show j < len by omega)]) hg
    · rename_i fs hu
      simp only [hu] at hd hp
      simp only [Bool.and_eq_true, List.all_eq_true] at hp
      obtain ⟨hd1, hd2⟩ := foldr_le hd
      obtain ⟨h1, h2⟩ := h
      have hw := (tiles_whole h1 hp.1).2
      rw [List.drop_zero] at hw
      have := frzL_flat (f := frzV H d) (fun f : Field => (cs.drop f.offset).take (P.cellsOf f.type)) (fun f u => FT P k f.type u) fs.toList fun f hf => by
        obtain ⟨us, ids, a, b⟩ := WT.frz (d := d) (hp.2 f hf) (h2 f hf) (hd2 _ (List.mem_map.2 ⟨f, hf, rfl⟩))
        exact ⟨us, ids, a, b⟩
      obtain ⟨us, ids, a1, a2, a3⟩ := this
      rw [hw] at a1
      have hs : ∀ (i : Nat) (f : Field) (u : List V), fs.toList[i]? = some f → us[i]? = some u → u.length = P.cellsOf f.type := fun i f u x y => FT.len (hp.2 f (List.mem_of_getElem? x)) (a3 i f u x y)
      obtain ⟨_, t2, t3⟩ := tiles_chunk hp.1 a2 hs
      refine ⟨us.flatten, ids, a1, ?_⟩
      unfold FT; simp only [hu]
      refine ⟨by rw [t2]; simp, fun f hf => ?_⟩
      obtain ⟨i, hi⟩ := List.getElem?_of_mem hf
      have hi2 : i < us.length := by
        rw [a2]
        rcases Nat.lt_or_ge i fs.toList.length with h | h
        · exact h
        · rw [List.getElem?_eq_none h] at hi; cases hi
      have hg : us[i]? = some us[i] := by simp [hi2]
      have := (t3 i f us[i] hi hg).2
      rw [Nat.sub_zero] at this
      rw [this]
      exact a3 i f us[i] hi hg
    · rename_i n e hu
      simp only [hu] at hd hp
      simp only [Bool.and_eq_true, decide_eq_true_eq] at hp
      obtain ⟨h1, h2⟩ := h
      have := frzL_flat (f := frzV H d) (fun i => (cs.drop (i * P.cellsOf e)).take (P.cellsOf e)) (fun _ u => FT P k e u) (List.range n) fun j hj => by
        obtain ⟨us, ids, a, b⟩ := WT.frz (d := d) hp.2 (h2 j (List.mem_range.1 hj)) (by omega)
        exact ⟨us, ids, a, b⟩
      obtain ⟨us, ids, a1, a2, a3⟩ := this
      rw [chunks_len (by rw [h1, hp.1])] at a1
      rw [List.length_range] at a2
      have hul : ∀ (i : Nat) (u : List V), us[i]? = some u → u.length = P.cellsOf e := by
        intro i u hi
        have hi2 : i < us.length := by
          rcases Nat.lt_or_ge i us.length with h | h
          · exact h
          · rw [List.getElem?_eq_none h] at hi; cases hi
        exact FT.len hp.2 (a3 i i u (by simp [List.getElem?_range (show i < n by omega)]) hi)
      refine ⟨us.flatten, ids, a1, ?_⟩
      unfold FT; simp only [hu]
      refine ⟨by rw [flatten_len hul, a2, hp.1], fun j hj => ?_⟩
      have hg : us[j]? = some us[j] := by simp [show j < us.length by omega]
      rw [flatten_chunk hul hg]
      exact a3 j j us[j] (by simp [List.getElem?_range (show j < n by omega)]) hg
    · exact h.elim
theorem frees_app {a b : List V} : V.frees (a ++ b) = (V.frees a && V.frees b) := by
  induction a with
  | nil => simp [V.frees]
  | cons x a ih => simp [V.frees, ih, Bool.and_assoc]
theorem chunks_all {α : Type} {p : List α → Prop} (hn : p []) (hadd : ∀ a b, p a → p b → p (a ++ b)) {n m : Nat} {cs : List α} (h : cs.length = n * m) (hc : ∀ j, j < n → p ((cs.drop (j * m)).take m)) : p cs := by
  have : ∀ l : List (List α), (∀ x ∈ l, p x) → p l.flatten := by
    intro l
    induction l with
    | nil => intro _; exact hn
    | cons x l ih => intro hx; simp only [List.flatten_cons]; exact hadd _ _ (hx x (by simp)) (ih fun y hy => hx y (by simp [hy]))
  rw [← chunks_len h]
  refine this _ fun x hx => ?_
  obtain ⟨j, hj, rfl⟩ := List.mem_map.1 hx
  exact hc j (List.mem_range.1 hj)
theorem FT.fro : ∀ {k : Nat} {t : TypeId} {cs : List V}, plainT P k t = true → FT P k t cs → cs.all V.fro1 = true ∧ V.frees cs = true
  | 0, t, cs, hp, h => by simp [plainT] at hp
  | k + 1, t, cs, hp, h => by
    have add : ∀ a b : List V, (a.all V.fro1 = true ∧ V.frees a = true) → (b.all V.fro1 = true ∧ V.frees b = true) → ((a ++ b).all V.fro1 = true ∧ V.frees (a ++ b) = true) := by
      intro a b ⟨a1, a2⟩ ⟨b1, b2⟩
      exact ⟨by rw [List.all_append, a1, b1]; rfl, by rw [frees_app, a2, b2]; rfl⟩
    unfold plainT at hp
    unfold FT at h
    split at h
    · obtain ⟨b, rfl⟩ := h; exact ⟨rfl, rfl⟩
    · obtain ⟨b, rfl, -⟩ := h; exact ⟨rfl, rfl⟩
    · obtain ⟨b, rfl, -⟩ := h; exact ⟨rfl, rfl⟩
    · rename_i e hu
      simp only [hu, Bool.and_eq_true, decide_eq_true_eq] at hp
      obtain ⟨len, z, xs, rfl, -, -, -, h4, h5⟩ := h
      have := chunks_all (p := fun xs : List V => xs.all V.fro1 = true ∧ V.frees xs = true) ⟨rfl, rfl⟩ add h4 fun j hj => FT.fro hp.2 (h5 j hj)
      exact ⟨rfl, by simp only [V.frees, V.free, this.2, Bool.and_true]⟩
    · rename_i fs hu
      simp only [hu, Bool.and_eq_true, List.all_eq_true] at hp
      obtain ⟨h1, h2⟩ := h
      have hw := (tiles_whole h1 hp.1).2
      rw [List.drop_zero] at hw
      rw [← hw]
      have : ∀ l : List Field, (∀ f ∈ l, f ∈ fs.toList) → ((l.map fun f => (cs.drop f.offset).take (P.cellsOf f.type)).flatten.all V.fro1 = true ∧ V.frees (l.map fun f => (cs.drop f.offset).take (P.cellsOf f.type)).flatten = true) := by
        intro l
        induction l with
        | nil => intro _; exact ⟨rfl, rfl⟩
        | cons x l ih =>
          intro hx
          simp only [List.map_cons, List.flatten_cons]
          exact add _ _ (FT.fro (hp.2 x (hx x (by simp))) (h2 x (hx x (by simp)))) (ih fun y hy => hx y (by simp [hy]))
      exact this fs.toList fun f hf => hf
    · rename_i n e hu
      simp only [hu, Bool.and_eq_true, decide_eq_true_eq] at hp
      obtain ⟨h1, h2⟩ := h
      exact chunks_all (p := fun xs : List V => xs.all V.fro1 = true ∧ V.frees xs = true) ⟨rfl, rfl⟩ add (n := n) (m := P.cellsOf e) (by rw [h1, hp.1]) fun j hj => FT.fro hp.2 (h2 j hj)
    · exact h.elim
end
theorem enter_run {P : Program} {f : FuncId} {xs : Array Value} {w : World} (h : hasBody P f = true) : (callFunc f xs).run P w = .ok (.enter f xs) w := by
  unfold hasBody at h
  split at h
  · rename_i fn hfn
    simp only [Bool.and_eq_true, Bool.not_eq_true'] at h
    obtain ⟨h1, h2⟩ := h
    obtain ⟨c, hc⟩ := Option.isSome_iff_exists.1 h1
    have hne : ¬ fn.name = "runtime.NumGoroutine" := by simpa using h2
    simp [callFunc, hfn, hc, hne]
  · cases h
def FTs (P : Program) (k : Nat) : List TypeId → List V → Prop
  | [], vs => vs = []
  | t :: ts, vs => ∃ cs us, vs = argV P t cs :: us ∧ FT P k t cs ∧ FTs P k ts us
theorem argV_frz {P : Program} {k : Nat} {t : TypeId} {cs us : List V} {H : Heap} {ids : List Nat} (hp : plainT P k t = true) (hc : cs.length = P.cellsOf t) (h : frzL (frzV H 5) cs = some (us, ids)) (h6 : frzL (frzV H 6) cs = some (us, ids)) :
    ∃ ids, frzV H 6 (argV P t cs) = some (argV P t us, ids) := by
  have one : P.cellsOf t = 1 → ∃ ids, frzV H 6 (cs.headD .dead) = some (us.headD .dead, ids) := by
    intro h1
    match cs, h1 ▸ hc with
    | [v], _ =>
      simp only [frzL] at h6
      cases hv : frzV H 6 v with
      | none => rw [hv] at h6; cases h6
      | some p =>
        rw [hv] at h6
        simp only [Option.some.injEq, Prod.mk.injEq] at h6
        obtain ⟨rfl, -⟩ := h6
        exact ⟨p.2, by simp [hv]⟩
  have agg : ∃ ids, frzV H 6 (.agg cs) = some (.agg us, ids) := ⟨ids, by unfold frzV; simp only [h]⟩
  unfold argV
  cases k with
  | zero => simp [plainT] at hp
  | succ k =>
    unfold plainT at hp
    split at hp
    · rename_i hu; simp only [hu]; exact one (by simpa using hp)
    · rename_i hu; simp only [hu]; exact one (by simpa using hp)
    · rename_i hu; simp only [hu]; exact one (by simpa using hp)
    · rename_i e hu; simp only [hu]; simp only [Bool.and_eq_true, decide_eq_true_eq] at hp; exact one hp.1.1
    · rename_i fs hu; simp only [hu]; exact agg
    · rename_i fs hu; simp only [hu]; exact agg
    · cases hp
theorem WT.len {P : Program} {H : Heap} {k : Nat} {t : TypeId} {cs : List V} (hp : plainT P k t = true) (h : WT P k t cs H) : cs.length = P.cellsOf t := by
  cases k with
  | zero => simp [plainT] at hp
  | succ k =>
    unfold plainT at hp
    unfold WT at h
    split at h
    · rename_i hu; simp only [hu, decide_eq_true_eq] at hp; obtain ⟨b, rfl⟩ := h; simp [hp]
    · rename_i hu; simp only [hu, decide_eq_true_eq] at hp; obtain ⟨b, rfl, -⟩ := h; simp [hp]
    · rename_i hu; simp only [hu, decide_eq_true_eq] at hp; obtain ⟨b, rfl, -⟩ := h; simp [hp]
    · rename_i hu; simp only [hu, Bool.and_eq_true, decide_eq_true_eq] at hp
      rcases h with rfl | ⟨i, len, full, rfl, -⟩ <;> simp [hp.1.1]
    · exact h.1
    · exact h.1
    · exact h.elim
theorem frzL_more {H : Heap} : ∀ (d : Nat), (∀ v r, frzV H d v = some r → frzV H (d + 1) v = some r) := by
  intro d
  induction d with
  | zero => intro v r h; simp [frzV] at h
  | succ d ih =>
    have hl : ∀ cs r, frzL (frzV H d) cs = some r → frzL (frzV H (d + 1)) cs = some r := by
      intro cs
      induction cs with
      | nil => intro r h; exact h
      | cons v cs ihc =>
        intro r h
        simp only [frzL] at h ⊢
        cases hv : frzV H d v with
        | none => rw [hv] at h; cases h
        | some p =>
          rw [hv] at h
          cases hc : frzL (frzV H d) cs with
          | none => rw [hc] at h; cases h
          | some q =>
            rw [hc] at h
            rw [ih _ _ hv, ihc _ hc]
            exact h
    intro v r h
    unfold frzV at h ⊢
    split at h
    · rename_i s
      split at h
      · rename_i h0; rw [if_pos h0]; exact h
      · rename_i h0
        rw [if_neg h0]
        split at h
        · cases h
        · rename_i i o had
          split at h
          · rename_i cs e r hg
            try simp only [had]
            try simp only [hg]
            split at h
            · rename_i hle
              rw [if_pos hle]
              split at h
              · rename_i p hp
                rw [hl _ _ hp]; exact h
              · cases h
            · cases h
          · cases h
    · split at h
      · rename_i p hp; rw [hl _ _ hp]; exact h
      · cases h
    · split at h
      · rename_i p hp; rw [hl _ _ hp]; exact h
      · cases h
    · exact h
theorem frzL_more1 {H : Heap} {d : Nat} : ∀ {cs : List V} {r : List V × List Nat}, frzL (frzV H d) cs = some r → frzL (frzV H (d + 1)) cs = some r
  | [], r, h => h
  | v :: cs, r, h => by
    simp only [frzL] at h ⊢
    cases hv : frzV H d v with
    | none => rw [hv] at h; cases h
    | some p =>
      rw [hv] at h
      cases hc : frzL (frzV H d) cs with
      | none => rw [hc] at h; cases h
      | some q =>
        rw [hc] at h
        rw [frzL_more d _ _ hv, frzL_more1 hc]
        exact h
theorem argV_fro {P : Program} {k : Nat} {t : TypeId} {cs : List V} (hp : plainT P k t = true) (h : cs.all V.fro1 = true ∧ V.frees cs = true) (hc : cs.length = P.cellsOf t) : (argV P t cs).fro = true ∧ (argV P t cs).free = true := by
  have one : P.cellsOf t = 1 → (cs.headD .dead).fro = true ∧ (cs.headD .dead).free = true := by
    intro h1
    match cs, h1 ▸ hc with
    | [v], _ =>
      obtain ⟨a, b⟩ := h
      simp only [List.all_cons, List.all_nil, Bool.and_true] at a
      simp only [V.frees, Bool.and_true] at b
      refine ⟨?_, by simpa using b⟩
      cases v <;> simp_all [V.fro, V.fro1]
  have agg : (V.agg cs).fro = true ∧ (V.agg cs).free = true := ⟨by simpa [V.fro] using h.1, by simpa [V.free] using h.2⟩
  unfold argV
  cases k with
  | zero => simp [plainT] at hp
  | succ k =>
    unfold plainT at hp
    split at hp
    · rename_i hu; simp only [hu]; exact one (by simpa using hp)
    · rename_i hu; simp only [hu]; exact one (by simpa using hp)
    · rename_i hu; simp only [hu]; exact one (by simpa using hp)
    · rename_i e hu; simp only [hu]; simp only [Bool.and_eq_true, decide_eq_true_eq] at hp; exact one hp.1.1
    · rename_i fs hu; simp only [hu]; exact agg
    · rename_i fs hu; simp only [hu]; exact agg
    · cases hp
theorem WTs.frz {P : Program} {k : Nat} {H : Heap} : ∀ {ts : List TypeId} {us : List V}, ts.all (fun t => plainT P k t && decide (sdep P k t ≤ 5)) = true → WTs P k H ts us →
    ∃ us' ids, frzL (frzV H 6) us = some (us', ids) ∧ FTs P k ts us' ∧ us'.all V.fro = true ∧ V.frees us' = true
  | [], us, _, h => by cases h; exact ⟨[], [], rfl, rfl, rfl, rfl⟩
  | t :: ts, us, hp, ⟨cs, us2, e, h, r⟩ => by
    subst e
    simp only [List.all_cons, Bool.and_eq_true, decide_eq_true_eq] at hp
    obtain ⟨v, ids, a, b⟩ := WT.frz (d := 5) hp.1.1 h hp.1.2
    obtain ⟨vs, ids2, c1, c2, c3, c4⟩ := WTs.frz (ts := ts) (by simpa using hp.2) r
    obtain ⟨ids3, e3⟩ := argV_frz hp.1.1 (WT.len hp.1.1 h) a (frzL_more1 a)
    have f1 := argV_fro hp.1.1 (FT.fro hp.1.1 b) (FT.len hp.1.1 b)
    refine ⟨argV P t v :: vs, ids3 ++ ids2, by simp only [frzL, e3, c1], ⟨_, _, rfl, b, c2⟩, by simp only [List.all_cons, f1.1, c3, Bool.and_self], by simp only [V.frees, f1.2, c4, Bool.and_self]⟩
theorem law_pure {f : Nat → List V → Heap → Option R} {kk : Nat → List V → Option R} (he : ∀ n a H, f (n + 1) a H = pureA a H (kk n)) {P : Program} {k : Nat} {ts : List TypeId} (hp : ts.all (fun t => plainT P k t && decide (sdep P k t ≤ 5)) = true)
    (hlaw : ∀ (H : Heap) (us : List V), FTs P k ts us → us.all V.fro = true → V.frees us = true → Tot (fun n => f n us H) fun v _ => v = .bool true) {H : Heap} {us : List V} (h : WTs P k H ts us) : ∃ n H', f n us H = some (.bool true, H') := by
  obtain ⟨us', ids, h1, h2, h3, h4⟩ := WTs.frz hp h
  obtain ⟨v, G, rfl, n0, hn⟩ := hlaw (killL ids H) us' h2 h3 h4
  refine ⟨n0 + 1, G, ?_⟩
  have := hn (n0 + 1) (by omega)
  simp only [he] at this ⊢
  unfold pureA at this ⊢
  rw [frzAs_fro h3] at this
  have e : frzAs us H = some (us', killL ids H) := by unfold frzAs; rw [h1]
  rw [e]
  exact this
end Go.AM
end
section
set_option linter.unusedVariables false
set_option linter.unusedSimpArgs false
namespace Go.AM.U
structure Tr where
  v0 : Int
  v1 : Int
  v2 : Int
  x0 : Int
  y0 : Int
  x1 : Int
  y1 : Int
  x2 : Int
  y2 : Int
 deriving DecidableEq
def Tr.key (t : Tr) : List Int := [t.v0, t.x0, t.y0, t.v1, t.x1, t.y1, t.v2, t.x2, t.y2]
end Go.AM.U
end
section
set_option linter.unusedVariables false
set_option linter.unusedSimpArgs false
set_option linter.unusedSimpArgs false
set_option linter.unusedVariables false
namespace Go.AM
section
variable {α : Type} {f : α → List V} {z : Nat}
theorem flat_len (hf : ∀ a, (f a).length = z) : ∀ (L : List α), (L.flatMap f).length = L.length * z
  | [] => by simp
  | p :: L => by rw [List.flatMap_cons, List.length_append, hf, flat_len hf L, List.length_cons, Nat.add_mul, Nat.one_mul, Nat.add_comm]
theorem flat_drop (hf : ∀ a, (f a).length = z) : ∀ (L : List α) (i : Nat), (L.flatMap f).drop (i * z) = (L.drop i).flatMap f
  | L, 0 => by simp
  | [], i + 1 => by simp
  | p :: L, i + 1 => by
    have e : (i + 1) * z = z + i * z := by rw [Nat.add_mul, Nat.one_mul, Nat.add_comm]
    have e3 : (f p ++ L.flatMap f).drop z = L.flatMap f := by rw [← hf p, List.drop_left]
    rw [List.flatMap_cons, e, ← List.drop_drop, e3, flat_drop hf L i, List.drop_succ_cons]
theorem flat_take (hf : ∀ a, (f a).length = z) : ∀ (L : List α) (i : Nat), (L.flatMap f).take (i * z) = (L.take i).flatMap f
  | L, 0 => by simp
  | [], i + 1 => by simp
  | p :: L, i + 1 => by
    have e : (i + 1) * z = z + i * z := by rw [Nat.add_mul, Nat.one_mul, Nat.add_comm]
    rw [List.flatMap_cons, e, List.take_add, ← hf p, List.take_left, List.drop_left, hf p, flat_take hf L i, List.take_succ_cons, List.flatMap_cons]
theorem flat_at (hf : ∀ a, (f a).length = z) {L : List α} {i : Nat} (h : i < L.length) : ((L.flatMap f).drop (i * z)).take z = f L[i] ∧ z ≤ ((L.flatMap f).drop (i * z)).length := by
  rw [flat_drop hf, List.drop_eq_getElem_cons h, List.flatMap_cons]
  constructor
  · rw [← hf L[i], List.take_left]
  · rw [List.length_append, hf]; omega
def rowG (f : α → List V) (z : Nat) (L : List α) : V := if L.length = 0 then .list 0 0 [] else .list L.length z (L.flatMap f)
theorem rowG_idx {L : List α} {i : Nat} (h : i < L.length) : idxS z (rowG f z L) (.int .i64 (i : Int)) = some (.lptr ((L.flatMap f).drop (i * z))) := by
  unfold rowG
  rw [if_neg (by omega)]
  simp only [idxS, Int.toNat_natCast]
  rw [if_pos (by constructor <;> simp <;> omega)]
theorem rowG_ld (hf : ∀ a, (f a).length = z) {L : List α} {i : Nat} (h : i < L.length) {H : Heap} : ldN z (.lptr ((L.flatMap f).drop (i * z))) H = some (.agg (f L[i])) := by
  obtain ⟨h1, h2⟩ := flat_at hf h
  simp only [ldN, if_pos h2, h1]
theorem rowG_len {L : List α} : lenSl (rowG f z L) = some (.int .i64 (L.length : Int)) := by
  unfold rowG
  split
  · rename_i h; simp [lenSl, h]
  · simp [lenSl]
theorem flat_fro2 (h : ∀ a, (f a).all V.fro1 = true ∧ V.frees (f a) = true) : ∀ L : List α, (L.flatMap f).all V.fro1 = true ∧ V.frees (L.flatMap f) = true
  | [] => ⟨rfl, rfl⟩
  | p :: L => by
    have q := flat_fro2 h L
    rw [List.flatMap_cons, List.all_append, frees_app]
    simp [h p, q]
theorem rowG_fro {L : List α} : (rowG f z L).fro = true := by unfold rowG; split <;> rfl
theorem rowG_free (h : ∀ a, (f a).all V.fro1 = true ∧ V.frees (f a) = true) {L : List α} : (rowG f z L).free = true := by
  unfold rowG; split
  · simp [V.free, V.frees]
  · simp [V.free, (flat_fro2 h L).2]
theorem rowG_cut (hf : ∀ a, (f a).length = z) {L : List α} {n : Nat} (hn : 0 < n) (h : n < L.length) : slSl z (rowG f z L) none (some (.int .i64 (n : Int))) = some (rowG f z (L.take n)) := by
  unfold rowG
  have e : (L.take n).length = n := by rw [List.length_take]; omega
  rw [if_neg (by omega), if_neg (by omega), e]
  have b1 : bndA 0 none = some 0 := rfl
  have b2 : bndA L.length (some (.int .i64 (n : Int))) = some n := by simp [bndA]
  simp only [slSl, b1, b2, Option.bind_some]
  rw [if_pos ⟨by omega, by omega, .inr trivial⟩, if_neg (by omega)]
  simp [flat_take hf]
end
end Go.AM
end
section
set_option linter.unusedVariables false
set_option linter.unusedSimpArgs false
set_option linter.unusedSimpArgs false
set_option linter.unusedVariables false
set_option maxRecDepth 100000
namespace Go.AM
abbrev Gv (f : Nat → Option R) (u : V) (H : Heap) : Prop := Tot f fun v H' => H' = H ∧ v = u
theorem Gv.bind {f : Nat → Option R} {u : V} {H : Heap} {k : Nat → R → Option R} {Q : V → Heap → Prop} (hf : Gv f u H) (hk : Tot (fun n => k n (u, H)) Q) : Tot (fun n => bnd (f n) (k n)) Q :=
  Tot.bind hf fun v H' ⟨h1, h2⟩ => by subst h1 h2; exact hk
abbrev iv (n : Int) : V := .int .i64 n
def GG {α : Type} (f : α → List V) (z : Nat) (ty : TypeId) (H : Heap) (v : V) (L : List α) (i : Option Nat) : Prop :=
  (i = none ∧ L = [] ∧ ∃ z, v = .slice ⟨none, 0, z, false⟩) ∨ ∃ j, i = some j ∧ v = .slice ⟨some (j, 0), L.length, z, false⟩ ∧ j < H.n ∧ H.get j = .cells (L.flatMap f) ty false
section
variable {α : Type} {f : α → List V} {z : Nat} {ty : TypeId} {H : Heap} {v : V} {L : List α} {i : Option Nat}
theorem GG.nil {z' : Nat} : GG f z ty H (.slice ⟨none, 0, z', false⟩) [] none := .inl ⟨rfl, rfl, z', rfl⟩
theorem GG.len (g : GG f z ty H v L i) : lenSl v = some (iv (L.length : Int)) := by
  rcases g with ⟨-, rfl, z, rfl⟩ | ⟨j, -, rfl, -⟩ <;> rfl
theorem GG.keep {H' : Heap} (g : GG f z ty H v L i) (hn : H.n ≤ H'.n) (hk : ∀ k, k < H.n → i = some k → H'.get k = H.get k) : GG f z ty H' v L i := by
  rcases g with g | ⟨j, h1, h2, h3, h4⟩
  · exact .inl g
  · exact .inr ⟨j, h1, h2, by omega, by rw [hk j h3 h1]; exact h4⟩
theorem GG.lt {k : Nat} (g : GG f z ty H v L i) (h : i = some k) : k < H.n := by
  rcases g with ⟨h1, -⟩ | ⟨j, h1, h2, h3, h4⟩
  · rw [h1] at h; cases h
  · rw [h1] at h; cases h; exact h3
theorem GG.app (hf : ∀ a, (f a).length = z) {t : α} {j : Nat} {e : TypeId} {r : Bool} {by_ : Nat} (g : GG f z ty H v L i) (hj : H.get j = .cells (f t) e r) (hij : i ≠ some j) (hL : L.length < 1000000) (hb : by_ ≤ 4096) :
    ∃ v' H' k, appA z by_ ty v (.slice ⟨some (j, 0), 1, z, false⟩) H = some (v', H') ∧ GG f z ty H' v' (L ++ [t]) (some k) ∧ H.n ≤ k ∧ H.n ≤ H'.n ∧ ∀ q, q < H.n → i ≠ some q → H'.get q = H.get q := by
  have s1 : srcA z (.slice ⟨some (j, 0), 1, z, false⟩) H = some (1, f t) := by
    simp only [srcA, rdS, hj, Nat.one_mul, Nat.zero_add, List.drop_zero]
    simp [hf, List.take_of_length_le (Nat.le_of_eq (hf t))]
  rcases g with ⟨rfl, rfl, z', rfl⟩ | ⟨q, rfl, rfl, h3, h4⟩
  · unfold appA
    simp only [s1, Option.bind_some]
    rw [if_neg (by decide), if_pos ⟨by omega, hb, .inl rfl⟩]
    simp only [rdS, if_true, Option.bind_some, killA, List.nil_append, Nat.zero_add]
    refine ⟨_, _, H.n, rfl, .inr ⟨_, rfl, rfl, by simp, by rw [Heap.gpz rfl]; simp⟩, Nat.le_refl _, by simp, fun k hk _ => ?_⟩
    rw [Heap.gqz (by omega)]
  · unfold appA
    simp only [s1, Option.bind_some]
    rw [if_neg (by decide), if_pos ⟨by omega, hb, .inr trivial⟩]
    have ql := flat_len hf L
    have r1 : rdS ⟨some (q, 0), L.length, z, false⟩ H = some (L.flatMap f) := by
      simp only [rdS, h4, Nat.zero_add, List.drop_zero, ← ql, List.take_length, Nat.le_refl, if_true]
      split
      · rename_i hz
        rw [List.eq_nil_of_length_eq_zero hz]; rfl
      · rfl
    simp only [r1, Option.bind_some, killA, h4, Bool.false_eq_true, if_false, and_self, if_true]
    refine ⟨_, _, H.n, rfl, .inr ⟨_, rfl, by rw [List.length_append]; simp, by simp, by rw [Heap.gpz (by simp), List.flatMap_append]; simp⟩, Nat.le_refl _, by simp, fun k hk hne => ?_⟩
    have : k ≠ q := fun e => hne (by rw [e])
    rw [Heap.gqz (by simp; omega), Heap.gtz this]
theorem GG.frzV (hf : ∀ a, (f a).length = z) (hc : ∀ a, (f a).all V.fro1 = true ∧ V.frees (f a) = true) (g : GG f z ty H v L i) (d : Nat) : ∃ ids, frzV H (d + 2) v = some (rowG f z L, ids) := by
  rcases g with ⟨rfl, rfl, z, rfl⟩ | ⟨j, rfl, rfl, h3, h4⟩
  · exact ⟨_, rfl⟩
  · unfold rowG
    by_cases hz : L.length = 0
    · rw [if_pos hz]
      refine ⟨[], ?_⟩
      unfold Go.AM.frzV; simp only [hz, if_true]
    · rw [if_neg hz]
      refine ⟨[j], ?_⟩
      have hc := (flat_fro2 hc L).1
      have ql := flat_len hf L
      have ht : ((L.flatMap f).drop 0).take (L.length * z) = L.flatMap f := by rw [List.drop_zero, ← ql, List.take_length]
      unfold Go.AM.frzV
      simp only [if_neg hz, h4, ht, frzL_fro1 (d := d) hc, Nat.zero_add]
      rw [if_pos (by omega)]
end
namespace U
def Tr.cells (t : Tr) : List V := [iv t.v0, iv t.v1, iv t.v2, iv t.x0, iv t.y0, iv t.x1, iv t.y1, iv t.x2, iv t.y2]
structure G3 where
  a : Int
  b : Int
  c : Int
 deriving DecidableEq
def G3.cells (t : G3) : List V := [iv t.a, iv t.b, iv t.c]
abbrev wa (a b : Int) : Int := IntKind.i64.wrap (a + b)
def mv (x y : Int) (t : Tr) : Tr := ⟨t.v0, wa t.x0 x, wa t.y0 y, t.v1, wa t.x1 x, wa t.y1 y, t.v2, wa t.x2 x, wa t.y2 y⟩
def tilesF (L : List Tr) (k : Nat) (j : Nat) : List Tr := (List.range j).flatMap fun q => L.map (mv ((q / k : Nat) : Int) ((q % k : Nat) : Int))
theorem tiles_succ (L : List Tr) (k j : Nat) : tilesF L k (j + 1) = tilesF L k j ++ L.map (mv ((j / k : Nat) : Int) ((j % k : Nat) : Int)) := by
  unfold tilesF; rw [List.range_succ, List.flatMap_append]; simp
theorem tiles_len (L : List Tr) (k j : Nat) : (tilesF L k j).length = j * L.length := by
  induction j with
  | zero => simp [tilesF]
  | succ j ih => rw [tiles_succ, List.length_append, ih, List.length_map, Nat.add_mul, Nat.one_mul]
end U
namespace N
open U
variable {H : Heap}
theorem bT : asB (.bool true) = some true := rfl
theorem bF : asB (.bool false) = some false := rfl
theorem lss_P {a b : Int} : arA .lss (iv a) (iv b) = some (.bool (decide (a < b))) := rfl
theorem gtr_P {a b : Int} : arA .gtr (iv a) (iv b) = some (.bool (decide (a > b))) := rfl
theorem geq_P {a b : Int} : arA .geq (iv a) (iv b) = some (.bool (decide (a ≥ b))) := rfl
theorem leq_P {a b : Int} : arA .leq (iv a) (iv b) = some (.bool (decide (a ≤ b))) := rfl
theorem eql_P {a b : Int} : arA .eql (iv a) (iv b) = some (.bool (decide (a = b))) := rfl
theorem neq_P {a b : Int} : arA .neq (iv a) (iv b) = some (.bool (!decide (a = b))) := by simp (disch := omega) []
theorem lssN {a b : Nat} : arA .lss (iv (a : Int)) (iv (b : Int)) = some (.bool (decide (a < b))) := by
  rw [lss_P]; congr 2; exact decide_eq_decide.2 (by omega)
theorem incN {a : Nat} (h : a < 4000000000) : arA .add (iv (a : Int)) (iv 1) = some (iv ((a + 1 : Nat) : Int)) := by
  simp (disch := omega) []
abbrev rowT (L : List U.Tr) : V := rowG U.Tr.cells 9 L
abbrev rowP (L : List U.G3) : V := rowG U.G3.cells 3 L
theorem c9 : ∀ t : U.Tr, t.cells.length = 9 := fun _ => rfl
theorem cfree : ∀ t : U.Tr, t.cells.all V.fro1 = true ∧ V.frees t.cells = true := fun _ => ⟨rfl, rfl⟩
theorem c3 : ∀ t : U.G3, t.cells.length = 3 := fun _ => rfl
theorem cfree3 : ∀ t : U.G3, t.cells.all V.fro1 = true ∧ V.frees t.cells = true := fun _ => ⟨rfl, rfl⟩
theorem run0 {f : Nat → List V → Heap → Option R} {g i : Nat} {args : List V} {v : V} {H : Heap} (hf : ∀ n a H, f n a H = callA C n g a H) (h : ∀ n, callA C (n + i) g args H = some (v, H)) : Gv (fun n => f n args H) v H := by
  refine ⟨_, _, ⟨rfl, rfl⟩, i, fun n hn => ?_⟩
  obtain ⟨k, rfl⟩ : ∃ k, n = k + i := ⟨n - i, by omega⟩
  exact (hf _ _ _).trans (h k)
theorem moved_P {t : U.Tr} {x y : Int} : Gv (fun n => f_sheet_moved n [.agg t.cells, iv x, iv y] H) (.agg (mv x y t).cells) H := run0 (g := i_sheet_moved) (i := 20) (fun n a H => by unfold f_sheet_moved; rfl) (fun n => by kernel_rfl)
theorem good_P {n : Int} : Gv (fun k => f_sheet_good k [iv n] H) (.bool (decide (1 ≤ n ∧ n ≤ 64))) H := by
  refine sheet_good_tot rfl rfl ?_
  simp only [sheet_good_b]
  refine Tot.pure geq_P ?_
  by_cases h : n ≥ 1
  · rw [decide_eq_true h]
    refine Tot.pure bT ?_
    simp only [if_true]
    refine Tot.pure leq_P ?_
    exact Tot.ret ⟨rfl, trivial, by congr 1; exact decide_eq_decide.2 (by omega)⟩
  · rw [decide_eq_false h]
    refine Tot.pure bF ?_
    simp only [Bool.false_eq_true, if_false]
    exact Tot.ret ⟨rfl, trivial, by congr 1; exact (decide_eq_false (by omega)).symm⟩
structure SpA (H : Heap) (p : Nat) (n m k : Int) (S : List U.G3) (F : List U.Tr) (vs vf : V) (i1 i2 : Option Nat) : Prop where
  o : H.get p = .cells [iv n, iv m, iv k, vs, vf] ty_api_Spec false
  lt : p < H.n
  s : GG U.G3.cells 3 ty_api_Ghost H vs S i1
  f : GG U.Tr.cells 9 ty_3_api_Ghost H vf F i2
  n1 : i1 ≠ some p
  n2 : i2 ≠ some p
  n3 : ∀ q, i1 = some q → i2 ≠ some q
end N
end Go.AM
end
section
set_option linter.unusedVariables false
set_option linter.unusedSimpArgs false
set_option linter.unusedSimpArgs false
set_option linter.unusedVariables false
set_option maxRecDepth 100000
namespace Go.AM
namespace N
open U
variable {H : Heap}
theorem SpA.keep {H' : Heap} {p : Nat} {n m k : Int} {S : List U.G3} {F : List U.Tr} {vs vf : V} {i1 i2 : Option Nat} (h : SpA H p n m k S F vs vf i1 i2) (hn : H.n ≤ H'.n) (hk : ∀ q, q < H.n → H'.get q = H.get q) : SpA H' p n m k S F vs vf i1 i2 :=
  ⟨by rw [hk p h.lt]; exact h.o, Nat.lt_of_lt_of_le h.lt hn, h.s.keep hn fun q hq _ => hk q hq, h.f.keep hn fun q hq _ => hk q hq, h.n1, h.n2, h.n3⟩
theorem SpA.keepX {H' : Heap} {p : Nat} {n m k : Int} {S : List U.G3} {F : List U.Tr} {vs vf : V} {i1 i2 : Option Nat} (h : SpA H p n m k S F vs vf i1 i2) (hn : H.n ≤ H'.n) {j : Nat} (hj1 : j ≠ p) (hj2 : i1 ≠ some j) (hj3 : i2 ≠ some j) (hk : ∀ q, q < H.n → q ≠ j → H'.get q = H.get q) : SpA H' p n m k S F vs vf i1 i2 :=
  ⟨by rw [hk p h.lt (Ne.symm hj1)]; exact h.o, Nat.lt_of_lt_of_le h.lt hn, h.s.keep hn fun q hq e => hk q hq fun e2 => hj2 (by rw [e, e2]), h.f.keep hn fun q hq e => hk q hq fun e2 => hj3 (by rw [e, e2]), h.n1, h.n2, h.n3⟩
theorem faS {p o : Nat} {off : Nat} : faA off (.ptr (some (p, o))) = some (.ptr (some (p, o + off))) := rfl
theorem put_site {K : Heap} {p q : Nat} {n m k : Int} {S : List U.G3} {F : List U.Tr} {vs vf : V} {i1 i2 : Option Nat} {g : U.G3} (h : SpA K p n m k S F vs vf i1 i2) (hg : K.get q = .cells g.cells ty_api_Ghost false) (hq : i1 ≠ some q) (hL : S.length < 1000000) :
    ld1 (.ptr (some (p, 3))) K = some vs ∧ ∃ v' K1, appA 3 24 ty_api_Ghost vs (.slice ⟨some (q, 0), 1, 3, false⟩) K = some (v', K1) ∧ ∃ K2 j, stA 1 (.ptr (some (p, 3))) v' K1 = some K2 ∧ SpA K2 p n m k (S ++ [g]) F v' vf (some j) i2 ∧ K.n ≤ K2.n ∧ K.n ≤ j ∧ ∀ a, a < K.n → a ≠ p → i1 ≠ some a → K2.get a = K.get a := by
  refine ⟨by simp [ld1, h.o], ?_⟩
  obtain ⟨v', K1, j, h1, h2, h3, h4, h5⟩ := GG.app c3 h.s hg hq hL (by decide : 24 ≤ 4096)
  have o1 : K1.get p = .cells [iv n, iv m, iv k, vs, vf] ty_api_Spec false := by rw [h5 p h.lt h.n1]; exact h.o
  have hv1 : v'.one = true := by rcases h2 with ⟨e, -⟩ | ⟨jj, e, rfl, -⟩; cases e; rfl
  refine ⟨v', K1, h1, K1.set p (.cells [iv n, iv m, iv k, v', vf] ty_api_Spec false), j, ?_, ?_, by simp; exact h4, h3, fun a ha hap hai => by rw [Heap.gtz hap]; exact h5 a ha hai⟩
  · have hc : v'.cells = [v'] := by rcases h2 with ⟨e, -⟩ | ⟨jj, e, rfl, -⟩; cases e; rfl
    simp only [stA, o1, hc]
    rw [if_pos ⟨rfl, by simp, by simp [hv1]⟩]; rfl
  · have jp : j ≠ p := by have := h.lt; omega
    refine ⟨Heap.gsz rfl, by have := h.lt; simp; omega, h2.keep (by simp) fun q hq e => by rw [Heap.gtz]; intro e2; rw [← e2] at jp; cases e; exact jp rfl, (h.f.keep h4 fun q hq e => h5 q hq fun e2 => h.n3 q e2 e).keep (by simp) fun q hq e => Heap.gtz fun e2 => h.n2 (by rw [e, e2]), fun e => jp (by cases e; rfl), h.n2, fun q e e2 => ?_⟩
    cases e
    have := h.f.lt e2; omega
theorem put_face {K : Heap} {p q : Nat} {n m k : Int} {S : List U.G3} {F : List U.Tr} {vs vf : V} {i1 i2 : Option Nat} {g : U.Tr} (h : SpA K p n m k S F vs vf i1 i2) (hg : K.get q = .cells g.cells ty_3_api_Ghost false) (hq : i2 ≠ some q) (hL : F.length < 1000000) :
    ld1 (.ptr (some (p, 4))) K = some vf ∧ ∃ v' K1, appA 9 72 ty_3_api_Ghost vf (.slice ⟨some (q, 0), 1, 9, false⟩) K = some (v', K1) ∧ ∃ K2 j, stA 1 (.ptr (some (p, 4))) v' K1 = some K2 ∧ SpA K2 p n m k S (F ++ [g]) vs v' i1 (some j) ∧ K.n ≤ K2.n ∧ K.n ≤ j ∧ ∀ a, a < K.n → a ≠ p → i2 ≠ some a → K2.get a = K.get a := by
  refine ⟨by simp [ld1, h.o], ?_⟩
  obtain ⟨v', K1, j, h1, h2, h3, h4, h5⟩ := GG.app c9 h.f hg hq hL (by decide : 72 ≤ 4096)
  have o1 : K1.get p = .cells [iv n, iv m, iv k, vs, vf] ty_api_Spec false := by rw [h5 p h.lt h.n2]; exact h.o
  have hv1 : v'.one = true := by rcases h2 with ⟨e, -⟩ | ⟨jj, e, rfl, -⟩; cases e; rfl
  refine ⟨v', K1, h1, K1.set p (.cells [iv n, iv m, iv k, vs, v'] ty_api_Spec false), j, ?_, ?_, by simp; exact h4, h3, fun a ha hap hai => by rw [Heap.gtz hap]; exact h5 a ha hai⟩
  · have hc : v'.cells = [v'] := by rcases h2 with ⟨e, -⟩ | ⟨jj, e, rfl, -⟩; cases e; rfl
    simp only [stA, o1, hc]
    rw [if_pos ⟨rfl, by simp, by simp [hv1]⟩]; rfl
  · have jp : j ≠ p := by have := h.lt; omega
    refine ⟨Heap.gsz rfl, by have := h.lt; simp; omega, (h.s.keep h4 fun q hq e => h5 q hq (h.n3 q e)).keep (by simp) fun q hq e => Heap.gtz fun e2 => h.n1 (by rw [e, e2]), h2.keep (by simp) fun q hq e => by rw [Heap.gtz]; intro e2; rw [← e2] at jp; cases e; exact jp rfl, h.n1, fun e => jp (by cases e; rfl), fun q e e2 => ?_⟩
    cases e2
    have := h.s.lt e; omega
theorem tiles_P {m k : Int} : Tot (fun n => f_sheet_tiles n [iv m, iv k] H) fun v H' => v = .func (.func 23) [] [.ptr (some (H.n, 0)), .ptr (some (H.n + 1, 0))] ∧ H' = (H.push (.cells [iv m] ty_int false)).push (.cells [iv k] ty_int false) := by
  refine sheet_tiles_tot ?_
  simp only [sheet_tiles_b]
  refine Tot.pure (show boxA ty_int (iv m) = some (.cells [iv m] ty_int false) from rfl) ?_
  refine Tot.pure (show boxA ty_int (iv k) = some (.cells [iv k] ty_int false) from rfl) ?_
  exact Tot.ret ⟨rfl, rfl⟩
section
variable {I : Nat → Heap → Prop} {m k j b : Nat}
theorem tiles_l1 (hk1 : 1 ≤ k) (hb : m * k < 1000000) (hkk : k < 1000000) (hbk : ∀ q H, I q H → ld1 (.ptr (some (b, 0))) H = some (iv (k : Int)))
    (hr : ∀ x y H, x < m → y < k → I (x * k + y) H → Tot (fun n => callA C n (yB + j) [iv (x : Int), iv (y : Int)] H) fun v H' => v = .bool true ∧ I (x * k + y + 1) H') {m0 : Nat → Nat} {Q : V → Heap → Prop} {x : Nat} (hx : x < m) {v7 : V}
    (ih : ∀ H, I (x * k + k) H → Tot (fun n => sheet_tiles_1.l0 n (m0 n) (.yld j) (.ptr (some (b, 0))) (iv (m : Int)) (iv ((x + 1 : Nat) : Int)) H) Q) :
    ∀ (d y : Nat) (H : Heap) (mm : Nat → Nat), y + d = k → Big mm → I (x * k + y) H →
      Tot (fun n => sheet_tiles_1.l1 n (m0 n) (mm n) (.yld j) (.ptr (some (b, 0))) (iv (x : Int)) (iv (m : Int)) (iv (x : Int)) (iv (k : Int)) (iv (y : Int)) H) Q := by
  intro d
  induction d with
  | zero =>
    intro y H mm hy hm h
    refine sheet_tiles_1.l1_tot hm fun mm hm => ?_
    simp only [sheet_tiles_1.l1_b]
    refine Tot.pure lssN ?_
    rw [decide_eq_false (by omega)]
    refine Tot.pure bF ?_
    simp only [Bool.false_eq_true, if_false]
    have hxm : x < 1000000 := by
      have h1 : x * 1 ≤ x * k := Nat.mul_le_mul_left _ hk1
      have h2 : x * k ≤ m * k := Nat.mul_le_mul_right _ (by omega)
      omega
    refine Tot.pure (incN (by omega)) ?_
    have e : y = k := by omega
    rw [e] at h
    exact ih H h
  | succ d hd =>
    intro y H mm hy hm h
    refine sheet_tiles_1.l1_tot hm fun mm hm => ?_
    simp only [sheet_tiles_1.l1_b]
    refine Tot.pure lssN ?_
    rw [decide_eq_true (by omega)]
    refine Tot.pure bT ?_
    simp only [if_true]
    refine Tot.bind (hr x y H hx (by omega) h) ?_
    rintro v K ⟨rfl, hK⟩
    dsimp only
    refine Tot.pure (show unA .not (.bool true) = some (.bool false) from rfl) ?_
    refine Tot.pure bF ?_
    simp only [Bool.false_eq_true, if_false]
    refine Tot.pure (incN (by omega)) ?_
    exact hd (y + 1) K mm (by omega) hm hK
theorem tiles_l0 (hk1 : 1 ≤ k) (hb : m * k < 1000000) (hkk : k < 1000000) (hbk : ∀ q H, I q H → ld1 (.ptr (some (b, 0))) H = some (iv (k : Int)))
    (hr : ∀ x y H, x < m → y < k → I (x * k + y) H → Tot (fun n => callA C n (yB + j) [iv (x : Int), iv (y : Int)] H) fun v H' => v = .bool true ∧ I (x * k + y + 1) H') :
    ∀ (d x : Nat) (H : Heap) (mm : Nat → Nat), x + d = m → Big mm → I (x * k) H →
      Tot (fun n => sheet_tiles_1.l0 n (mm n) (.yld j) (.ptr (some (b, 0))) (iv (m : Int)) (iv (x : Int)) H) fun v H' => v = .tuple [] ∧ I (m * k) H' := by
  intro d
  induction d with
  | zero =>
    intro x H mm hx hm h
    refine sheet_tiles_1.l0_tot hm fun mm hm => ?_
    simp only [sheet_tiles_1.l0_b]
    refine Tot.pure lssN ?_
    rw [decide_eq_false (by omega)]
    refine Tot.pure bF ?_
    simp only [Bool.false_eq_true, if_false]
    have e : x = m := by omega
    rw [e] at h
    exact Tot.ret ⟨rfl, h⟩
  | succ d hd =>
    intro x H mm hx hm h
    refine sheet_tiles_1.l0_tot hm fun mm hm => ?_
    simp only [sheet_tiles_1.l0_b]
    refine Tot.pure lssN ?_
    rw [decide_eq_true (by omega)]
    refine Tot.pure bT ?_
    simp only [if_true]
    refine Tot.pure (hbk _ H h) ?_
    refine tiles_l1 (v7 := .dead) hk1 hb hkk hbk hr (x := x) (by omega) (fun K hK => ?_) k 0 H _ (by omega) Big.id (by rw [Nat.add_zero]; exact h)
    refine hd (x + 1) K mm (by omega) hm ?_
    rw [Nat.add_mul, Nat.one_mul]; exact hK
end
end N
end Go.AM
end
section
set_option linter.unusedVariables false
set_option linter.unusedSimpArgs false
set_option linter.unusedSimpArgs false
set_option linter.unusedVariables false
set_option maxRecDepth 100000
namespace Go.AM
namespace N
open U
variable {H : Heap}
theorem rg_tot {g : Nat} {fs cs : List V} {o : O} {kk : Nat → R → Option R} {Q Q' : V → Heap → Prop} (hg : g < yB) (hb : hasBody C.P g = true) (h : Tot (fun n => callA C n g (fs ++ [.yld H.n] ++ cs) (H.push o)) Q') (hk : ∀ v H', Q' v H' → Tot (fun n => kk n (v, H')) Q) :
    Tot (fun n => rgA C n (.func (.func g) fs cs) true o H (kk n)) Q := by
  refine Tot.eq (c' := fun n => bnd (callA C n g (fs ++ [.yld H.n] ++ cs) (H.push o)) (kk n)) (fun n => ?_) (Tot.bind h hk)
  show (if g < yB ∧ hasBody C.P g = true ∧ true = true then bd (callA C n g (fs ++ [.yld H.n] ++ cs) (H.push o)) (kk n) else none) = _
  rw [if_pos ⟨hg, hb, rfl⟩]; rfl
abbrev z5 : List V := [iv 0, iv 0, iv 0, .slice ⟨none, 0, 0, false⟩, .slice ⟨none, 0, 0, false⟩]
abbrev z9 : List V := [iv 0, iv 0, iv 0, iv 0, iv 0, iv 0, iv 0, iv 0, iv 0]
abbrev z3 : List V := [iv 0, iv 0, iv 0]
noncomputable abbrev rdy : O := .loop 75 .ready none (C.tab 10) [(6, .ptr (some (0, 0))), (12, .ptr (some (2, 0))), (56, .dead), (57, .dead)] [56, 57] (cd C 10 [1, 1, 1, 1, 0, 1, 0, 0]) (cd C 10 [1, 1, 1, 1, 0, 1, 0, 1])
noncomputable abbrev bsy : O := .loop 75 .busy none (C.tab 10) [(6, .ptr (some (0, 0))), (12, .ptr (some (2, 0))), (56, .dead), (57, .dead)] [56, 57] (cd C 10 [1, 1, 1, 1, 0, 1, 0, 0]) (cd C 10 [1, 1, 1, 1, 0, 1, 0, 1])
structure RI (H : Heap) (n m k : Int) (S : List U.G3) (T F : List U.Tr) (vs vf : V) (i1 i2 : Option Nat) (b j : Nat) (o : O) : Prop where
  sp : SpA H 2 n m k S F vs vf i1 i2
  h0 : H.get 0 = .cells [rowT T] ty_sl_api_Tri false
  h1 : H.get 1 = .cells z5 ty_api_Spec false
  hb : H.get b = .cells [iv k] ty_int false
  hj : H.get j = o
  b3 : 3 ≤ b
  bj : b < j
  jn : j < H.n
  n1 : ∀ q, i1 = some q → q ≠ j ∧ q ≠ b ∧ 3 ≤ q ∧ q < j
  n2 : ∀ q, i2 = some q → j < q
theorem RI.keep {H' : Heap} {n m k : Int} {S : List U.G3} {T F : List U.Tr} {vs vf : V} {i1 i2 : Option Nat} {b j : Nat} {o : O} (h : RI H n m k S T F vs vf i1 i2 b j o) (hn : H.n ≤ H'.n) (hk : ∀ q, q < H.n → H'.get q = H.get q) : RI H' n m k S T F vs vf i1 i2 b j o := by
  have h1 := h.jn; have h2 := h.bj; have h3 := h.b3
  exact ⟨h.sp.keep hn hk, by rw [hk 0 (by omega)]; exact h.h0, by rw [hk 1 (by omega)]; exact h.h1, by rw [hk b (by omega)]; exact h.hb, by rw [hk j (by omega)]; exact h.hj, h.b3, h.bj, by omega, h.n1, h.n2⟩
theorem RI.state {n m k : Int} {S : List U.G3} {T F : List U.Tr} {vs vf : V} {i1 i2 : Option Nat} {b j : Nat} {o o' : O} (h : RI H n m k S T F vs vf i1 i2 b j o) : RI (H.set j o') n m k S T F vs vf i1 i2 b j o' := by
  have h1 := h.jn; have h2 := h.bj; have h3 := h.b3
  exact ⟨h.sp.keepX (by simp) (j := j) (by omega) (fun e => (h.n1 j e).1 rfl) (fun e => by have := h.n2 j e; omega) fun q hq hne => Heap.gtz hne, by rw [Heap.gtz (by omega)]; exact h.h0, by rw [Heap.gtz (by omega)]; exact h.h1, by rw [Heap.gtz (by omega)]; exact h.hb, Heap.gsz rfl, h.b3, h.bj, by simpa using h1, h.n1, h.n2⟩
theorem chk_sl {s : Sl} {p : V} {K : Heap} (h : ld1 p K = some (.slice s)) : chk (ld1 p K) (.slice s) = some () := by rw [h]; simp [chk, V.beq]
theorem GG.sl {α : Type} {f : α → List V} {z : Nat} {ty : TypeId} {H : Heap} {v : V} {L : List α} {i : Option Nat} (g : GG f z ty H v L i) : ∃ s, v = .slice s := by
  rcases g with ⟨-, -, z, rfl⟩ | ⟨j, -, rfl, -⟩ <;> exact ⟨_, rfl⟩
theorem round_l3 {n m k x y : Int} {S : List U.G3} {T F0 : List U.Tr} {vs : V} {i1 : Option Nat} {b j : Nat} (hT : T.length < 1000) (hF : F0.length < 900000) :
    ∀ (d i : Nat) (H : Heap) (vf : V) (i2 : Option Nat) (mm : Nat → Nat), i + d = T.length → Big mm → RI H n m k S T (F0 ++ (T.take i).map (mv x y)) vs vf i1 i2 b j bsy →
      Tot (fun q => sheet_spec.l3 q j (mm q) (.ptr (some (2, 0))) (iv x) (iv y) (rowT T) (iv (T.length : Int)) (iv (i : Int)) H) fun v H' => v = .bool true ∧ ∃ vf i2, RI H' n m k S T (F0 ++ T.map (mv x y)) vs vf i1 i2 b j rdy := by
  intro d
  induction d with
  | zero =>
    intro i H vf i2 mm hi hm h
    refine sheet_spec.l3_tot hm fun mm hm => ?_
    simp only [sheet_spec.l3_b]
    refine Tot.pure lssN ?_
    rw [decide_eq_false (by omega)]
    refine Tot.pure bF ?_
    simp only [Bool.false_eq_true, if_false]
    rw [List.take_of_length_le (by omega)] at h
    refine Tot.eq (c' := fun _ => some (.bool true, H.set j rdy)) (fun _ => by simp only [kY, h.hj]) (Tot.ret ⟨rfl, vf, i2, h.state⟩)
  | succ d hd =>
    intro i H vf i2 mm hi hm h
    have hl : i < T.length := by omega
    refine sheet_spec.l3_tot hm fun mm hm => ?_
    simp only [sheet_spec.l3_b]
    refine Tot.pure lssN ?_
    rw [decide_eq_true (by omega)]
    refine Tot.pure bT ?_
    simp only [if_true]
    refine Tot.pure (rowG_idx hl) ?_
    refine Tot.pure (rowG_ld c9 hl) ?_
    refine Tot.pure (show stA 9 (.ptr (some (H.n, 0))) (.agg T[i].cells) (H.push (.cells z9 ty_api_Tri false)) = some ((H.push (.cells z9 ty_api_Tri false)).set H.n (.cells T[i].cells ty_api_Tri false)) by simp only [stA, Heap.gpz rfl]; rfl) ?_
    obtain ⟨K, hK⟩ : ∃ K, K = (H.push (.cells z9 ty_api_Tri false)).set H.n (.cells T[i].cells ty_api_Tri false) := ⟨_, rfl⟩
    have Kx : K.get H.n = .cells T[i].cells ty_api_Tri false := by rw [hK, Heap.gsz rfl]
    have Kk : ∀ q, q < H.n → K.get q = H.get q := fun q hq => by rw [hK, Heap.gtz (by omega), Heap.gqz (by omega)]
    have Kn : K.n = H.n + 1 := by rw [hK]; simp
    rw [← hK]; clear hK
    have hKI := h.keep (by omega) Kk
    refine Tot.pure (show ldN 9 (.ptr (some (H.n, 0))) (K.more 1) = some (.agg T[i].cells) by rw [lgz, gmz, Kx]; rfl) ?_
    refine Gv.bind moved_P ?_
    dsimp only
    refine Tot.pure (faS (p := 2) (o := 0) (off := 4)) ?_
    obtain ⟨s, hs⟩ := GG.sl hKI.sp.f
    have lf : ld1 (.ptr (some (2, 0 + 4))) (K.more 1) = some vf := by rw [lhz, gmz, hKI.sp.o]; rfl
    refine Tot.pure lf ?_
    refine Tot.chk (by rw [hs] at lf ⊢; exact chk_sl lf) ?_
    refine Tot.pure (show bSl 9 ty_3_api_Ghost z9 1 [(0, .agg (mv x y T[i]).cells)] = some (.cells (mv x y T[i]).cells ty_3_api_Ghost false) from rfl) ?_
    obtain ⟨D, hD⟩ : ∃ D, D = (K.more 1).set (K.n + 0) (.cells (mv x y T[i]).cells ty_3_api_Ghost false) := ⟨_, rfl⟩
    have Dx : D.get (K.n + 0) = .cells (mv x y T[i]).cells ty_3_api_Ghost false := by rw [hD, Heap.gsz rfl]
    have Dk : ∀ q, q < K.n → D.get q = K.get q := fun q hq => by rw [hD, Heap.gtz (by omega), gmz]
    have Dn : D.n = K.n + 1 := by rw [hD]; simp
    rw [← hD]; clear hD
    have hDI := hKI.keep (by omega) Dk
    have hle : (F0 ++ (T.take i).map (mv x y)).length < 1000000 := by rw [List.length_append, List.length_map, List.length_take]; omega
    obtain ⟨-, v', K1, e1, K2, jj, e2, e3, e4, e5, e6⟩ := put_face hDI.sp Dx (fun e => by have := hKI.sp.f.lt e; omega) hle
    refine Tot.pure e1 ?_
    dsimp only
    refine Tot.pure (faS (p := 2) (o := 0) (off := 4)) ?_
    refine Tot.pure e2 ?_
    refine Tot.pure (incN (by omega)) ?_
    have q1 := hDI.jn; have q2 := hDI.bj; have q3 := hDI.b3
    have ne : ∀ a, a ≤ j → i2 ≠ some a := fun a ha e => by have := hDI.n2 a e; omega
    have eT : F0 ++ (T.take (i + 1)).map (mv x y) = (F0 ++ (T.take i).map (mv x y)) ++ [mv x y T[i]] := by
      rw [List.take_add_one, List.getElem?_eq_getElem hl, List.map_append, List.append_assoc]; rfl
    refine hd (i + 1) K2 v' (some jj) mm (by omega) hm ?_
    rw [eT]
    exact ⟨e3, by rw [e6 0 (by omega) (by omega) (ne 0 (by omega))]; exact hDI.h0, by rw [e6 1 (by omega) (by omega) (ne 1 (by omega))]; exact hDI.h1, by rw [e6 b (by omega) (by omega) (ne b (by omega))]; exact hDI.hb, by rw [e6 j (by omega) (by omega) (ne j (by omega))]; exact hDI.hj, hDI.b3, hDI.bj, by omega, hDI.n1, fun q e => by cases e; omega⟩
theorem round_P {n m k x y : Int} {S : List U.G3} {T F0 : List U.Tr} {vs vf : V} {i1 i2 : Option Nat} {b j : Nat} (hT : T.length < 1000) (hF : F0.length < 900000) (h : RI H n m k S T F0 vs vf i1 i2 b j rdy) :
    Tot (fun q => callA C q (yB + j) [iv x, iv y] H) fun v H' => v = .bool true ∧ ∃ vf i2, RI H' n m k S T (F0 ++ T.map (mv x y)) vs vf i1 i2 b j rdy := by
  refine sheet_spec.y2_in h.hj ?_
  refine sheet_spec.y2_tot ?_
  simp only [sheet_spec.y2_b]
  have hs : RI (H.set j bsy) n m k S T F0 vs vf i1 i2 b j bsy := h.state
  refine Tot.pure (show ld1 (.ptr (some (0, 0))) (H.set j bsy) = some (rowT T) by rw [lhz, hs.h0]; rfl) ?_
  refine Tot.pure rowG_len ?_
  exact round_l3 hT hF T.length 0 _ vf i2 _ (by omega) Big.id (by rw [List.take_zero, List.map_nil, List.append_nil]; exact hs)
end N
end Go.AM
end
section
set_option linter.unusedVariables false
set_option linter.unusedSimpArgs false
set_option linter.unusedSimpArgs false
set_option linter.unusedVariables false
set_option maxRecDepth 100000
namespace Go.AM
namespace N
open U
variable {H : Heap}
abbrev specV (n m k : Int) (S : List U.G3) (F : List U.Tr) : V := .agg [iv n, iv m, iv k, rowP S, rowT F]
theorem spec_frz {n m k e : Int} {S : List U.G3} {F : List U.Tr} {vs vf : V} {i1 i2 : Option Nat} (g1 : GG U.G3.cells 3 ty_api_Ghost H vs S i1) (g2 : GG U.Tr.cells 9 ty_3_api_Ghost H vf F i2) :
    ∃ H', frzR (.tuple [.agg [iv n, iv m, iv k, vs, vf], iv e]) H = some (.tuple [specV n m k S F, iv e], H') := by
  obtain ⟨a, h1⟩ := g1.frzV c3 cfree3 2
  obtain ⟨b, h2⟩ := g2.frzV c9 cfree 2
  have ei : ∀ (d : Nat) (x : Int), Go.AM.frzV H (d + 1) (iv x) = some (iv x, []) := fun d x => by unfold Go.AM.frzV; rfl
  have ea : Go.AM.frzV H 5 (.agg [iv n, iv m, iv k, vs, vf]) = some (specV n m k S F, [] ++ ([] ++ ([] ++ (a ++ (b ++ []))))) := by
    unfold Go.AM.frzV
    simp only [frzL, h1, h2, ei]
  refine ⟨killL (([] ++ ([] ++ ([] ++ (a ++ (b ++ []))))) ++ ([] ++ [])) H, ?_⟩
  have e : Go.AM.frzV H 6 (.tuple [.agg [iv n, iv m, iv k, vs, vf], iv e]) = some (.tuple [specV n m k S F, iv e], ([] ++ ([] ++ ([] ++ (a ++ (b ++ []))))) ++ ([] ++ [])) := by
    unfold Go.AM.frzV
    simp only [frzL, ea, ei]
  simp only [frzR, e]
theorem spec_free {n m k e : Int} {S : List U.G3} {F : List U.Tr} : (V.tuple [specV n m k S F, iv e]).free = true := by
  have h1 : (rowP S).free = true := rowG_free cfree3
  have h2 : (rowT F).free = true := rowG_free cfree
  simp [V.free, V.frees, h1, h2]
structure SI (H : Heap) (n m k : Int) (S : List U.G3) (T : List U.Tr) (vs : V) (i1 : Option Nat) : Prop where
  sp : SpA H 2 n m k S [] vs (.slice ⟨none, 0, 0, false⟩) i1 none
  h0 : H.get 0 = .cells [rowT T] ty_sl_api_Tri false
  h1 : H.get 1 = .cells z5 ty_api_Spec false
  n1 : ∀ q, i1 = some q → 3 ≤ q
theorem spec_p1 {n : Int} {m k : Nat} {S : List U.G3} {T : List U.Tr} {vs : V} {i1 : Option Nat} (hm1 : 1 ≤ m) (hm : m ≤ 64) (hk1 : 1 ≤ k) (hk : k ≤ 64) (hT : T.length < 200) (h : SI H n (m : Int) (k : Int) S T vs i1) :
    Tot (fun q => sheet_spec.p1 q (iv (m : Int)) (iv (k : Int)) (.ptr (some (0, 0))) (.ptr (some (1, 0))) (iv 0) (.ptr (some (2, 0))) H) fun v _ => v = .tuple [specV n m k S (tilesF T k (m * k)), iv 0] := by
  have hmk : m * k ≤ 4096 := Nat.mul_le_mul hm hk
  refine sheet_spec.p1_tot ?_
  simp only [sheet_spec.p1_b]
  refine Tot.bind tiles_P ?_
  rintro v K ⟨rfl, hK⟩
  dsimp only
  have Kn : K.n = H.n + 2 := by rw [hK]; simp
  have Kb0 : K.get H.n = .cells [iv (m : Int)] ty_int false := by rw [hK, Heap.gqz (by simp), Heap.gpz rfl]
  have Kb : K.get (H.n + 1) = .cells [iv (k : Int)] ty_int false := by rw [hK, Heap.gpz (by simp)]
  have Kk : ∀ q, q < H.n → K.get q = H.get q := fun q hq => by rw [hK, Heap.gqz (by simp; omega), Heap.gqz (by omega)]
  clear hK
  have l2 := h.sp.lt
  obtain ⟨D, hD⟩ : ∃ D, D = K.push rdy := ⟨_, rfl⟩
  have Dn : D.n = K.n + 1 := by rw [hD]; simp
  have Dj : D.get K.n = rdy := by rw [hD, Heap.gpz rfl]
  have Dk : ∀ q, q < K.n → D.get q = K.get q := fun q hq => by rw [hD, Heap.gqz (by omega)]
  have hR : RI D n m k S T [] vs (.slice ⟨none, 0, 0, false⟩) i1 none (H.n + 1) K.n rdy := by
    refine ⟨h.sp.keep (by omega) fun q hq => by rw [Dk q (by omega), Kk q hq], by rw [Dk 0 (by omega), Kk 0 (by omega)]; exact h.h0, by rw [Dk 1 (by omega), Kk 1 (by omega)]; exact h.h1, by rw [Dk _ (by omega)]; exact Kb, Dj, by omega, by omega, by omega, fun q e => ?_, fun q e => by cases e⟩
    have := h.sp.s.lt e; have := h.n1 q e
    exact ⟨by omega, by omega, by omega, by omega⟩
  refine rg_tot (g := 23) (fs := []) (Q' := fun v H' => v = .tuple [] ∧ ∃ vf i2, RI H' n m k S T (tilesF T k (m * k)) vs vf i1 i2 (H.n + 1) K.n rdy) (by decide) rfl ?_ ?_
  · rw [← hD]
    refine Tot.eq (c' := fun q => f_sheet_tiles_1 q [.yld K.n, .ptr (some (H.n, 0)), .ptr (some (H.n + 1, 0))] D) (fun q => by unfold f_sheet_tiles_1; rfl) ?_
    refine sheet_tiles_1_tot ?_
    simp only [sheet_tiles_1_b]
    refine Tot.pure (show ld1 (.ptr (some (H.n, 0))) D = some (iv (m : Int)) by rw [lhz, Dk _ (by omega), Kb0]; rfl) ?_
    refine tiles_l0 (I := fun q H' => ∃ vf i2, RI H' n m k S T (tilesF T k q) vs vf i1 i2 (H.n + 1) K.n rdy) hk1 (by omega) (by omega) ?_ ?_ m 0 D _ (by omega) Big.id ?_
    · rintro q H' ⟨vf, i2, hq⟩
      rw [lhz, hq.hb]; rfl
    · rintro x y H' hx hy ⟨vf, i2, hq⟩
      have hj : x * k + y ≤ 4096 := by
        have h2 : (x + 1) * k ≤ m * k := Nat.mul_le_mul_right _ (by omega)
        rw [Nat.add_mul, Nat.one_mul] at h2; omega
      have e1 : (x * k + y) / k = x := by rw [Nat.add_comm, Nat.add_mul_div_right _ _ (by omega), Nat.div_eq_of_lt hy, Nat.zero_add]
      have e2 : (x * k + y) % k = y := by rw [Nat.add_comm, Nat.add_mul_mod_self_right, Nat.mod_eq_of_lt hy]
      have hlen : (tilesF T k (x * k + y)).length < 900000 := by
        rw [tiles_len]
        have : (x * k + y) * T.length ≤ 4096 * 200 := Nat.mul_le_mul hj (by omega)
        omega
      refine Tot.mono (round_P (x := (x : Int)) (y := (y : Int)) (by omega) hlen hq) ?_
      rintro v H2 ⟨rfl, vf2, i3, h3⟩
      refine ⟨rfl, vf2, i3, ?_⟩
      rw [tiles_succ, e1, e2]; exact h3
    · refine ⟨.slice ⟨none, 0, 0, false⟩, none, ?_⟩
      rw [Nat.zero_mul]; exact hR
  · rintro v G ⟨rfl, vf, i2, hG⟩
    dsimp only
    have q1 := hG.jn; have q2 := hG.bj; have q3 := hG.b3
    refine Tot.eq (c' := fun q => bnd (ldN 5 (.ptr (some (2, 0))) (G.set K.n .none)) fun t74 => bnd (stA 5 (.ptr (some (1, 0))) t74 (G.set K.n .none)) fun H6 => bnd (ldN 5 (.ptr (some (1, 0))) H6) fun t7 => frzR (.tuple [t7, iv 0]) H6) (fun q => by simp only [endA, hG.hj]) ?_
    have sp : SpA (G.set K.n .none) 2 n m k S (tilesF T k (m * k)) vs vf i1 i2 :=
      hG.sp.keepX (by simp) (j := K.n) (by omega) (fun e => (hG.n1 _ e).1 rfl) (fun e => by have := hG.n2 _ e; omega) fun q hq hne => Heap.gtz hne
    have s1 : (G.set K.n .none).get 1 = .cells z5 ty_api_Spec false := by rw [Heap.gtz (by omega)]; exact hG.h1
    refine Tot.pure (show ldN 5 (.ptr (some (2, 0))) (G.set K.n .none) = some (.agg [iv n, iv m, iv k, vs, vf]) by rw [lgz, sp.o]; rfl) ?_
    have o1 : vs.one = true := by rcases sp.s with ⟨-, -, z, rfl⟩ | ⟨jj, -, rfl, -⟩ <;> rfl
    have o2 : vf.one = true := by rcases sp.f with ⟨-, -, z, rfl⟩ | ⟨jj, -, rfl, -⟩ <;> rfl
    refine Tot.pure (show stA 5 (.ptr (some (1, 0))) (.agg [iv n, iv m, iv k, vs, vf]) (G.set K.n .none) = some ((G.set K.n .none).set 1 (.cells [iv n, iv m, iv k, vs, vf] ty_api_Spec false)) by
      simp only [stA, s1]
      rw [if_pos ⟨rfl, by simp, by simp [V.cells, o1, o2]⟩]; rfl) ?_
    refine Tot.pure (show ldN 5 (.ptr (some (1, 0))) ((G.set K.n .none).set 1 (.cells [iv n, iv m, iv k, vs, vf] ty_api_Spec false)) = some (.agg [iv n, iv m, iv k, vs, vf]) by rw [lgz, Heap.gsz rfl]; rfl) ?_
    have n1 : i1 ≠ some 1 := fun e => by have := (hG.n1 _ e).2.2.1; omega
    have n2 : i2 ≠ some 1 := fun e => by have := hG.n2 _ e; omega
    obtain ⟨H', e⟩ := spec_frz (n := n) (m := m) (k := k) (e := 0) (sp.s.keep (H' := (G.set K.n .none).set 1 (.cells [iv n, iv m, iv k, vs, vf] ty_api_Spec false)) (by simp) fun q hq e => Heap.gtz fun e2 => n1 (by rw [e, e2])) (sp.f.keep (by simp) fun q hq e => Heap.gtz fun e2 => n2 (by rw [e, e2]))
    exact Tot.frz e rfl
theorem spec_l0 {n : Int} {m k : Nat} {L : List U.G3} {T : List U.Tr} (hm1 : 1 ≤ m) (hm : m ≤ 64) (hk1 : 1 ≤ k) (hk : k ≤ 64) (hT : T.length < 200) (hL : L.length < 1000) :
    ∀ (d i : Nat) (H : Heap) (vs : V) (i1 : Option Nat) (mm : Nat → Nat), i + d = L.length → Big mm → SI H n (m : Int) (k : Int) (L.take i) T vs i1 →
      Tot (fun q => sheet_spec.l0 q (mm q) (iv (m : Int)) (iv (k : Int)) (.ptr (some (0, 0))) (.ptr (some (1, 0))) (iv 0) (.ptr (some (2, 0))) (rowP L) (iv (L.length : Int)) (iv (i : Int)) H) fun v _ => v = .tuple [specV n m k L (tilesF T k (m * k)), iv 0] := by
  intro d
  induction d with
  | zero =>
    intro i H vs i1 mm hi hmm h
    refine sheet_spec.l0_tot hmm fun mm hmm => ?_
    simp only [sheet_spec.l0_b]
    refine Tot.pure lssN ?_
    rw [decide_eq_false (by omega)]
    refine Tot.pure bF ?_
    simp only [Bool.false_eq_true, if_false]
    rw [List.take_of_length_le (by omega)] at h
    exact spec_p1 hm1 hm hk1 hk hT h
  | succ d hd =>
    intro i H vs i1 mm hi hmm h
    have hl : i < L.length := by omega
    refine sheet_spec.l0_tot hmm fun mm hmm => ?_
    simp only [sheet_spec.l0_b]
    refine Tot.pure lssN ?_
    rw [decide_eq_true (by omega)]
    refine Tot.pure bT ?_
    simp only [if_true]
    refine Tot.pure (rowG_idx hl) ?_
    refine Tot.pure (rowG_ld c3 hl) ?_
    refine Tot.pure (show stA 3 (.ptr (some (H.n, 0))) (.agg L[i].cells) (H.push (.cells z3 ty_api_Place false)) = some ((H.push (.cells z3 ty_api_Place false)).set H.n (.cells L[i].cells ty_api_Place false)) by simp only [stA, Heap.gpz rfl]; rfl) ?_
    obtain ⟨K, hK⟩ : ∃ K, K = (H.push (.cells z3 ty_api_Place false)).set H.n (.cells L[i].cells ty_api_Place false) := ⟨_, rfl⟩
    have Kx : K.get H.n = .cells L[i].cells ty_api_Place false := by rw [hK, Heap.gsz rfl]
    have Kk : ∀ q, q < H.n → K.get q = H.get q := fun q hq => by rw [hK, Heap.gtz (by omega), Heap.gqz (by omega)]
    have Kn : K.n = H.n + 1 := by rw [hK]; simp
    rw [← hK]; clear hK
    have l2 := h.sp.lt
    have hKI : SpA K 2 n m k (L.take i) [] vs (.slice ⟨none, 0, 0, false⟩) i1 none := h.sp.keep (by omega) Kk
    refine Tot.pure (faS (p := 2) (o := 0) (off := 3)) ?_
    refine Tot.pure (show ld1 (.ptr (some (2, 0 + 3))) K = some vs by rw [lhz, hKI.o]; rfl) ?_
    refine Tot.pure (faS (p := H.n) (o := 0) (off := 0)) ?_
    refine Tot.pure (show ld1 (.ptr (some (H.n, 0 + 0))) K = some (iv L[i].a) by rw [lhz, Kx]; rfl) ?_
    refine Tot.pure (faS (p := H.n) (o := 0) (off := 1)) ?_
    refine Tot.pure (faS (p := H.n) (o := 0 + 1) (off := 0)) ?_
    refine Tot.pure (show ld1 (.ptr (some (H.n, 0 + 1 + 0))) K = some (iv L[i].b) by rw [lhz, Kx]; rfl) ?_
    refine Tot.pure (faS (p := H.n) (o := 0) (off := 1)) ?_
    refine Tot.pure (faS (p := H.n) (o := 0 + 1) (off := 1)) ?_
    refine Tot.pure (show ld1 (.ptr (some (H.n, 0 + 1 + 1))) K = some (iv L[i].c) by rw [lhz, Kx]; rfl) ?_
    refine Tot.pure (show flA [(0, 1), (1, 1), (2, 1)] z3 [(0, iv L[i].a), (1, iv L[i].b), (2, iv L[i].c)] = some (.agg L[i].cells) from rfl) ?_
    refine Tot.pure (show bSl 3 ty_api_Ghost z3 1 [(0, .agg L[i].cells)] = some (.cells L[i].cells ty_api_Ghost false) from rfl) ?_
    obtain ⟨D, hD⟩ : ∃ D, D = K.push (.cells L[i].cells ty_api_Ghost false) := ⟨_, rfl⟩
    have Dx : D.get K.n = .cells L[i].cells ty_api_Ghost false := by rw [hD, Heap.gpz rfl]
    have Dk : ∀ q, q < K.n → D.get q = K.get q := fun q hq => by rw [hD, Heap.gqz (by omega)]
    have Dn : D.n = K.n + 1 := by rw [hD]; simp
    rw [← hD]; clear hD
    have hDI := hKI.keep (H' := D) (by omega) Dk
    obtain ⟨-, v', K1, e1, K2, jj, e2, e3, e4, e5, e6⟩ := put_site hDI Dx (fun e => by have := hKI.s.lt e; omega) (by rw [List.length_take]; omega)
    refine Tot.pure e1 ?_
    dsimp only
    refine Tot.pure (faS (p := 2) (o := 0) (off := 3)) ?_
    refine Tot.pure e2 ?_
    refine Tot.pure (incN (by omega)) ?_
    have ne : ∀ a, a ≤ 2 → i1 ≠ some a := fun a ha e => by have := h.n1 a e; omega
    refine hd (i + 1) K2 v' (some jj) mm (by omega) hmm ?_
    have eT : L.take (i + 1) = L.take i ++ [L[i]] := by rw [List.take_add_one, List.getElem?_eq_getElem hl]; rfl
    rw [eT]
    exact ⟨e3, by rw [e6 0 (by omega) (by omega) (ne 0 (by omega)), Dk 0 (by omega), Kk 0 (by omega)]; exact h.h0, by rw [e6 1 (by omega) (by omega) (ne 1 (by omega)), Dk 1 (by omega), Kk 1 (by omega)]; exact h.h1, fun q e => by cases e; omega⟩
theorem row_fros {n m k : Int} {L : List U.G3} {T : List U.Tr} : List.all [rowP L, rowT T, iv n, iv m, iv k] V.fro = true := by
  simp only [List.all_cons, rowG_fro]; rfl
theorem row_frees {n m k : Int} {L : List U.G3} {T : List U.Tr} : V.frees [rowP L, rowT T, iv n, iv m, iv k] = true := by
  have h1 : (rowP L).free = true := rowG_free cfree3
  have h2 : (rowT T).free = true := rowG_free cfree
  simp [V.free, V.frees, h1, h2]
theorem sheet_spec_P {n : Int} {m k : Nat} {L : List U.G3} {T : List U.Tr} (hm1 : 1 ≤ m) (hm : m ≤ 64) (hk1 : 1 ≤ k) (hk : k ≤ 64) (hT : T.length < 200) (hL : L.length < 1000) :
    Gv (fun q => f_sheet_spec q [rowP L, rowT T, iv n, iv (m : Int), iv (k : Int)] H) (.tuple [specV n m k L (tilesF T k (m * k)), iv 0]) H := by
  refine sheet_spec_tot row_fros row_frees ?_
  simp only [sheet_spec_b]
  have b1 : boxA ty_sl_api_Tri (rowT T) = some (.cells [rowT T] ty_sl_api_Tri false) := by unfold boxA rowT rowG; split <;> rfl
  refine Tot.pure b1 ?_
  refine Gv.bind good_P ?_
  rw [decide_eq_true (by omega)]
  dsimp only
  refine Tot.pure (show unA .not (.bool true) = some (.bool false) from rfl) ?_
  refine Tot.pure bF ?_
  simp only [Bool.false_eq_true, if_false]
  refine Gv.bind good_P ?_
  rw [decide_eq_true (by omega)]
  dsimp only
  refine Tot.pure (show unA .not (.bool true) = some (.bool false) from rfl) ?_
  refine Tot.pure bF ?_
  simp only [Bool.false_eq_true, if_false]
  refine Tot.pure (show flA [(0, 1), (1, 1), (2, 1), (3, 1), (4, 1)] z5 [(0, iv n), (1, iv (m : Int)), (2, iv (k : Int))] = some (.agg [iv n, iv m, iv k, .slice ⟨none, 0, 0, false⟩, .slice ⟨none, 0, 0, false⟩]) from rfl) ?_
  obtain ⟨K, hK⟩ : ∃ K, K = (E0.push (.cells [rowT T] ty_sl_api_Tri false)).push (.cells z5 ty_api_Spec false) := ⟨_, rfl⟩
  have Kn : K.n = 2 := by rw [hK]; rfl
  have K0 : K.get 0 = .cells [rowT T] ty_sl_api_Tri false := by rw [hK, Heap.gqz (by simp), Heap.gpz rfl]
  have K1 : K.get 1 = .cells z5 ty_api_Spec false := by rw [hK, Heap.gpz (by simp)]
  rw [← hK]
  refine Tot.pure (show stA 5 (.ptr (some (K.n, 0))) (.agg [iv n, iv m, iv k, .slice ⟨none, 0, 0, false⟩, .slice ⟨none, 0, 0, false⟩]) (K.push (.cells z5 ty_api_Spec false)) = some ((K.push (.cells z5 ty_api_Spec false)).set K.n (.cells [iv n, iv m, iv k, .slice ⟨none, 0, 0, false⟩, .slice ⟨none, 0, 0, false⟩] ty_api_Spec false)) by simp only [stA, Heap.gpz rfl]; rfl) ?_
  refine Tot.pure rowG_len ?_
  rw [Kn]
  refine Tot.mono (spec_l0 (n := n) (T := T) hm1 hm hk1 hk hT hL L.length 0 _ (.slice ⟨none, 0, 0, false⟩) none _ (by omega) Big.id ⟨⟨Heap.gsz rfl, by simp [Kn], GG.nil, GG.nil, by simp, by simp, by simp⟩, by rw [Heap.gtz (by omega), Heap.gqz (by omega)]; exact K0, by rw [Heap.gtz (by omega), Heap.gqz (by omega)]; exact K1, by simp⟩) ?_
  rintro v _ rfl
  exact ⟨spec_free, trivial, rfl⟩
theorem sheet_spec_bad {n m k : Int} {L : List U.G3} {T : List U.Tr} (h : ¬ ((1 ≤ m ∧ m ≤ 64) ∧ 1 ≤ k ∧ k ≤ 64)) :
    Gv (fun q => f_sheet_spec q [rowP L, rowT T, iv n, iv m, iv k] H) (.tuple [specV 0 0 0 [] [], iv 16]) H := by
  refine sheet_spec_tot row_fros row_frees ?_
  simp only [sheet_spec_b]
  have b1 : boxA ty_sl_api_Tri (rowT T) = some (.cells [rowT T] ty_sl_api_Tri false) := by unfold boxA rowT rowG; split <;> rfl
  refine Tot.pure b1 ?_
  refine Gv.bind good_P ?_
  obtain ⟨K, hK⟩ : ∃ K, K = (E0.push (.cells [rowT T] ty_sl_api_Tri false)).push (.cells z5 ty_api_Spec false) := ⟨_, rfl⟩
  have K1 : K.get 1 = .cells z5 ty_api_Spec false := by rw [hK, Heap.gpz (by simp)]
  have K1n : (E0.push (.cells [rowT T] ty_sl_api_Tri false)).n = 1 := rfl
  have fin : Tot (fun _ => bnd (flA [(0, 1), (1, 1), (2, 1), (3, 1), (4, 1)] z5 []) fun t27 => bnd (stA 5 (.ptr (some (1, 0))) t27 K) fun H6 => bnd (ldN 5 (.ptr (some (1, 0))) H6) fun t7 => frzR (.tuple [t7, iv 16]) H6) fun v _ => v.free = true ∧ True ∧ v = .tuple [specV 0 0 0 [] [], iv 16] := by
    refine Tot.pure (show flA [(0, 1), (1, 1), (2, 1), (3, 1), (4, 1)] z5 [] = some (.agg z5) from rfl) ?_
    refine Tot.pure (show stA 5 (.ptr (some (1, 0))) (.agg z5) K = some (K.set 1 (.cells z5 ty_api_Spec false)) by simp only [stA, K1]; rfl) ?_
    refine Tot.pure (show ldN 5 (.ptr (some (1, 0))) (K.set 1 (.cells z5 ty_api_Spec false)) = some (.agg z5) by rw [lgz, Heap.gsz rfl]; rfl) ?_
    obtain ⟨H', e⟩ := spec_frz (n := 0) (m := 0) (k := 0) (e := 16) (H := K.set 1 (.cells z5 ty_api_Spec false)) (GG.nil (z' := 0)) (GG.nil (z' := 0))
    exact Tot.frz e ⟨spec_free, trivial, rfl⟩
  by_cases hm : 1 ≤ m ∧ m ≤ 64
  · rw [decide_eq_true hm]
    dsimp only
    refine Tot.pure (show unA .not (.bool true) = some (.bool false) from rfl) ?_
    refine Tot.pure bF ?_
    simp only [Bool.false_eq_true, if_false]
    refine Gv.bind good_P ?_
    rw [decide_eq_false fun hk => h ⟨hm, hk⟩]
    dsimp only
    refine Tot.pure (show unA .not (.bool false) = some (.bool true) from rfl) ?_
    refine Tot.pure bT ?_
    simp only [if_true]
    rw [← hK, K1n]
    exact fin
  · rw [decide_eq_false hm]
    dsimp only
    refine Tot.pure (show unA .not (.bool false) = some (.bool true) from rfl) ?_
    refine Tot.pure bT ?_
    simp only [if_true]
    rw [← hK, K1n]
    exact fin
end N
end Go.AM
end
section
set_option linter.unusedVariables false
set_option linter.unusedSimpArgs false
set_option linter.unusedSimpArgs false
set_option linter.unusedVariables false
set_option maxRecDepth 100000
namespace Go.AM
theorem rowG_at {α : Type} {f : α → List V} {z : Nat} (hf : ∀ a, (f a).length = z) {L : List α} {i : Nat} (h : i < L.length) : ∃ R, idxS z (rowG f z L) (.int .i64 (i : Int)) = some (.lptr (f L[i] ++ R)) :=
  ⟨(L.drop (i + 1)).flatMap f, by rw [rowG_idx h, flat_drop hf, List.drop_eq_getElem_cons h, List.flatMap_cons]⟩
namespace N
open U
variable {H : Heap}
structure RJ (H : Heap) (n m k : Int) (S : List U.G3) (F : List U.Tr) (vs vf : V) (i1 i2 : Option Nat) : Prop where
  sp : SpA H 1 n m k S F vs vf i1 i2
  h0 : H.get 0 = .cells z5 ty_api_Spec false
  n1 : ∀ q, i1 = some q → 2 ≤ q
  n2 : ∀ q, i2 = some q → 2 ≤ q
theorem RJ.keep {H' : Heap} {n m k : Int} {S : List U.G3} {F : List U.Tr} {vs vf : V} {i1 i2 : Option Nat} (h : RJ H n m k S F vs vf i1 i2) (hn : H.n ≤ H'.n) (hk : ∀ q, q < H.n → H'.get q = H.get q) : RJ H' n m k S F vs vf i1 i2 := by
  have := h.sp.lt
  exact ⟨h.sp.keep hn hk, by rw [hk 0 (by omega)]; exact h.h0, h.n1, h.n2⟩
theorem quoN {a b : Nat} (hb : 1 ≤ b) (ha : a < 1000000) (hb2 : b < 1000000) : arA .quo (iv (a : Int)) (iv (b : Int)) = some (iv ((a / b : Nat) : Int)) := by
  have h1 : a / b ≤ a := Nat.div_le_self _ _
  have h2 : ((a : Int) / (b : Int)) = ((a / b : Nat) : Int) := by simp
  simp (disch := omega) []
  rw [h2]
  generalize a / b = c at h1
  exact wrap_small (by omega) (by omega)
theorem remN {a b : Nat} (hb : 1 ≤ b) (ha : a < 1000000) (hb2 : b < 1000000) : arA .rem (iv (a : Int)) (iv (b : Int)) = some (iv ((a % b : Nat) : Int)) := by
  have : a % b < b := Nat.mod_lt _ (by omega)
  simp (disch := omega) []
theorem mulN {a b : Nat} (h : a * b < 4000000000) : arA .mul (iv (a : Int)) (iv (b : Int)) = some (iv ((a * b : Nat) : Int)) := by
  simp (disch := omega) []
theorem ref_l4 {n m : Int} {k q x y : Nat} {S : List U.G3} {F : List U.Tr} {T : List U.Tr} {vs vf : V} {i1 i2 : Option Nat} {m0 m1 m2 : Nat → Nat} {i c : Nat} {v3 : V} {Q : V → Heap → Prop} (hT : T.length < 1000) (hF : F.length < 900000) (hk1 : 1 ≤ k) (hk : k < 1000) (hq : q < 100000) (hx : q / k = x) (hy : q % k = y) (hl : i < T.length)
    (h : RJ H n m (k : Int) S F vs vf i1 i2) (hc : H.get c = .cells z9 ty_3_api_Ghost false) (c2 : 2 ≤ c) (cn : c < H.n) (nc1 : i1 ≠ some c) (nc2 : i2 ≠ some c) (hm2 : Big m2)
    (hk3 : ∀ H' vf i2, RJ H' n m (k : Int) S (F ++ [mv (x : Int) (y : Int) T[i]]) vs vf i1 i2 → Tot (fun n => ref25_Spec.l3 n (m0 n) (m1 n) (rowT T) v3 (iv (k : Int)) (.ptr (some (0, 0))) (.ptr (some (1, 0))) (iv (q : Int)) (iv ((i + 1 : Nat) : Int)) H') Q) :
    Tot (fun n => ref25_Spec.l4 n (m0 n) (m1 n) (m2 n) (rowT T) v3 (iv (k : Int)) (.ptr (some (0, 0))) (.ptr (some (1, 0))) (iv (q : Int)) (iv (i : Int)) (.ptr (some (c, 0))) (iv 0) H) Q := by
  obtain ⟨R, hR⟩ := rowG_at c9 hl
  have e1 : arA .quo (iv (q : Int)) (iv (k : Int)) = some (iv (x : Int)) := by rw [quoN hk1 (by omega) (by omega), hx]
  have e2 : arA .rem (iv (q : Int)) (iv (k : Int)) = some (iv (y : Int)) := by rw [remN hk1 (by omega) (by omega), hy]
  refine ref25_Spec.l4_tot hm2 fun m2 hm2 => ?_
  simp only [ref25_Spec.l4_b]
  refine Tot.pure (show arA .lss (iv 0) (iv 3) = some (.bool true) from rfl) ?_
  refine Tot.pure bT ?_
  simp only [if_true]
  refine Tot.pure hR ?_
  refine Tot.pure (show faA 0 (.lptr (T[i].cells ++ R)) = some (.lptr (T[i].cells ++ R)) from rfl) ?_
  refine Tot.pure (show idxP 3 1 (.lptr (T[i].cells ++ R)) (iv 0) = some (.lptr (T[i].cells.drop 0 ++ R)) from rfl) ?_
  refine Tot.pure (show ld1 (.lptr (T[i].cells.drop 0 ++ R)) (H.more 0) = some (iv T[i].v0) from rfl) ?_
  refine Tot.pure hR ?_
  refine Tot.pure (show faA 3 (.lptr (T[i].cells ++ R)) = some (.lptr (T[i].cells.drop 3 ++ R)) from rfl) ?_
  refine Tot.pure (show idxP 3 2 (.lptr (T[i].cells.drop 3 ++ R)) (iv 0) = some (.lptr (T[i].cells.drop 3 ++ R)) from rfl) ?_
  refine Tot.pure (show faA 0 (.lptr (T[i].cells.drop 3 ++ R)) = some (.lptr (T[i].cells.drop 3 ++ R)) from rfl) ?_
  refine Tot.pure (show ld1 (.lptr (T[i].cells.drop 3 ++ R)) (H.more 0) = some (iv T[i].x0) from rfl) ?_
  refine Tot.pure e1 ?_
  refine Tot.pure (show arA .add (iv T[i].x0) (iv (x : Int)) = some (iv (wa T[i].x0 (x : Int))) from rfl) ?_
  refine Tot.pure hR ?_
  refine Tot.pure (show faA 3 (.lptr (T[i].cells ++ R)) = some (.lptr (T[i].cells.drop 3 ++ R)) from rfl) ?_
  refine Tot.pure (show idxP 3 2 (.lptr (T[i].cells.drop 3 ++ R)) (iv 0) = some (.lptr (T[i].cells.drop 3 ++ R)) from rfl) ?_
  refine Tot.pure (show faA 1 (.lptr (T[i].cells.drop 3 ++ R)) = some (.lptr (T[i].cells.drop 4 ++ R)) from rfl) ?_
  refine Tot.pure (show ld1 (.lptr (T[i].cells.drop 4 ++ R)) (H.more 0) = some (iv T[i].y0) from rfl) ?_
  refine Tot.pure e2 ?_
  refine Tot.pure (show arA .add (iv T[i].y0) (iv (y : Int)) = some (iv (wa T[i].y0 (y : Int))) from rfl) ?_
  refine Tot.pure (show flA [(0, 1), (1, 1), (2, 1)] z3 [(0, iv T[i].v0), (1, iv (wa T[i].x0 (x : Int))), (2, iv (wa T[i].y0 (y : Int)))] = some (.agg [iv T[i].v0, iv (wa T[i].x0 (x : Int)), iv (wa T[i].y0 (y : Int))]) from rfl) ?_
  refine Tot.pure (show idxP 3 3 (.ptr (some (c, 0))) (iv 0) = some (.ptr (some (c, 0))) from rfl) ?_
  refine Tot.pure (show stA 3 (.ptr (some (c, 0))) (.agg [iv T[i].v0, iv (wa T[i].x0 (x : Int)), iv (wa T[i].y0 (y : Int))]) (H.more 0) = some ((H.more 0).set c (.cells [iv T[i].v0, iv (wa T[i].x0 (x : Int)), iv (wa T[i].y0 (y : Int)), iv 0, iv 0, iv 0, iv 0, iv 0, iv 0] ty_3_api_Ghost false)) by simp only [stA, gmz, hc]; rfl) ?_
  obtain ⟨K0, hK0⟩ : ∃ K, K = (H.more 0).set c (.cells [iv T[i].v0, iv (wa T[i].x0 (x : Int)), iv (wa T[i].y0 (y : Int)), iv 0, iv 0, iv 0, iv 0, iv 0, iv 0] ty_3_api_Ghost false) := ⟨_, rfl⟩
  have c0_ : K0.get c = .cells [iv T[i].v0, iv (wa T[i].x0 (x : Int)), iv (wa T[i].y0 (y : Int)), iv 0, iv 0, iv 0, iv 0, iv 0, iv 0] ty_3_api_Ghost false := by rw [hK0, Heap.gsz rfl]
  have k0_ : ∀ q, q ≠ c → K0.get q = H.get q := fun q hq => by rw [hK0, Heap.gtz hq, gmz]
  have n0_ : K0.n = H.n := by rw [hK0]; simp
  rw [← hK0]; clear hK0
  refine Tot.pure (show arA .add (iv 0) (iv 1) = some (iv 1) from rfl) ?_
  refine ref25_Spec.l4_tot hm2 fun m2 hm2 => ?_
  simp only [ref25_Spec.l4_b]
  refine Tot.pure (show arA .lss (iv 1) (iv 3) = some (.bool true) from rfl) ?_
  refine Tot.pure bT ?_
  simp only [if_true]
  refine Tot.pure hR ?_
  refine Tot.pure (show faA 0 (.lptr (T[i].cells ++ R)) = some (.lptr (T[i].cells ++ R)) from rfl) ?_
  refine Tot.pure (show idxP 3 1 (.lptr (T[i].cells ++ R)) (iv 1) = some (.lptr (T[i].cells.drop 1 ++ R)) from rfl) ?_
  refine Tot.pure (show ld1 (.lptr (T[i].cells.drop 1 ++ R)) (K0.more 0) = some (iv T[i].v1) from rfl) ?_
  refine Tot.pure hR ?_
  refine Tot.pure (show faA 3 (.lptr (T[i].cells ++ R)) = some (.lptr (T[i].cells.drop 3 ++ R)) from rfl) ?_
  refine Tot.pure (show idxP 3 2 (.lptr (T[i].cells.drop 3 ++ R)) (iv 1) = some (.lptr (T[i].cells.drop 5 ++ R)) from rfl) ?_
  refine Tot.pure (show faA 0 (.lptr (T[i].cells.drop 5 ++ R)) = some (.lptr (T[i].cells.drop 5 ++ R)) from rfl) ?_
  refine Tot.pure (show ld1 (.lptr (T[i].cells.drop 5 ++ R)) (K0.more 0) = some (iv T[i].x1) from rfl) ?_
  refine Tot.pure e1 ?_
  refine Tot.pure (show arA .add (iv T[i].x1) (iv (x : Int)) = some (iv (wa T[i].x1 (x : Int))) from rfl) ?_
  refine Tot.pure hR ?_
  refine Tot.pure (show faA 3 (.lptr (T[i].cells ++ R)) = some (.lptr (T[i].cells.drop 3 ++ R)) from rfl) ?_
  refine Tot.pure (show idxP 3 2 (.lptr (T[i].cells.drop 3 ++ R)) (iv 1) = some (.lptr (T[i].cells.drop 5 ++ R)) from rfl) ?_
  refine Tot.pure (show faA 1 (.lptr (T[i].cells.drop 5 ++ R)) = some (.lptr (T[i].cells.drop 6 ++ R)) from rfl) ?_
  refine Tot.pure (show ld1 (.lptr (T[i].cells.drop 6 ++ R)) (K0.more 0) = some (iv T[i].y1) from rfl) ?_
  refine Tot.pure e2 ?_
  refine Tot.pure (show arA .add (iv T[i].y1) (iv (y : Int)) = some (iv (wa T[i].y1 (y : Int))) from rfl) ?_
  refine Tot.pure (show flA [(0, 1), (1, 1), (2, 1)] z3 [(0, iv T[i].v1), (1, iv (wa T[i].x1 (x : Int))), (2, iv (wa T[i].y1 (y : Int)))] = some (.agg [iv T[i].v1, iv (wa T[i].x1 (x : Int)), iv (wa T[i].y1 (y : Int))]) from rfl) ?_
  refine Tot.pure (show idxP 3 3 (.ptr (some (c, 0))) (iv 1) = some (.ptr (some (c, 3))) from rfl) ?_
  refine Tot.pure (show stA 3 (.ptr (some (c, 3))) (.agg [iv T[i].v1, iv (wa T[i].x1 (x : Int)), iv (wa T[i].y1 (y : Int))]) (K0.more 0) = some ((K0.more 0).set c (.cells [iv T[i].v0, iv (wa T[i].x0 (x : Int)), iv (wa T[i].y0 (y : Int)), iv T[i].v1, iv (wa T[i].x1 (x : Int)), iv (wa T[i].y1 (y : Int)), iv 0, iv 0, iv 0] ty_3_api_Ghost false)) by simp only [stA, gmz, c0_]; rfl) ?_
  obtain ⟨K1, hK1⟩ : ∃ K, K = (K0.more 0).set c (.cells [iv T[i].v0, iv (wa T[i].x0 (x : Int)), iv (wa T[i].y0 (y : Int)), iv T[i].v1, iv (wa T[i].x1 (x : Int)), iv (wa T[i].y1 (y : Int)), iv 0, iv 0, iv 0] ty_3_api_Ghost false) := ⟨_, rfl⟩
  have c1_ : K1.get c = .cells [iv T[i].v0, iv (wa T[i].x0 (x : Int)), iv (wa T[i].y0 (y : Int)), iv T[i].v1, iv (wa T[i].x1 (x : Int)), iv (wa T[i].y1 (y : Int)), iv 0, iv 0, iv 0] ty_3_api_Ghost false := by rw [hK1, Heap.gsz rfl]
  have k1_ : ∀ q, q ≠ c → K1.get q = H.get q := fun q hq => by rw [hK1, Heap.gtz hq, gmz]; exact k0_ q hq
  have n1_ : K1.n = H.n := by rw [hK1]; simp; exact n0_
  rw [← hK1]; clear hK1
  refine Tot.pure (show arA .add (iv 1) (iv 1) = some (iv 2) from rfl) ?_
  refine ref25_Spec.l4_tot hm2 fun m2 hm2 => ?_
  simp only [ref25_Spec.l4_b]
  refine Tot.pure (show arA .lss (iv 2) (iv 3) = some (.bool true) from rfl) ?_
  refine Tot.pure bT ?_
  simp only [if_true]
  refine Tot.pure hR ?_
  refine Tot.pure (show faA 0 (.lptr (T[i].cells ++ R)) = some (.lptr (T[i].cells ++ R)) from rfl) ?_
  refine Tot.pure (show idxP 3 1 (.lptr (T[i].cells ++ R)) (iv 2) = some (.lptr (T[i].cells.drop 2 ++ R)) from rfl) ?_
  refine Tot.pure (show ld1 (.lptr (T[i].cells.drop 2 ++ R)) (K1.more 0) = some (iv T[i].v2) from rfl) ?_
  refine Tot.pure hR ?_
  refine Tot.pure (show faA 3 (.lptr (T[i].cells ++ R)) = some (.lptr (T[i].cells.drop 3 ++ R)) from rfl) ?_
  refine Tot.pure (show idxP 3 2 (.lptr (T[i].cells.drop 3 ++ R)) (iv 2) = some (.lptr (T[i].cells.drop 7 ++ R)) from rfl) ?_
  refine Tot.pure (show faA 0 (.lptr (T[i].cells.drop 7 ++ R)) = some (.lptr (T[i].cells.drop 7 ++ R)) from rfl) ?_
  refine Tot.pure (show ld1 (.lptr (T[i].cells.drop 7 ++ R)) (K1.more 0) = some (iv T[i].x2) from rfl) ?_
  refine Tot.pure e1 ?_
  refine Tot.pure (show arA .add (iv T[i].x2) (iv (x : Int)) = some (iv (wa T[i].x2 (x : Int))) from rfl) ?_
  refine Tot.pure hR ?_
  refine Tot.pure (show faA 3 (.lptr (T[i].cells ++ R)) = some (.lptr (T[i].cells.drop 3 ++ R)) from rfl) ?_
  refine Tot.pure (show idxP 3 2 (.lptr (T[i].cells.drop 3 ++ R)) (iv 2) = some (.lptr (T[i].cells.drop 7 ++ R)) from rfl) ?_
  refine Tot.pure (show faA 1 (.lptr (T[i].cells.drop 7 ++ R)) = some (.lptr (T[i].cells.drop 8 ++ R)) from rfl) ?_
  refine Tot.pure (show ld1 (.lptr (T[i].cells.drop 8 ++ R)) (K1.more 0) = some (iv T[i].y2) from rfl) ?_
  refine Tot.pure e2 ?_
  refine Tot.pure (show arA .add (iv T[i].y2) (iv (y : Int)) = some (iv (wa T[i].y2 (y : Int))) from rfl) ?_
  refine Tot.pure (show flA [(0, 1), (1, 1), (2, 1)] z3 [(0, iv T[i].v2), (1, iv (wa T[i].x2 (x : Int))), (2, iv (wa T[i].y2 (y : Int)))] = some (.agg [iv T[i].v2, iv (wa T[i].x2 (x : Int)), iv (wa T[i].y2 (y : Int))]) from rfl) ?_
  refine Tot.pure (show idxP 3 3 (.ptr (some (c, 0))) (iv 2) = some (.ptr (some (c, 6))) from rfl) ?_
  refine Tot.pure (show stA 3 (.ptr (some (c, 6))) (.agg [iv T[i].v2, iv (wa T[i].x2 (x : Int)), iv (wa T[i].y2 (y : Int))]) (K1.more 0) = some ((K1.more 0).set c (.cells [iv T[i].v0, iv (wa T[i].x0 (x : Int)), iv (wa T[i].y0 (y : Int)), iv T[i].v1, iv (wa T[i].x1 (x : Int)), iv (wa T[i].y1 (y : Int)), iv T[i].v2, iv (wa T[i].x2 (x : Int)), iv (wa T[i].y2 (y : Int))] ty_3_api_Ghost false)) by simp only [stA, gmz, c1_]; rfl) ?_
  obtain ⟨K2, hK2⟩ : ∃ K, K = (K1.more 0).set c (.cells [iv T[i].v0, iv (wa T[i].x0 (x : Int)), iv (wa T[i].y0 (y : Int)), iv T[i].v1, iv (wa T[i].x1 (x : Int)), iv (wa T[i].y1 (y : Int)), iv T[i].v2, iv (wa T[i].x2 (x : Int)), iv (wa T[i].y2 (y : Int))] ty_3_api_Ghost false) := ⟨_, rfl⟩
  have c2_ : K2.get c = .cells [iv T[i].v0, iv (wa T[i].x0 (x : Int)), iv (wa T[i].y0 (y : Int)), iv T[i].v1, iv (wa T[i].x1 (x : Int)), iv (wa T[i].y1 (y : Int)), iv T[i].v2, iv (wa T[i].x2 (x : Int)), iv (wa T[i].y2 (y : Int))] ty_3_api_Ghost false := by rw [hK2, Heap.gsz rfl]
  have k2_ : ∀ q, q ≠ c → K2.get q = H.get q := fun q hq => by rw [hK2, Heap.gtz hq, gmz]; exact k1_ q hq
  have n2_ : K2.n = H.n := by rw [hK2]; simp; exact n1_
  rw [← hK2]; clear hK2
  refine Tot.pure (show arA .add (iv 2) (iv 1) = some (iv 3) from rfl) ?_
  refine ref25_Spec.l4_tot hm2 fun m2 hm2 => ?_
  simp only [ref25_Spec.l4_b]
  refine Tot.pure (show arA .lss (iv 3) (iv 3) = some (.bool false) from rfl) ?_
  refine Tot.pure bF ?_
  simp only [Bool.false_eq_true, if_false]
  refine ref25_Spec.p5_tot ?_
  simp only [ref25_Spec.p5_b]
  have sp2 : SpA K2 1 n m k S F vs vf i1 i2 := h.sp.keepX (by omega) (j := c) (by omega) nc1 nc2 fun q hq hne => k2_ q hne
  refine Tot.pure (faS (p := 1) (o := 0) (off := 4)) ?_
  refine Tot.pure (show ld1 (.ptr (some (1, 0 + 4))) K2 = some vf by rw [lhz, sp2.o]; rfl) ?_
  refine Tot.pure (show ldN 9 (.ptr (some (c, 0))) K2 = some (.agg (mv (x : Int) (y : Int) T[i]).cells) by rw [lgz, c2_]; rfl) ?_
  refine Tot.pure (show bSl 9 ty_3_api_Ghost z9 1 [(0, .agg (mv (x : Int) (y : Int) T[i]).cells)] = some (.cells (mv (x : Int) (y : Int) T[i]).cells ty_3_api_Ghost false) from rfl) ?_
  obtain ⟨D, hD⟩ : ∃ D, D = K2.push (.cells (mv (x : Int) (y : Int) T[i]).cells ty_3_api_Ghost false) := ⟨_, rfl⟩
  have Dx : D.get K2.n = .cells (mv (x : Int) (y : Int) T[i]).cells ty_3_api_Ghost false := by rw [hD, Heap.gpz rfl]
  have Dk : ∀ q, q < K2.n → D.get q = K2.get q := fun q hq => by rw [hD, Heap.gqz (by omega)]
  have Dn : D.n = K2.n + 1 := by rw [hD]; simp
  rw [← hD]; clear hD
  have hDI := sp2.keep (H' := D) (by omega) Dk
  obtain ⟨-, v', G, e3, G2, jj, e4, e5, e6, e7, e8⟩ := put_face hDI Dx (fun e => by have := sp2.f.lt e; omega) (by omega)
  refine Tot.pure e3 ?_
  dsimp only
  refine Tot.pure (faS (p := 1) (o := 0) (off := 4)) ?_
  refine Tot.pure e4 ?_
  refine Tot.pure (incN (by omega)) ?_
  refine hk3 G2 v' (some jj) ⟨e5, ?_, h.n1, fun q e => by cases e; omega⟩
  have n20 : i2 ≠ some 0 := fun e => by have := h.n2 0 e; omega
  rw [e8 0 (by omega) (by omega) n20, Dk 0 (by omega), k2_ 0 (by omega)]; exact h.h0
theorem ref_l3 {n m : Int} {k q x y : Nat} {S : List U.G3} {F0 : List U.Tr} {T : List U.Tr} {vs : V} {i1 : Option Nat} {m0 : Nat → Nat} {v3 : V} {Q : V → Heap → Prop} (hT : T.length < 1000) (hF : F0.length < 800000) (hk1 : 1 ≤ k) (hk : k < 1000) (hq : q < 100000) (hx : q / k = x) (hy : q % k = y)
    (hk2 : ∀ H' vf i2, RJ H' n m (k : Int) S (F0 ++ T.map (mv (x : Int) (y : Int))) vs vf i1 i2 → Tot (fun n => ref25_Spec.l2 n (m0 n) (rowT T) v3 (iv (k : Int)) (.ptr (some (0, 0))) (.ptr (some (1, 0))) (iv ((q + 1 : Nat) : Int)) H') Q) :
    ∀ (d i : Nat) (H : Heap) (vf : V) (i2 : Option Nat) (mm : Nat → Nat), i + d = T.length → Big mm → RJ H n m (k : Int) S (F0 ++ (T.take i).map (mv (x : Int) (y : Int))) vs vf i1 i2 →
      Tot (fun n => ref25_Spec.l3 n (m0 n) (mm n) (rowT T) v3 (iv (k : Int)) (.ptr (some (0, 0))) (.ptr (some (1, 0))) (iv (q : Int)) (iv (i : Int)) H) Q := by
  intro d
  induction d with
  | zero =>
    intro i H vf i2 mm hi hmm h
    refine ref25_Spec.l3_tot hmm fun mm hmm => ?_
    simp only [ref25_Spec.l3_b]
    refine Tot.pure rowG_len ?_
    refine Tot.pure lssN ?_
    rw [decide_eq_false (by omega)]
    refine Tot.pure bF ?_
    simp only [Bool.false_eq_true, if_false]
    refine Tot.pure (incN (by omega)) ?_
    rw [List.take_of_length_le (by omega)] at h
    exact hk2 H vf i2 h
  | succ d hd =>
    intro i H vf i2 mm hi hmm h
    have hl : i < T.length := by omega
    refine ref25_Spec.l3_tot hmm fun mm hmm => ?_
    simp only [ref25_Spec.l3_b]
    refine Tot.pure rowG_len ?_
    refine Tot.pure lssN ?_
    rw [decide_eq_true (by omega)]
    refine Tot.pure bT ?_
    simp only [if_true]
    refine Tot.pure (show flE 3 z9 [] = some (.agg z9) from rfl) ?_
    refine Tot.pure (show stA 9 (.ptr (some (H.n, 0))) (.agg z9) (H.push (.cells z9 ty_3_api_Ghost false)) = some ((H.push (.cells z9 ty_3_api_Ghost false)).set H.n (.cells z9 ty_3_api_Ghost false)) by simp only [stA, Heap.gpz rfl]; rfl) ?_
    obtain ⟨K, hK⟩ : ∃ K, K = (H.push (.cells z9 ty_3_api_Ghost false)).set H.n (.cells z9 ty_3_api_Ghost false) := ⟨_, rfl⟩
    have Kx : K.get H.n = .cells z9 ty_3_api_Ghost false := by rw [hK, Heap.gsz rfl]
    have Kk : ∀ q, q < H.n → K.get q = H.get q := fun q hq => by rw [hK, Heap.gtz (by omega), Heap.gqz (by omega)]
    have Kn : K.n = H.n + 1 := by rw [hK]; simp
    rw [← hK]; clear hK
    have l1 := h.sp.lt
    have hle : (F0 ++ (T.take i).map (mv (x : Int) (y : Int))).length < 900000 := by rw [List.length_append, List.length_map, List.length_take]; omega
    have ne1 : i1 ≠ some H.n := fun e => by have := h.sp.s.lt e; omega
    have ne2 : i2 ≠ some H.n := fun e => by have := h.sp.f.lt e; omega
    refine ref_l4 (c := H.n) hT hle hk1 hk hq hx hy hl (h.keep (by omega) Kk) Kx (by omega) (by omega) ne1 ne2 Big.id ?_
    intro H' vf' i2' h'
    refine hd (i + 1) H' vf' i2' mm (by omega) hmm ?_
    have eT : F0 ++ (T.take (i + 1)).map (mv (x : Int) (y : Int)) = (F0 ++ (T.take i).map (mv (x : Int) (y : Int))) ++ [mv (x : Int) (y : Int) T[i]] := by
      rw [List.take_add_one, List.getElem?_eq_getElem hl, List.map_append, List.append_assoc]; rfl
    rw [eT]; exact h'
theorem ref_l2 {n : Int} {m k : Nat} {S : List U.G3} {T : List U.Tr} {vs : V} {i1 : Option Nat} (hm1 : 1 ≤ m) (hm : m ≤ 64) (hk1 : 1 ≤ k) (hk : k ≤ 64) (hT : T.length < 150) :
    ∀ (d q : Nat) (H : Heap) (vf : V) (i2 : Option Nat) (mm : Nat → Nat), q + d = m * k → Big mm → RJ H n (m : Int) (k : Int) S (tilesF T k q) vs vf i1 i2 →
      Tot (fun c => ref25_Spec.l2 c (mm c) (rowT T) (iv (m : Int)) (iv (k : Int)) (.ptr (some (0, 0))) (.ptr (some (1, 0))) (iv (q : Int)) H) fun v _ => v = .tuple [specV n m k S (tilesF T k (m * k)), iv 0] := by
  have hmk : m * k ≤ 4096 := Nat.mul_le_mul hm hk
  intro d
  induction d with
  | zero =>
    intro q H vf i2 mm hq hmm h
    refine ref25_Spec.l2_tot hmm fun mm hmm => ?_
    simp only [ref25_Spec.l2_b]
    refine Tot.pure (mulN (by omega)) ?_
    refine Tot.pure lssN ?_
    rw [decide_eq_false (by omega)]
    refine Tot.pure bF ?_
    simp only [Bool.false_eq_true, if_false]
    obtain rfl : q = m * k := by omega
    have l1 := h.sp.lt
    refine Tot.pure (show ldN 5 (.ptr (some (1, 0))) H = some (.agg [iv n, iv m, iv k, vs, vf]) by rw [lgz, h.sp.o]; rfl) ?_
    have o1 : vs.one = true := by rcases h.sp.s with ⟨-, -, z, rfl⟩ | ⟨jj, -, rfl, -⟩ <;> rfl
    have o2 : vf.one = true := by rcases h.sp.f with ⟨-, -, z, rfl⟩ | ⟨jj, -, rfl, -⟩ <;> rfl
    refine Tot.pure (show stA 5 (.ptr (some (0, 0))) (.agg [iv n, iv m, iv k, vs, vf]) H = some (H.set 0 (.cells [iv n, iv m, iv k, vs, vf] ty_api_Spec false)) by
      simp only [stA, h.h0]
      rw [if_pos ⟨rfl, by simp, by simp [V.cells, o1, o2]⟩]; rfl) ?_
    refine Tot.pure (show ldN 5 (.ptr (some (0, 0))) (H.set 0 (.cells [iv n, iv m, iv k, vs, vf] ty_api_Spec false)) = some (.agg [iv n, iv m, iv k, vs, vf]) by rw [lgz, Heap.gsz rfl]; rfl) ?_
    have n1 : i1 ≠ some 0 := fun e => by have := h.n1 _ e; omega
    have n2 : i2 ≠ some 0 := fun e => by have := h.n2 _ e; omega
    obtain ⟨H', e⟩ := spec_frz (n := n) (m := m) (k := k) (e := 0) (h.sp.s.keep (H' := H.set 0 (.cells [iv n, iv m, iv k, vs, vf] ty_api_Spec false)) (by simp) fun q hq e => Heap.gtz fun e2 => n1 (by rw [e, e2])) (h.sp.f.keep (by simp) fun q hq e => Heap.gtz fun e2 => n2 (by rw [e, e2]))
    exact Tot.frz e rfl
  | succ d hd =>
    intro q H vf i2 mm hq hmm h
    refine ref25_Spec.l2_tot hmm fun mm hmm => ?_
    simp only [ref25_Spec.l2_b]
    refine Tot.pure (mulN (by omega)) ?_
    refine Tot.pure lssN ?_
    rw [decide_eq_true (by omega)]
    refine Tot.pure bT ?_
    simp only [if_true]
    have hlen : (tilesF T k q).length < 800000 := by
      rw [tiles_len]
      have : q * T.length ≤ 4096 * 150 := Nat.mul_le_mul (by omega) (by omega)
      omega
    refine ref_l3 (x := q / k) (y := q % k) (by omega) hlen hk1 (by omega) (by omega) rfl rfl ?_ T.length 0 H vf i2 _ (by omega) Big.id (by rw [List.take_zero, List.map_nil, List.append_nil]; exact h)
    intro H' vf' i2' h'
    refine hd (q + 1) H' vf' i2' mm (by omega) hmm ?_
    rw [tiles_succ]; exact h'
theorem ref_l0 {n : Int} {m k : Nat} {L : List U.G3} {T : List U.Tr} (hm1 : 1 ≤ m) (hm : m ≤ 64) (hk1 : 1 ≤ k) (hk : k ≤ 64) (hT : T.length < 150) (hL : L.length < 1000) :
    ∀ (d i : Nat) (H : Heap) (vs : V) (i1 : Option Nat) (mm : Nat → Nat), i + d = L.length → Big mm → RJ H n (m : Int) (k : Int) (L.take i) [] vs (.slice ⟨none, 0, 0, false⟩) i1 none →
      Tot (fun c => ref25_Spec.l0 c (mm c) (rowP L) (rowT T) (iv (m : Int)) (iv (k : Int)) (.ptr (some (0, 0))) (.ptr (some (1, 0))) (iv (i : Int)) H) fun v _ => v = .tuple [specV n m k L (tilesF T k (m * k)), iv 0] := by
  have hmk : m * k ≤ 4096 := Nat.mul_le_mul hm hk
  intro d
  induction d with
  | zero =>
    intro i H vs i1 mm hi hmm h
    refine ref25_Spec.l0_tot hmm fun mm hmm => ?_
    simp only [ref25_Spec.l0_b]
    refine Tot.pure rowG_len ?_
    refine Tot.pure lssN ?_
    rw [decide_eq_false (by omega)]
    refine Tot.pure bF ?_
    simp only [Bool.false_eq_true, if_false]
    rw [List.take_of_length_le (by omega)] at h
    refine ref25_Spec.p1_tot ?_
    simp only [ref25_Spec.p1_b]
    exact ref_l2 hm1 hm hk1 hk hT (m * k) 0 H _ _ _ (by omega) Big.id h
  | succ d hd =>
    intro i H vs i1 mm hi hmm h
    have hl : i < L.length := by omega
    obtain ⟨R, hR⟩ := rowG_at c3 hl
    refine ref25_Spec.l0_tot hmm fun mm hmm => ?_
    simp only [ref25_Spec.l0_b]
    refine Tot.pure rowG_len ?_
    refine Tot.pure lssN ?_
    rw [decide_eq_true (by omega)]
    refine Tot.pure bT ?_
    simp only [if_true]
    refine Tot.pure (faS (p := 1) (o := 0) (off := 3)) ?_
    refine Tot.pure (show ld1 (.ptr (some (1, 0 + 3))) (H.more 1) = some vs by rw [lhz, gmz, h.sp.o]; rfl) ?_
    refine Tot.pure hR ?_
    refine Tot.pure (show faA 0 (.lptr (L[i].cells ++ R)) = some (.lptr (L[i].cells ++ R)) from rfl) ?_
    refine Tot.pure (show ld1 (.lptr (L[i].cells ++ R)) (H.more 1) = some (iv L[i].a) from rfl) ?_
    refine Tot.pure hR ?_
    refine Tot.pure (show faA 1 (.lptr (L[i].cells ++ R)) = some (.lptr (L[i].cells.drop 1 ++ R)) from rfl) ?_
    refine Tot.pure (show faA 0 (.lptr (L[i].cells.drop 1 ++ R)) = some (.lptr (L[i].cells.drop 1 ++ R)) from rfl) ?_
    refine Tot.pure (show ld1 (.lptr (L[i].cells.drop 1 ++ R)) (H.more 1) = some (iv L[i].b) from rfl) ?_
    refine Tot.pure hR ?_
    refine Tot.pure (show faA 1 (.lptr (L[i].cells ++ R)) = some (.lptr (L[i].cells.drop 1 ++ R)) from rfl) ?_
    refine Tot.pure (show faA 1 (.lptr (L[i].cells.drop 1 ++ R)) = some (.lptr (L[i].cells.drop 2 ++ R)) from rfl) ?_
    refine Tot.pure (show ld1 (.lptr (L[i].cells.drop 2 ++ R)) (H.more 1) = some (iv L[i].c) from rfl) ?_
    refine Tot.pure (show flA [(0, 1), (1, 1), (2, 1)] z3 [(0, iv L[i].a), (1, iv L[i].b), (2, iv L[i].c)] = some (.agg L[i].cells) from rfl) ?_
    refine Tot.pure (show bSl 3 ty_api_Ghost z3 1 [(0, .agg L[i].cells)] = some (.cells L[i].cells ty_api_Ghost false) from rfl) ?_
    obtain ⟨D, hD⟩ : ∃ D, D = (H.more 1).set (H.n + 0) (.cells L[i].cells ty_api_Ghost false) := ⟨_, rfl⟩
    have Dx : D.get (H.n + 0) = .cells L[i].cells ty_api_Ghost false := by rw [hD, Heap.gsz rfl]
    have Dk : ∀ q, q < H.n → D.get q = H.get q := fun q hq => by rw [hD, Heap.gtz (by omega), gmz]
    have Dn : D.n = H.n + 1 := by rw [hD]; simp
    rw [← hD]; clear hD
    have l1 := h.sp.lt
    have hDI := h.sp.keep (H' := D) (by omega) Dk
    obtain ⟨-, v', K1, e1, K2, jj, e2, e3, e4, e5, e6⟩ := put_site hDI Dx (fun e => by have := h.sp.s.lt e; omega) (by rw [List.length_take]; omega)
    refine Tot.pure e1 ?_
    dsimp only
    refine Tot.pure (faS (p := 1) (o := 0) (off := 3)) ?_
    refine Tot.pure e2 ?_
    refine Tot.pure (incN (by omega)) ?_
    refine hd (i + 1) K2 v' (some jj) mm (by omega) hmm ?_
    have eT : L.take (i + 1) = L.take i ++ [L[i]] := by rw [List.take_add_one, List.getElem?_eq_getElem hl]; rfl
    rw [eT]
    have n10 : i1 ≠ some 0 := fun e => by have := h.n1 0 e; omega
    exact ⟨e3, by rw [e6 0 (by omega) (by omega) n10, Dk 0 (by omega)]; exact h.h0, fun q e => by cases e; omega, fun q e => by cases e⟩
abbrev f5 : List (Nat × Nat) := [(0, 1), (1, 1), (2, 1), (3, 1), (4, 1)]
theorem ref_fin {n : Nat} {K : Heap} (hn : K.n = 0) : Tot (fun _ => bnd (flA f5 z5 []) fun t27 => bnd (stA 5 (.ptr (some (K.n, 0))) t27 (K.push (.cells z5 ty_api_Spec false))) fun H6 => bnd (ldN 5 (.ptr (some (K.n, 0))) H6) fun t7 => frzR (.tuple [t7, iv 16]) H6) fun v _ => v = .tuple [specV 0 0 0 [] [], iv 16] := by
  refine Tot.pure (show flA f5 z5 [] = some (.agg z5) from rfl) ?_
  refine Tot.pure (show stA 5 (.ptr (some (K.n, 0))) (.agg z5) (K.push (.cells z5 ty_api_Spec false)) = some ((K.push (.cells z5 ty_api_Spec false)).set K.n (.cells z5 ty_api_Spec false)) by simp only [stA, Heap.gpz rfl]; rfl) ?_
  refine Tot.pure (show ldN 5 (.ptr (some (K.n, 0))) ((K.push (.cells z5 ty_api_Spec false)).set K.n (.cells z5 ty_api_Spec false)) = some (.agg z5) by rw [lgz, Heap.gsz rfl]; rfl) ?_
  obtain ⟨H', e⟩ := spec_frz (n := 0) (m := 0) (k := 0) (e := 16) (H := (K.push (.cells z5 ty_api_Spec false)).set K.n (.cells z5 ty_api_Spec false)) (GG.nil (z' := 0)) (GG.nil (z' := 0))
  exact Tot.frz e rfl
theorem ref25_Spec_bad {n m k : Int} {L : List U.G3} {T : List U.Tr} (h : ¬ ((1 ≤ m ∧ m ≤ 64) ∧ 1 ≤ k ∧ k ≤ 64)) :
    Gv (fun q => f_ref25_Spec q [rowP L, rowT T, iv n, iv m, iv k] H) (.tuple [specV 0 0 0 [] [], iv 16]) H := by
  refine ref25_Spec_tot row_fros row_frees ?_
  simp only [ref25_Spec_b]
  have fin := Tot.mono (Q' := fun v _ => v.free = true ∧ True ∧ v = .tuple [specV 0 0 0 [] [], iv 16]) (ref_fin (n := 0) (K := E0) rfl) (by rintro v _ rfl; exact ⟨spec_free, trivial, rfl⟩)
  refine Tot.pure lss_P ?_
  by_cases h1 : m < 1
  · rw [decide_eq_true h1]
    refine Tot.pure bT ?_
    simp only [if_true]
    exact fin
  rw [decide_eq_false h1]
  refine Tot.pure bF ?_
  simp only [Bool.false_eq_true, if_false]
  refine Tot.pure gtr_P ?_
  by_cases h2 : m > 64
  · rw [decide_eq_true h2]
    refine Tot.pure bT ?_
    simp only [if_true]
    exact fin
  rw [decide_eq_false h2]
  refine Tot.pure bF ?_
  simp only [Bool.false_eq_true, if_false]
  refine Tot.pure lss_P ?_
  by_cases h3 : k < 1
  · rw [decide_eq_true h3]
    refine Tot.pure bT ?_
    simp only [if_true]
    exact fin
  rw [decide_eq_false h3]
  refine Tot.pure bF ?_
  simp only [Bool.false_eq_true, if_false]
  refine Tot.pure gtr_P ?_
  rw [decide_eq_true (by omega)]
  refine Tot.pure bT ?_
  simp only [if_true]
  exact fin
theorem ref25_Spec_P {n : Int} {m k : Nat} {L : List U.G3} {T : List U.Tr} (hm1 : 1 ≤ m) (hm : m ≤ 64) (hk1 : 1 ≤ k) (hk : k ≤ 64) (hT : T.length < 150) (hL : L.length < 1000) :
    Gv (fun q => f_ref25_Spec q [rowP L, rowT T, iv n, iv (m : Int), iv (k : Int)] H) (.tuple [specV n m k L (tilesF T k (m * k)), iv 0]) H := by
  refine ref25_Spec_tot row_fros row_frees ?_
  simp only [ref25_Spec_b]
  refine Tot.pure lss_P ?_
  rw [decide_eq_false (by omega)]
  refine Tot.pure bF ?_
  simp only [Bool.false_eq_true, if_false]
  refine Tot.pure gtr_P ?_
  rw [decide_eq_false (by omega)]
  refine Tot.pure bF ?_
  simp only [Bool.false_eq_true, if_false]
  refine Tot.pure lss_P ?_
  rw [decide_eq_false (by omega)]
  refine Tot.pure bF ?_
  simp only [Bool.false_eq_true, if_false]
  refine Tot.pure gtr_P ?_
  rw [decide_eq_false (by omega)]
  refine Tot.pure bF ?_
  simp only [Bool.false_eq_true, if_false]
  refine Tot.pure (show flA f5 z5 [(0, iv n), (1, iv (m : Int)), (2, iv (k : Int))] = some (.agg [iv n, iv m, iv k, .slice ⟨none, 0, 0, false⟩, .slice ⟨none, 0, 0, false⟩]) from rfl) ?_
  obtain ⟨K, hK⟩ : ∃ K, K = E0.push (.cells z5 ty_api_Spec false) := ⟨_, rfl⟩
  have Kn : K.n = 1 := by rw [hK]; rfl
  have K0 : K.get 0 = .cells z5 ty_api_Spec false := by rw [hK, Heap.gpz rfl]
  rw [← hK]
  refine Tot.pure (show stA 5 (.ptr (some (K.n, 0))) (.agg [iv n, iv m, iv k, .slice ⟨none, 0, 0, false⟩, .slice ⟨none, 0, 0, false⟩]) (K.push (.cells z5 ty_api_Spec false)) = some ((K.push (.cells z5 ty_api_Spec false)).set K.n (.cells [iv n, iv m, iv k, .slice ⟨none, 0, 0, false⟩, .slice ⟨none, 0, 0, false⟩] ty_api_Spec false)) by simp only [stA, Heap.gpz rfl]; rfl) ?_
  rw [Kn]
  refine Tot.mono (ref_l0 (n := n) (T := T) hm1 hm hk1 hk hT hL L.length 0 _ (.slice ⟨none, 0, 0, false⟩) none _ (by omega) Big.id ⟨⟨Heap.gsz rfl, by simp [Kn], GG.nil, GG.nil, by simp, by simp, by simp⟩, by rw [Heap.gtz (by omega), Heap.gqz (by omega)]; exact K0, by simp, by simp⟩) ?_
  rintro v _ rfl
  exact ⟨spec_free, trivial, rfl⟩
theorem spec_fro {n m k e : Int} {S : List U.G3} {F : List U.Tr} : [specV n m k S F, iv e].all V.fro = true := by
  unfold specV rowP rowT rowG
  split <;> split <;> rfl
theorem sheet_Spec_of {n m k n' m' k' e : Int} {L S : List U.G3} {T F : List U.Tr} (h : Gv (fun q => f_sheet_spec q [rowP L, rowT T, iv n, iv m, iv k] (E0.push (.cells z5 ty_api_Spec false))) (.tuple [specV n' m' k' S F, iv e]) (E0.push (.cells z5 ty_api_Spec false))) :
    Gv (fun q => f_sheet_Spec q [rowP L, rowT T, iv n, iv m, iv k] H) (.tuple [specV n' m' k' S F, iv e]) H := by
  refine sheet_Spec_tot row_fros row_frees ?_
  simp only [sheet_Spec_b]
  refine Gv.bind h ?_
  dsimp only
  refine Tot.pure (show extA (.tuple [specV n' m' k' S F, iv e]) 0 = some (specV n' m' k' S F) from rfl) ?_
  refine Tot.pure (show extA (.tuple [specV n' m' k' S F, iv e]) 1 = some (iv e) from rfl) ?_
  have o1 : (rowP S).one = true := by unfold rowP rowG; split <;> rfl
  have o2 : (rowT F).one = true := by unfold rowT rowG; split <;> rfl
  refine Tot.pure (show stA 5 (.ptr (some (0, 0))) (specV n' m' k' S F) (E0.push (.cells z5 ty_api_Spec false)) = some ((E0.push (.cells z5 ty_api_Spec false)).set 0 (.cells [iv n', iv m', iv k', rowP S, rowT F] ty_api_Spec false)) by
    simp only [stA, Heap.gpz rfl]
    rw [if_pos ⟨rfl, by simp, by simp [V.cells, o1, o2]⟩]; rfl) ?_
  refine Tot.pure (show ldN 5 (.ptr (some (0, 0))) ((E0.push (.cells z5 ty_api_Spec false)).set 0 (.cells [iv n', iv m', iv k', rowP S, rowT F] ty_api_Spec false)) = some (specV n' m' k' S F) by rw [lgz, Heap.gsz rfl]; rfl) ?_
  exact Tot.rt spec_fro ⟨spec_free, trivial, rfl⟩
end N
end Go.AM
end
section
set_option linter.unusedVariables false
set_option linter.unusedSimpArgs false
set_option linter.unusedSimpArgs false
set_option linter.unusedVariables false
set_option maxRecDepth 100000
namespace Go.AM
theorem Gv.pcall {f : Nat → List V → Heap → Option R} {k : Nat → List V → Option R} (he : ∀ n a H, f (n + 1) a H = pureA a H (k n)) {args args' : List V} {H H' : Heap} {u : V}
    (h1 : frzAs args H = some (args', H')) (h2 : args'.all V.fro = true) (h : Gv (fun n => f n args' H') u H') : Gv (fun n => f n args H) u H' := by
  obtain ⟨v, G, q, n0, hn⟩ := h
  refine ⟨v, G, q, n0 + 1, fun n hle => ?_⟩
  obtain ⟨m, rfl⟩ : ∃ m, n = m + 1 := ⟨n - 1, by omega⟩
  have := hn (m + 1) (by omega)
  simp only [he] at this ⊢
  unfold pureA at this ⊢
  rw [frzAs_fro h2] at this
  rw [h1]
  exact this
theorem Gv.pbind {f : Nat → List V → Heap → Option R} {k : Nat → List V → Option R} (he : ∀ n a H, f (n + 1) a H = pureA a H (k n)) {args args' : List V} {H H' : Heap} {u : V} {kk : Nat → R → Option R} {Q : V → Heap → Prop}
    (h1 : frzAs args H = some (args', H')) (h2 : args'.all V.fro = true) (h : Gv (fun n => f n args' H') u H') (hk : Tot (fun n => kk n (u, H')) Q) : Tot (fun n => bnd (f n args H) (kk n)) Q :=
  Tot.bind (Gv.pcall he h1 h2 h) fun v G ⟨e1, e2⟩ => by subst e1 e2; exact hk
namespace N
open U
variable {H : Heap}
theorem ok_gh : eqOk P ty_api_Ghost = true := by kernel_rfl
theorem ok_gh3 : eqOk P ty_3_api_Ghost = true := by kernel_rfl
theorem eq_gh0 {a b : U.G3} : eqA P 8 ty_api_Ghost (.agg a.cells) (.agg b.cells) = some ((a.a == b.a) && ((a.b == b.b) && ((a.c == b.c) && true))) := by kernel_rfl
theorem eq_gh30 {a b : U.Tr} : eqA P 8 ty_3_api_Ghost (.agg a.cells) (.agg b.cells) = some (((a.v0 == b.v0) && ((a.v1 == b.v1) && ((a.v2 == b.v2) && true))) && (((a.x0 == b.x0) && ((a.y0 == b.y0) && ((a.x1 == b.x1) && true))) && (((a.y1 == b.y1) && ((a.x2 == b.x2) && ((a.y2 == b.y2) && true))) && true))) := by kernel_rfl
theorem ne_gh {a : U.G3} : neqA P ty_api_Ghost (.agg a.cells) (.agg a.cells) = some (.bool false) := by
  unfold neqA
  rw [if_pos ok_gh, eq_gh0]
  simp
theorem ne_gh3 {a : U.Tr} : neqA P ty_3_api_Ghost (.agg a.cells) (.agg a.cells) = some (.bool false) := by
  unfold neqA
  rw [if_pos ok_gh3, eq_gh30]
  simp
theorem same23_l0 {S : List U.G3} (hS : S.length < 1000000) : ∀ (d i : Nat) (H : Heap) (mm : Nat → Nat), i + d = S.length → Big mm →
      Tot (fun n => ref23_Same.l0 n (mm n) (rowP S) (rowP S) (iv (i : Int)) H) fun v _ => v = .bool true := by
  intro d
  induction d with
  | zero =>
    intro i H mm hi hmm
    refine ref23_Same.l0_tot hmm fun mm hmm => ?_
    simp only [ref23_Same.l0_b]
    refine Tot.pure rowG_len ?_
    refine Tot.pure lssN ?_
    rw [decide_eq_false (by omega)]
    refine Tot.pure bF ?_
    simp only [Bool.false_eq_true, if_false]
    exact Tot.ret rfl
  | succ d hd =>
    intro i H mm hi hmm
    have hl : i < S.length := by omega
    refine ref23_Same.l0_tot hmm fun mm hmm => ?_
    simp only [ref23_Same.l0_b]
    refine Tot.pure rowG_len ?_
    refine Tot.pure lssN ?_
    rw [decide_eq_true (by omega)]
    refine Tot.pure bT ?_
    simp only [if_true]
    refine Tot.pure (rowG_idx hl) ?_
    refine Tot.pure (rowG_ld c3 hl) ?_
    refine Tot.pure (rowG_idx hl) ?_
    refine Tot.pure (rowG_ld c3 hl) ?_
    refine Tot.pure ne_gh ?_
    refine Tot.pure bF ?_
    simp only [Bool.false_eq_true, if_false]
    refine Tot.pure (incN (by omega)) ?_
    exact hd (i + 1) _ mm (by omega) hmm
theorem same23_P {S : List U.G3} (hS : S.length < 1000000) : Gv (fun n => f_ref23_Same n [rowP S, rowP S] H) (.bool true) H := by
  have h1 : (rowP S).free = true := rowG_free cfree3
  refine ref23_Same_tot (by simp only [List.all_cons, rowG_fro]; rfl) (by simp [V.frees, h1]) ?_
  simp only [ref23_Same_b]
  refine Tot.pure rowG_len ?_
  refine Tot.pure rowG_len ?_
  refine Tot.pure neq_P ?_
  rw [decide_eq_true rfl]
  refine Tot.pure bF ?_
  simp only [Bool.false_eq_true, if_false]
  refine Tot.mono (same23_l0 hS S.length 0 _ _ (by omega) Big.id) ?_
  rintro v _ rfl
  exact ⟨rfl, trivial, rfl⟩
theorem same24_l0 {F : List U.Tr} (hF : F.length < 1000000) {A B : List V} {r1 r2 : Bool} {t1 t2 : TypeId} (hA : A[4]? = some (rowT F)) (hB : B[4]? = some (rowT F)) : ∀ (d i : Nat) (H : Heap) (mm : Nat → Nat), i + d = F.length → Big mm → H.get 0 = .cells A t1 r1 → H.get 1 = .cells B t2 r2 →
      Tot (fun n => ref24_Same.l0 n (mm n) (.ptr (some (0, 0))) (.ptr (some (1, 0))) (iv (i : Int)) H) fun v _ => v = .bool true := by
  intro d
  induction d with
  | zero =>
    intro i H mm hi hmm g0 g1
    refine ref24_Same.l0_tot hmm fun mm hmm => ?_
    simp only [ref24_Same.l0_b]
    refine Tot.pure faS ?_
    refine Tot.pure (show ld1 (.ptr (some (0, 0 + 4))) H = some (rowT F) by rw [lhz, g0]; exact hA) ?_
    refine Tot.pure rowG_len ?_
    refine Tot.pure lssN ?_
    rw [decide_eq_false (by omega)]
    refine Tot.pure bF ?_
    simp only [Bool.false_eq_true, if_false]
    exact Tot.ret rfl
  | succ d hd =>
    intro i H mm hi hmm g0 g1
    have hl : i < F.length := by omega
    refine ref24_Same.l0_tot hmm fun mm hmm => ?_
    simp only [ref24_Same.l0_b]
    refine Tot.pure faS ?_
    refine Tot.pure (show ld1 (.ptr (some (0, 0 + 4))) H = some (rowT F) by rw [lhz, g0]; exact hA) ?_
    refine Tot.pure rowG_len ?_
    refine Tot.pure lssN ?_
    rw [decide_eq_true (by omega)]
    refine Tot.pure bT ?_
    simp only [if_true]
    refine Tot.pure faS ?_
    refine Tot.pure (show ld1 (.ptr (some (0, 0 + 4))) (H.more 0) = some (rowT F) by rw [lhz, gmz, g0]; exact hA) ?_
    refine Tot.pure (rowG_idx hl) ?_
    refine Tot.pure (rowG_ld c9 hl) ?_
    refine Tot.pure faS ?_
    refine Tot.pure (show ld1 (.ptr (some (1, 0 + 4))) (H.more 0) = some (rowT F) by rw [lhz, gmz, g1]; exact hB) ?_
    refine Tot.pure (rowG_idx hl) ?_
    refine Tot.pure (rowG_ld c9 hl) ?_
    refine Tot.pure ne_gh3 ?_
    refine Tot.pure bF ?_
    simp only [Bool.false_eq_true, if_false]
    refine Tot.pure (incN (by omega)) ?_
    exact hd (i + 1) _ mm (by omega) hmm (by rw [gmz]; exact g0) (by rw [gmz]; exact g1)
theorem spec_box {n m k : Int} {S : List U.G3} {F : List U.Tr} : boxA ty_api_Spec (specV n m k S F) = some (.cells [iv n, iv m, iv k, rowP S, rowT F] ty_api_Spec false) := by
  have o1 : (rowP S).one = true := by unfold rowP rowG; split <;> rfl
  have o2 : (rowT F).one = true := by unfold rowT rowG; split <;> rfl
  exact boxA_agg (by simp [o1, o2])
theorem same24_P {n m k : Int} {S : List U.G3} {F : List U.Tr} (hS : S.length < 1000000) (hF : F.length < 1000000) : Gv (fun q => f_ref24_Same q [specV n m k S F, specV n m k S F] H) (.bool true) H := by
  have h1 : (rowP S).free = true := rowG_free cfree3
  have h2 : (rowT F).free = true := rowG_free cfree
  have h3 : (specV n m k S F).fro = true := by unfold specV rowP rowT rowG; split <;> split <;> rfl
  refine ref24_Same_tot (by simp only [List.all_cons, h3]; rfl) (by simp [V.frees, V.free, h1, h2]) ?_
  simp only [ref24_Same_b]
  refine Tot.pure spec_box ?_
  refine Tot.pure spec_box ?_
  obtain ⟨K, hK⟩ : ∃ K, K = (E0.push (.cells [iv n, iv m, iv k, rowP S, rowT F] ty_api_Spec false)).push (.cells [iv n, iv m, iv k, rowP S, rowT F] ty_api_Spec false) := ⟨_, rfl⟩
  have K0 : K.get 0 = .cells [iv n, iv m, iv k, rowP S, rowT F] ty_api_Spec false := by rw [hK, Heap.gqz (by simp), Heap.gpz rfl]
  have K1 : K.get 1 = .cells [iv n, iv m, iv k, rowP S, rowT F] ty_api_Spec false := by rw [hK, Heap.gpz (by simp)]
  have Kn : (E0.push (.cells [iv n, iv m, iv k, rowP S, rowT F] ty_api_Spec false)).n = 1 := rfl
  rw [← hK, Kn]
  clear hK
  refine Tot.pure (faS (p := 0) (o := 0) (off := 0)) ?_
  refine Tot.pure (show ld1 (.ptr (some (0, 0 + 0))) K = some (iv n) by rw [lhz, K0]; rfl) ?_
  refine Tot.pure (faS (p := 1) (o := 0) (off := 0)) ?_
  refine Tot.pure (show ld1 (.ptr (some (1, 0 + 0))) K = some (iv n) by rw [lhz, K1]; rfl) ?_
  refine Tot.pure neq_P ?_
  rw [decide_eq_true rfl]
  refine Tot.pure bF ?_
  simp only [Bool.false_eq_true, if_false]
  refine Tot.pure (faS (p := 0) (o := 0) (off := 1)) ?_
  refine Tot.pure (show ld1 (.ptr (some (0, 0 + 1))) K = some (iv m) by rw [lhz, K0]; rfl) ?_
  refine Tot.pure (faS (p := 1) (o := 0) (off := 1)) ?_
  refine Tot.pure (show ld1 (.ptr (some (1, 0 + 1))) K = some (iv m) by rw [lhz, K1]; rfl) ?_
  refine Tot.pure neq_P ?_
  rw [decide_eq_true rfl]
  refine Tot.pure bF ?_
  simp only [Bool.false_eq_true, if_false]
  refine Tot.pure (faS (p := 0) (o := 0) (off := 2)) ?_
  refine Tot.pure (show ld1 (.ptr (some (0, 0 + 2))) K = some (iv k) by rw [lhz, K0]; rfl) ?_
  refine Tot.pure (faS (p := 1) (o := 0) (off := 2)) ?_
  refine Tot.pure (show ld1 (.ptr (some (1, 0 + 2))) K = some (iv k) by rw [lhz, K1]; rfl) ?_
  refine Tot.pure neq_P ?_
  rw [decide_eq_true rfl]
  refine Tot.pure bF ?_
  simp only [Bool.false_eq_true, if_false]
  refine Tot.pure (faS (p := 0) (o := 0) (off := 3)) ?_
  refine Tot.pure (show ld1 (.ptr (some (0, 0 + 3))) K = some (rowP S) by rw [lhz, K0]; rfl) ?_
  refine Tot.pure (faS (p := 1) (o := 0) (off := 3)) ?_
  refine Tot.pure (show ld1 (.ptr (some (1, 0 + 3))) K = some (rowP S) by rw [lhz, K1]; rfl) ?_
  refine Gv.bind (same23_P hS) ?_
  dsimp only
  refine Tot.pure (show unA .not (.bool true) = some (.bool false) from rfl) ?_
  refine Tot.pure bF ?_
  simp only [Bool.false_eq_true, if_false]
  refine Tot.pure (faS (p := 0) (o := 0) (off := 4)) ?_
  refine Tot.pure (show ld1 (.ptr (some (0, 0 + 4))) K = some (rowT F) by rw [lhz, K0]; rfl) ?_
  refine Tot.pure rowG_len ?_
  refine Tot.pure (faS (p := 1) (o := 0) (off := 4)) ?_
  refine Tot.pure (show ld1 (.ptr (some (1, 0 + 4))) K = some (rowT F) by rw [lhz, K1]; rfl) ?_
  refine Tot.pure rowG_len ?_
  refine Tot.pure neq_P ?_
  rw [decide_eq_true rfl]
  refine Tot.pure bF ?_
  simp only [Bool.false_eq_true, if_false]
  refine Tot.mono (same24_l0 hF rfl rfl F.length 0 K _ (by omega) Big.id K0 K1) ?_
  rintro v _ rfl
  exact ⟨rfl, trivial, rfl⟩
theorem lives_P : Gv (fun n => f_law25_lives n [] H) (.bool true) H := law25_lives_ext ⟨_, _, ⟨rfl, rfl⟩, 0, fun n _ => rfl⟩
theorem Spec_P {n : Int} {m k : Nat} {L : List U.G3} {T : List U.Tr} (hm1 : 1 ≤ m) (hm : m ≤ 64) (hk1 : 1 ≤ k) (hk : k ≤ 64) (hT : T.length < 150) (hL : L.length < 1000) :
    Gv (fun q => f_sheet_Spec q [rowP L, rowT T, iv n, iv (m : Int), iv (k : Int)] H) (.tuple [specV n m k L (tilesF T k (m * k)), iv 0]) H := sheet_Spec_of (sheet_spec_P hm1 hm hk1 hk (by omega) hL)
theorem Spec_bad {n m k : Int} {L : List U.G3} {T : List U.Tr} (h : ¬ ((1 ≤ m ∧ m ≤ 64) ∧ 1 ≤ k ∧ k ≤ 64)) :
    Gv (fun q => f_sheet_Spec q [rowP L, rowT T, iv n, iv m, iv k] H) (.tuple [specV 0 0 0 [] [], iv 16]) H := sheet_Spec_of (sheet_spec_bad h)
end N
end Go.AM
end
section
set_option linter.unusedVariables false
set_option linter.unusedSimpArgs false
set_option linter.unusedSimpArgs false
set_option linter.unusedVariables false
set_option maxRecDepth 100000
namespace Go.AM
section
variable {α : Type} {f : α → List V} {z : Nat} {ty : TypeId} {H : Heap} {v : V} {L : List α} {i : Option Nat}
theorem GG.copy (hf : ∀ a, (f a).length = z) {by_ j : Nat} (hj : H.get j = .cells [] ty false) (hn : j < H.n) (hL : L.length < 1000000) (hb : by_ ≤ 4096) :
    ∃ v' H' k, appA z by_ ty (.slice ⟨some (j, 0), 0, z, false⟩) (rowG f z L) H = some (v', H') ∧ GG f z ty H' v' L (some k) ∧ (k = j ∨ H.n ≤ k) ∧ H.n ≤ H'.n ∧ ∀ q, q < H.n → q ≠ j → H'.get q = H.get q := by
  by_cases h : L.length = 0
  · have h0 : L = [] := List.eq_nil_of_length_eq_zero h
    subst h0
    exact ⟨_, _, j, rfl, .inr ⟨j, rfl, rfl, hn, hj⟩, .inl rfl, Nat.le_refl _, fun q _ _ => rfl⟩
  · have s1 : srcA z (rowG f z L) H = some (L.length, L.flatMap f) := by
      unfold rowG; rw [if_neg h]; simp [srcA]
    unfold appA
    simp only [s1, Option.bind_some]
    rw [if_neg h, if_pos ⟨by omega, hb, .inr trivial⟩]
    simp only [rdS, if_true, Option.bind_some, killA, hj, Bool.false_eq_true, if_false, and_self, List.nil_append, Nat.zero_add]
    refine ⟨_, _, H.n, rfl, .inr ⟨_, rfl, rfl, by simp, by rw [Heap.gpz (by simp)]⟩, .inr (Nat.le_refl _), by simp, fun q hq hne => ?_⟩
    rw [Heap.gqz (by simp; omega), Heap.gtz hne]
theorem GG.frzI (hf : ∀ a, (f a).length = z) (hc : ∀ a, (f a).all V.fro1 = true ∧ V.frees (f a) = true) (g : GG f z ty H v L i) (d : Nat) : ∃ ids, Go.AM.frzV H (d + 2) v = some (rowG f z L, ids) ∧ ∀ q ∈ ids, i = some q := by
  rcases g with ⟨rfl, rfl, z, rfl⟩ | ⟨j, rfl, rfl, h3, h4⟩
  · exact ⟨[], rfl, by simp⟩
  · unfold rowG
    by_cases hz : L.length = 0
    · rw [if_pos hz]
      refine ⟨[], ?_, by simp⟩
      unfold Go.AM.frzV; simp only [hz, if_true]
    · rw [if_neg hz]
      refine ⟨[j], ?_, by simp⟩
      have hc := (flat_fro2 hc L).1
      have ql := flat_len hf L
      have ht : ((L.flatMap f).drop 0).take (L.length * z) = L.flatMap f := by rw [List.drop_zero, ← ql, List.take_length]
      unfold Go.AM.frzV
      simp only [if_neg hz, h4, ht, frzL_fro1 (d := d) hc, Nat.zero_add]
      rw [if_pos (by omega)]
end
namespace N
open U
variable {H : Heap}
theorem args_frz {n m k : Int} {L : List U.G3} {T : List U.Tr} {t1 t2 : TypeId} {v1 v2 : V} {i1 i2 : Option Nat} (g1 : GG U.G3.cells 3 t1 H v1 L i1) (g2 : GG U.Tr.cells 9 t2 H v2 T i2) :
    ∃ H', frzAs [v1, v2, iv n, iv m, iv k] H = some ([rowP L, rowT T, iv n, iv m, iv k], H') ∧ H'.n = H.n ∧ ∀ q, i1 ≠ some q → i2 ≠ some q → H'.get q = H.get q := by
  obtain ⟨a, h1, k1⟩ := g1.frzI c3 cfree3 4
  obtain ⟨b, h2, k2⟩ := g2.frzI c9 cfree 4
  have ei : ∀ (d : Nat) (x : Int), Go.AM.frzV H (d + 1) (iv x) = some (iv x, []) := fun d x => by unfold Go.AM.frzV; rfl
  refine ⟨killL (a ++ (b ++ ([] ++ ([] ++ ([] ++ []))))) H, ?_, killL_n _ _, fun q n1 n2 => ?_⟩
  · have e : frzL (Go.AM.frzV H 6) [v1, v2, iv n, iv m, iv k] = some ([rowP L, rowT T, iv n, iv m, iv k], a ++ (b ++ ([] ++ ([] ++ ([] ++ []))))) := by
      simp only [frzL, h1, h2, ei]
    simp only [frzAs, e]
  · rw [killL_get, if_neg]
    intro hq
    simp only [List.append_nil, List.mem_append] at hq
    rcases hq with hq | hq
    · exact n1 (k1 q hq)
    · exact n2 (k2 q hq)
theorem few_P {m : Int} : ∃ m', ∀ H : Heap, Gv (fun n => f_law25_few n [iv m] H) (iv m') H := by
  by_cases h1 : m > 4
  · by_cases h2 : m ≤ 64
    · obtain ⟨r, hr⟩ : ∃ r, arA .rem (iv m) (iv 4) = some (iv r) := ⟨_, rfl⟩
      obtain ⟨s, hs⟩ : ∃ s, arA .add (iv r) (iv 1) = some (iv s) := ⟨_, rfl⟩
      refine ⟨s, fun H => law25_few_tot rfl rfl ?_⟩
      simp only [law25_few_b]
      refine Tot.pure gtr_P ?_
      rw [decide_eq_true h1]
      refine Tot.pure bT ?_
      simp only [if_true]
      refine Tot.pure leq_P ?_
      rw [decide_eq_true h2]
      refine Tot.pure bT ?_
      simp only [if_true]
      refine Tot.pure hr ?_
      refine Tot.pure hs ?_
      exact Tot.ret ⟨rfl, trivial, rfl⟩
    · refine ⟨m, fun H => law25_few_tot rfl rfl ?_⟩
      simp only [law25_few_b]
      refine Tot.pure gtr_P ?_
      rw [decide_eq_true h1]
      refine Tot.pure bT ?_
      simp only [if_true]
      refine Tot.pure leq_P ?_
      rw [decide_eq_false h2]
      refine Tot.pure bF ?_
      simp only [Bool.false_eq_true, if_false]
      exact Tot.ret ⟨rfl, trivial, rfl⟩
  · refine ⟨m, fun H => law25_few_tot rfl rfl ?_⟩
    simp only [law25_few_b]
    refine Tot.pure gtr_P ?_
    rw [decide_eq_false h1]
    refine Tot.pure bF ?_
    simp only [Bool.false_eq_true, if_false]
    exact Tot.ret ⟨rfl, trivial, rfl⟩
theorem both_P {n m k : Int} {L : List U.G3} {T : List U.Tr} (hL : L.length ≤ 6) (hT : T.length ≤ 8) : ∃ (n' m' k' e : Int) (S : List U.G3) (F : List U.Tr), S.length < 1000000 ∧ F.length < 1000000 ∧
    (∀ H : Heap, Gv (fun q => f_sheet_Spec q [rowP L, rowT T, iv n, iv m, iv k] H) (.tuple [specV n' m' k' S F, iv e]) H) ∧ ∀ H : Heap, Gv (fun q => f_ref25_Spec q [rowP L, rowT T, iv n, iv m, iv k] H) (.tuple [specV n' m' k' S F, iv e]) H := by
  by_cases h : (1 ≤ m ∧ m ≤ 64) ∧ 1 ≤ k ∧ k ≤ 64
  · obtain ⟨a, rfl⟩ : ∃ a : Nat, m = (a : Int) := ⟨m.toNat, by omega⟩
    obtain ⟨b, rfl⟩ : ∃ b : Nat, k = (b : Int) := ⟨k.toNat, by omega⟩
    have hab : a * b ≤ 64 * 64 := Nat.mul_le_mul (by omega) (by omega)
    have hlen : (tilesF T b (a * b)).length < 1000000 := by
      rw [tiles_len]
      have : (a * b) * T.length ≤ 4096 * 8 := Nat.mul_le_mul hab hT
      omega
    exact ⟨n, a, b, 0, L, tilesF T b (a * b), by omega, hlen, fun H => Spec_P (by omega) (by omega) (by omega) (by omega) (by omega) (by omega), fun H => ref25_Spec_P (by omega) (by omega) (by omega) (by omega) (by omega) (by omega)⟩
  · exact ⟨0, 0, 0, 16, [], [], by decide, by decide, fun H => Spec_bad h, fun H => ref25_Spec_bad h⟩
theorem stSpec {K : Heap} {p : Nat} {n m k : Int} {S : List U.G3} {F : List U.Tr} (h : K.get p = .cells z5 ty_api_Spec false) : stA 5 (.ptr (some (p, 0))) (specV n m k S F) K = some (K.set p (.cells [iv n, iv m, iv k, rowP S, rowT F] ty_api_Spec false)) := by
  have o1 : (rowP S).one = true := by unfold rowP rowG; split <;> rfl
  have o2 : (rowT F).one = true := by unfold rowT rowG; split <;> rfl
  simp only [stA, h]
  rw [if_pos ⟨rfl, by simp, by simp [V.cells, o1, o2]⟩]; rfl
theorem specs_p1 {n m k : Int} {L : List U.G3} {T : List U.Tr} {K : Heap} (hL : L.length ≤ 6) (hT : T.length ≤ 8) (K0 : K.get 0 = .cells [iv n, iv m, iv k] ty_law25_Size false) (Kn : 1 ≤ K.n) :
    Tot (fun q => law25_SheetSpecs.p1 q (rowP L) (rowT T) (.ptr (some (0, 0))) K) fun v _ => v.free = true ∧ True ∧ v = .bool true := by
  obtain ⟨m', hm⟩ := few_P (m := m)
  obtain ⟨k', hk⟩ := few_P (m := k)
  refine law25_SheetSpecs.p1_tot ?_
  simp only [law25_SheetSpecs.p1_b]
  refine Tot.pure (faS (p := 0) (o := 0) (off := 1)) ?_
  have l1 : ld1 (.ptr (some (0, 0 + 1))) (K.more 0) = some (iv m) := by rw [lhz, gmz, K0]; rfl
  have l2 : ld1 (.ptr (some (0, 0 + 2))) (K.more 0) = some (iv k) := by rw [lhz, gmz, K0]; rfl
  have ck : ∀ x : Int, chk (some (iv x)) (iv x) = some () := fun x => by simp [chk, V.beq]
  refine Tot.pure l1 ?_
  refine Gv.bind (hm _) ?_
  dsimp only
  refine Tot.pure (faS (p := 0) (o := 0) (off := 2)) ?_
  refine Tot.pure l2 ?_
  refine Tot.chk (by rw [l2]; exact ck k) ?_
  refine Gv.bind (hk _) ?_
  dsimp only
  refine Tot.pure (faS (p := 0) (o := 0) (off := 1)) ?_
  refine Tot.pure (show stA 1 (.ptr (some (0, 0 + 1))) (iv m') (K.more 0) = some ((K.more 0).set 0 (.cells [iv n, iv m', iv k] ty_law25_Size false)) by simp only [stA, gmz, K0]; rfl) ?_
  refine Tot.pure (faS (p := 0) (o := 0) (off := 2)) ?_
  refine Tot.pure (show stA 1 (.ptr (some (0, 0 + 2))) (iv k') ((K.more 0).set 0 (.cells [iv n, iv m', iv k] ty_law25_Size false)) = some (((K.more 0).set 0 (.cells [iv n, iv m', iv k] ty_law25_Size false)).set 0 (.cells [iv n, iv m', iv k'] ty_law25_Size false)) by simp only [stA, Heap.gsz rfl]; rfl) ?_
  obtain ⟨D, hD⟩ : ∃ D, D = ((K.more 0).set 0 (.cells [iv n, iv m', iv k] ty_law25_Size false)).set 0 (.cells [iv n, iv m', iv k'] ty_law25_Size false) := ⟨_, rfl⟩
  have D0 : D.get 0 = .cells [iv n, iv m', iv k'] ty_law25_Size false := by rw [hD, Heap.gsz rfl]
  have Dn : 1 ≤ D.n := by rw [hD]; simpa using Kn
  rw [← hD]; clear hD
  refine Tot.pure (show bSl 3 ty_api_Place z3 0 [] = some (.cells [] ty_api_Place false) from rfl) ?_
  obtain ⟨v1, D1, i1, e1, g1, o1, n1, f1⟩ := GG.copy (ty := ty_api_Place) (H := (D.more 3).set (D.n + 0) (.cells [] ty_api_Place false)) (j := D.n + 0) (by_ := 24) (L := L) c3 (Heap.gsz rfl) (by simp) (by omega) (by decide)
  refine Tot.pure e1 ?_
  dsimp only
  have nn : ((D.more 3).set (D.n + 0) (.cells [] ty_api_Place false)).n = D.n + 3 := by simp
  rw [nn] at o1 n1 f1
  have a0 : D1.get 0 = .cells [iv n, iv m', iv k'] ty_law25_Size false := by rw [f1 0 (by omega) (by omega), Heap.gtz (by omega), gmz]; exact D0
  refine Tot.pure (show bSl 9 ty_api_Tri z9 0 [] = some (.cells [] ty_api_Tri false) from rfl) ?_
  obtain ⟨v2, D2, i2, e2, g2, o2, n2, f2⟩ := GG.copy (ty := ty_api_Tri) (H := D1.set (D.n + 1) (.cells [] ty_api_Tri false)) (j := D.n + 1) (by_ := 72) (L := T) c9 (Heap.gsz rfl) (by simp; omega) (by omega) (by decide)
  refine Tot.pure e2 ?_
  dsimp only
  have nn2 : (D1.set (D.n + 1) (.cells [] ty_api_Tri false)).n = D1.n := by simp
  rw [nn2] at o2 n2 f2
  have ne1 : i1 ≠ D.n + 1 := by omega
  have g1b : GG U.G3.cells 3 ty_api_Place D2 v1 L (some i1) := g1.keep n2 fun q hq e => by cases e; rw [f2 _ hq ne1, Heap.gtz ne1]
  have b0 : D2.get 0 = .cells [iv n, iv m', iv k'] ty_law25_Size false := by rw [f2 0 (by omega) (by omega), Heap.gtz (by omega)]; exact a0
  have x0 : ∀ {G : Heap} {c : Nat} {x : Int}, G.get 0 = .cells [iv n, iv m', iv k'] ty_law25_Size false → [iv n, iv m', iv k'][c]? = some (iv x) → ld1 (.ptr (some (0, 0 + c))) G = some (iv x) := fun hG hc => by rw [lhz, hG, Nat.zero_add]; exact hc
  have d3 : (D.more 3).get 0 = .cells [iv n, iv m', iv k'] ty_law25_Size false := by rw [gmz]; exact D0
  refine Tot.pure (faS (p := 0) (o := 0) (off := 0)) ?_
  refine Tot.pure (x0 (c := 0) b0 rfl) ?_
  refine Tot.chk (by rw [x0 (c := 0) a0 rfl]; exact ck n) ?_
  refine Tot.chk (by rw [x0 (c := 0) d3 rfl]; exact ck n) ?_
  refine Tot.pure (faS (p := 0) (o := 0) (off := 1)) ?_
  refine Tot.pure (x0 (c := 1) b0 rfl) ?_
  refine Tot.chk (by rw [x0 (c := 1) a0 rfl]; exact ck m') ?_
  refine Tot.chk (by rw [x0 (c := 1) d3 rfl]; exact ck m') ?_
  refine Tot.pure (faS (p := 0) (o := 0) (off := 2)) ?_
  refine Tot.pure (x0 (c := 2) b0 rfl) ?_
  refine Tot.chk (by rw [x0 (c := 2) a0 rfl]; exact ck k') ?_
  refine Tot.chk (by rw [x0 (c := 2) d3 rfl]; exact ck k') ?_
  obtain ⟨n'', m'', k'', e, S, F, hS, hF, p1, p2⟩ := both_P (n := n) (m := m') (k := k') hL hT
  obtain ⟨D3, z1, z2, z3'⟩ := args_frz (n := n) (m := m') (k := k') g1b g2
  refine Gv.pbind sheet_Spec_in z1 row_fros (p1 D3) ?_
  dsimp only
  have c0 : D3.get 0 = .cells [iv n, iv m', iv k'] ty_law25_Size false := by rw [z3' 0 (fun e => by cases e; omega) (fun e => by cases e; omega)]; exact b0
  refine Tot.pure (show extA _ 0 = some (specV n'' m'' k'' S F) from rfl) ?_
  refine Tot.pure (stSpec (Heap.gsz rfl)) ?_
  obtain ⟨G, hG⟩ : ∃ G, G = (D3.set (D.n + 2) (.cells z5 ty_api_Spec false)).set (D.n + 2) (.cells [iv n'', iv m'', iv k'', rowP S, rowT F] ty_api_Spec false) := ⟨_, rfl⟩
  have G0 : G.get 0 = .cells [iv n, iv m', iv k'] ty_law25_Size false := by rw [hG, Heap.gtz (by omega), Heap.gtz (by omega)]; exact c0
  have G2 : G.get (D.n + 2) = .cells [iv n'', iv m'', iv k'', rowP S, rowT F] ty_api_Spec false := by rw [hG, Heap.gsz rfl]
  have Gn : D.n + 3 ≤ G.n := by rw [hG]; simp; omega
  rw [← hG]; clear hG
  refine Tot.pure (show extA _ 1 = some (iv e) from rfl) ?_
  refine Tot.pure (faS (p := 0) (o := 0) (off := 0)) ?_
  refine Tot.pure (x0 (c := 0) G0 rfl) ?_
  refine Tot.pure (faS (p := 0) (o := 0) (off := 1)) ?_
  refine Tot.pure (x0 (c := 1) G0 rfl) ?_
  refine Tot.pure (faS (p := 0) (o := 0) (off := 2)) ?_
  refine Tot.pure (x0 (c := 2) G0 rfl) ?_
  refine Gv.bind (p2 G) ?_
  dsimp only
  refine Tot.pure (show extA _ 0 = some (specV n'' m'' k'' S F) from rfl) ?_
  refine Tot.pure (show extA _ 1 = some (iv e) from rfl) ?_
  refine Tot.pure (stSpec (Heap.gpz rfl)) ?_
  refine Tot.pure (show ldN 5 (.ptr (some (D.n + 2, 0))) ((G.push (.cells z5 ty_api_Spec false)).set G.n (.cells [iv n'', iv m'', iv k'', rowP S, rowT F] ty_api_Spec false)) = some (specV n'' m'' k'' S F) by rw [lgz, Heap.gtz (by omega), Heap.gqz (by omega), G2]; rfl) ?_
  refine Tot.pure (show ldN 5 (.ptr (some (G.n, 0))) ((G.push (.cells z5 ty_api_Spec false)).set G.n (.cells [iv n'', iv m'', iv k'', rowP S, rowT F] ty_api_Spec false)) = some (specV n'' m'' k'' S F) by rw [lgz, Heap.gsz rfl]; rfl) ?_
  refine Gv.bind (same24_P hS hF) ?_
  dsimp only
  refine Tot.pure bT ?_
  simp only [if_true]
  refine Tot.pure eql_P ?_
  rw [decide_eq_true rfl]
  refine Tot.pure bT ?_
  simp only [if_true]
  refine Gv.bind lives_P ?_
  exact Tot.ret ⟨rfl, trivial, rfl⟩
theorem specs_p0 {n m k : Int} {L : List U.G3} {T : List U.Tr} {K : Heap} (hL : L.length ≤ 6) (K0 : K.get 0 = .cells [iv n, iv m, iv k] ty_law25_Size false) (Kn : 1 ≤ K.n) :
    Tot (fun q => law25_SheetSpecs.p0 q (rowP L) (rowT T) (.ptr (some (0, 0))) K) fun v _ => v.free = true ∧ True ∧ v = .bool true := by
  refine law25_SheetSpecs.p0_tot ?_
  simp only [law25_SheetSpecs.p0_b]
  refine Tot.pure rowG_len ?_
  refine Tot.pure gtr_P ?_
  by_cases h : T.length > 8
  · rw [decide_eq_true (by omega)]
    refine Tot.pure bT ?_
    simp only [if_true]
    refine Tot.pure (rowG_cut (n := 8) c9 (by omega) h) ?_
    exact specs_p1 hL (by rw [List.length_take]; omega) K0 Kn
  · rw [decide_eq_false (by omega)]
    refine Tot.pure bF ?_
    simp only [Bool.false_eq_true, if_false]
    exact specs_p1 hL (by omega) K0 Kn
theorem sheetSpecs_P {n m k : Int} {L : List U.G3} {T : List U.Tr} : Tot (fun q => f_law25_SheetSpecs q [rowP L, rowT T, .agg [iv n, iv m, iv k]] H) fun v _ => v = .bool true := by
  have h1 : (rowP L).free = true := rowG_free cfree3
  have h2 : (rowT T).free = true := rowG_free cfree
  refine Tot.mono (Q := fun v H' => True ∧ v = .bool true) (law25_SheetSpecs_tot (by simp only [List.all_cons, rowG_fro]; rfl) (by simp [V.frees, V.free, h1, h2]) ?_) fun v H h => h.2
  simp only [law25_SheetSpecs_b]
  refine Tot.pure (show boxA ty_law25_Size (.agg [iv n, iv m, iv k]) = some (.cells [iv n, iv m, iv k] ty_law25_Size false) from rfl) ?_
  refine Tot.pure rowG_len ?_
  refine Tot.pure gtr_P ?_
  by_cases h : L.length > 6
  · rw [decide_eq_true (by omega)]
    refine Tot.pure bT ?_
    simp only [if_true]
    refine Tot.pure (rowG_cut (n := 6) c3 (by omega) h) ?_
    exact specs_p0 (by rw [List.length_take]; omega) (Heap.gpz rfl) (by simp)
  · rw [decide_eq_false (by omega)]
    refine Tot.pure bF ?_
    simp only [Bool.false_eq_true, if_false]
    exact specs_p0 (by omega) (Heap.gpz rfl) (by simp)
end N
end Go.AM
end
section
set_option linter.unusedVariables false
set_option linter.unusedSimpArgs false
set_option linter.unusedSimpArgs false
set_option linter.unusedVariables false
set_option maxRecDepth 100000
namespace Go.AM
def isIntK3 (P : Program) (k : IntKind) (t : TypeId) : Bool := match P.underlying t with
  | some (.int q) => q == k
  | _ => false
section
variable {P : Program} {k : Nat} {t : TypeId} {cs : List V}
theorem FT.int3 {q : IntKind} (ht : isIntK3 P q t = true) (h : FT P (k + 1) t cs) : ∃ z, cs = [.int q z] ∧ (Lit.int q z).wf = true := by
  unfold isIntK3 at ht
  unfold FT at h
  split at ht
  · rename_i hu
    simp only [hu] at h
    simp only [beq_iff_eq] at ht
    subst ht; exact h
  · cases ht
theorem isIntK3.one {v : V} {q : IntKind} (ht : isIntK3 P q t = true) : argV P t [v] = v := by
  unfold isIntK3 at ht
  unfold argV
  split at ht
  · rename_i e hu; simp only [hu]; rfl
  · cases ht
end
namespace N
end N
end Go.AM
end
section
set_option linter.unusedVariables false
set_option linter.unusedSimpArgs false
set_option linter.unusedSimpArgs false
set_option linter.unusedVariables false
set_option maxRecDepth 100000
namespace Go.AM
namespace U
theorem rowsG_of {α : Type} {f : α → List V} {z : Nat} : ∀ (n : Nat) (xs : List V), xs.length = n * z → (∀ j, j < n → ∃ t : α, (xs.drop (j * z)).take z = f t) → ∃ L : List α, L.length = n ∧ xs = L.flatMap f
  | 0, xs, h, _ => ⟨[], rfl, List.eq_nil_of_length_eq_zero (by omega)⟩
  | n + 1, xs, h, hj => by
    obtain ⟨t, ht⟩ := hj 0 (by omega)
    have hz : (n + 1) * z = n * z + z := by rw [Nat.add_mul, Nat.one_mul]
    obtain ⟨L, h1, h2⟩ := rowsG_of (f := f) (z := z) n (xs.drop z) (by rw [List.length_drop, h, hz]; omega) fun j hj2 => by
      obtain ⟨t, ht⟩ := hj (j + 1) (by omega)
      exact ⟨t, by rw [List.drop_drop, ← ht]; congr 2; rw [Nat.add_mul, Nat.one_mul]; omega⟩
    refine ⟨t :: L, by simp [h1], ?_⟩
    rw [List.flatMap_cons, ← h2, ← ht, Nat.zero_mul, List.drop_zero, List.take_append_drop]
theorem rows_of : ∀ (n : Nat) (xs : List V), xs.length = n * 9 → (∀ j, j < n → ∃ t : Tr, (xs.drop (j * 9)).take 9 = t.cells) → ∃ L : List Tr, L.length = n ∧ xs = L.flatMap Tr.cells
  | 0, xs, h, _ => ⟨[], rfl, List.eq_nil_of_length_eq_zero (by omega)⟩
  | n + 1, xs, h, hj => by
    obtain ⟨t, ht⟩ := hj 0 (by omega)
    obtain ⟨L, h1, h2⟩ := rows_of n (xs.drop 9) (by rw [List.length_drop]; omega) fun j hj2 => by
      obtain ⟨t, ht⟩ := hj (j + 1) (by omega)
      exact ⟨t, by rw [List.drop_drop, ← ht]; congr 2; omega⟩
    refine ⟨t :: L, by simp [h1], ?_⟩
    rw [List.flatMap_cons, ← h2, ← ht, Nat.zero_mul, List.drop_zero, List.take_append_drop]
end U
def isPt2 (P : Program) (t : TypeId) : Bool := match P.underlying t with
  | some (.struct fs) => match fs.toList with
    | [f, g] => (f.offset == 0) && (g.offset == 1) && (P.cellsOf f.type == 1) && (P.cellsOf g.type == 1) && (P.cellsOf t == 2) && isIntK3 P .i64 f.type && isIntK3 P .i64 g.type
    | _ => false
  | _ => false
section
variable {P : Program} {k : Nat} {t : TypeId} {cs : List V}
theorem FT.pt2 (ht : isPt2 P t = true) (h : FT P (k + 2) t cs) : ∃ x y, cs = [.int .i64 x, .int .i64 y] := by
  unfold isPt2 at ht
  unfold FT at h
  split at ht
  · rename_i fs hu
    simp only [hu] at h
    split at ht
    · rename_i f g hfs
      simp only [Bool.and_eq_true, beq_iff_eq] at ht
      obtain ⟨⟨⟨⟨⟨⟨a1, a2⟩, a3⟩, a4⟩, a5⟩, a6⟩, a7⟩ := ht
      rw [hfs] at h
      obtain ⟨hl, hf⟩ := h
      have w1 := hf f (by simp)
      have w2 := hf g (by simp)
      rw [a1, a3] at w1
      rw [a2, a4] at w2
      obtain ⟨x, e1, -⟩ := FT.int3 a6 w1
      obtain ⟨y, e2, -⟩ := FT.int3 a7 w2
      rw [a5] at hl
      match cs, hl with
      | [a, b], _ =>
        simp at e1 e2
        exact ⟨x, y, by rw [e1, e2]⟩
    · cases ht
  · cases ht
def isI3 (P : Program) (t : TypeId) : Bool := match P.underlying t with
  | some (.array 3 e) => (P.cellsOf e == 1) && (P.cellsOf t == 3) && isIntK3 P .i64 e
  | _ => false
def isP3 (P : Program) (t : TypeId) : Bool := match P.underlying t with
  | some (.array 3 e) => (P.cellsOf e == 2) && (P.cellsOf t == 6) && isPt2 P e
  | _ => false
def isTriT (P : Program) (t : TypeId) : Bool := match P.underlying t with
  | some (.struct fs) => match fs.toList with
    | [f, g] => (f.offset == 0) && (g.offset == 3) && (P.cellsOf f.type == 3) && (P.cellsOf g.type == 6) && (P.cellsOf t == 9) && isI3 P f.type && isP3 P g.type
    | _ => false
  | _ => false
def isTrisT (P : Program) (t : TypeId) : Bool := match P.underlying t with
  | some (.slice e) => isTriT P e && (P.cellsOf e == 9)
  | _ => false
theorem FT.i3 (ht : isI3 P t = true) (h : FT P (k + 2) t cs) : ∃ x y z, cs = [.int .i64 x, .int .i64 y, .int .i64 z] := by
  unfold isI3 at ht
  unfold FT at h
  split at ht
  · rename_i e hu
    simp only [hu] at h
    simp only [Bool.and_eq_true, beq_iff_eq] at ht
    obtain ⟨⟨a1, a2⟩, a3⟩ := ht
    obtain ⟨hl, hf⟩ := h
    rw [a1] at hf
    rw [a2] at hl
    obtain ⟨x, e1, -⟩ := FT.int3 a3 (hf 0 (by omega))
    obtain ⟨y, e2, -⟩ := FT.int3 a3 (hf 1 (by omega))
    obtain ⟨z, e3, -⟩ := FT.int3 a3 (hf 2 (by omega))
    match cs, hl with
    | [a, b, c], _ =>
      simp at e1 e2 e3
      exact ⟨x, y, z, by rw [e1, e2, e3]⟩
  · cases ht
theorem FT.p3 (ht : isP3 P t = true) (h : FT P (k + 3) t cs) : ∃ a b c d e f, cs = [.int .i64 a, .int .i64 b, .int .i64 c, .int .i64 d, .int .i64 e, .int .i64 f] := by
  unfold isP3 at ht
  unfold FT at h
  split at ht
  · rename_i e hu
    simp only [hu] at h
    simp only [Bool.and_eq_true, beq_iff_eq] at ht
    obtain ⟨⟨a1, a2⟩, a3⟩ := ht
    obtain ⟨hl, hf⟩ := h
    rw [a1] at hf
    rw [a2] at hl
    obtain ⟨x0, y0, e1⟩ := FT.pt2 a3 (hf 0 (by omega))
    obtain ⟨x1, y1, e2⟩ := FT.pt2 a3 (hf 1 (by omega))
    obtain ⟨x2, y2, e3⟩ := FT.pt2 a3 (hf 2 (by omega))
    match cs, hl with
    | [a, b, c, d, e, f], _ =>
      simp at e1 e2 e3
      exact ⟨x0, y0, x1, y1, x2, y2, by rw [e1.1, e1.2, e2.1, e2.2, e3.1, e3.2]⟩
  · cases ht
theorem FT.tri (ht : isTriT P t = true) (h : FT P (k + 4) t cs) : ∃ r : U.Tr, cs = r.cells := by
  unfold isTriT at ht
  unfold FT at h
  split at ht
  · rename_i fs hu
    simp only [hu] at h
    split at ht
    · rename_i f g hfs
      simp only [Bool.and_eq_true, beq_iff_eq] at ht
      obtain ⟨⟨⟨⟨⟨⟨a1, a2⟩, a3⟩, a4⟩, a5⟩, a6⟩, a7⟩ := ht
      rw [hfs] at h
      obtain ⟨hl, hf⟩ := h
      have w1 := hf f (by simp)
      have w2 := hf g (by simp)
      rw [a1, a3] at w1
      rw [a2, a4] at w2
      obtain ⟨x, y, z, e1⟩ := FT.i3 a6 w1
      obtain ⟨b0, b1, b2, b3, b4, b5, e2⟩ := FT.p3 a7 w2
      rw [a5] at hl
      refine ⟨⟨x, y, z, b0, b1, b2, b3, b4, b5⟩, ?_⟩
      match cs, hl with
      | [c0, c1, c2, c3, c4, c5, c6, c7, c8], _ =>
        simp at e1 e2
        obtain ⟨rfl, rfl, rfl⟩ := e1
        obtain ⟨rfl, rfl, rfl, rfl, rfl, rfl⟩ := e2
        rfl
    · cases ht
  · cases ht
theorem FT.tris (ht : isTrisT P t = true) (h : FT P (k + 5) t cs) : ∃ L : List U.Tr, cs = [rowG U.Tr.cells 9 L] := by
  unfold isTrisT at ht
  unfold FT at h
  split at ht
  · rename_i e hu
    simp only [hu] at h
    simp only [Bool.and_eq_true, beq_iff_eq] at ht
    obtain ⟨a1, a2⟩ := ht
    rw [a2] at h
    obtain ⟨len, z, xs, rfl, -, h1, h2, h3, h4⟩ := h
    obtain ⟨L, rfl, rfl⟩ := U.rows_of len xs h3 fun j hj => FT.tri a1 (h4 j hj)
    refine ⟨L, ?_⟩
    unfold rowG
    by_cases h0 : L.length = 0
    · rw [if_pos h0]
      obtain ⟨q1, q2⟩ := h1 h0
      rw [q1, q2, h0]
    · rw [if_neg h0, h2 h0]
  · cases ht
theorem isTrisT.one {v : V} (ht : isTrisT P t = true) : argV P t [v] = v := by
  unfold isTrisT at ht
  unfold argV
  split at ht
  · rename_i e hu; simp only [hu]; rfl
  · cases ht
def isPlT (P : Program) (t : TypeId) : Bool := match P.underlying t with
  | some (.struct fs) => match fs.toList with
    | [f, g] => (f.offset == 0) && (g.offset == 1) && (P.cellsOf f.type == 1) && (P.cellsOf g.type == 2) && (P.cellsOf t == 3) && isIntK3 P .i64 f.type && isPt2 P g.type
    | _ => false
  | _ => false
def isPlacesT (P : Program) (t : TypeId) : Bool := match P.underlying t with
  | some (.slice e) => isPlT P e && (P.cellsOf e == 3)
  | _ => false
def isI3s (P : Program) (t : TypeId) : Bool := match P.underlying t with
  | some (.struct fs) => match fs.toList with
    | [f, g, u] => (f.offset == 0) && (g.offset == 1) && (u.offset == 2) && (P.cellsOf f.type == 1) && (P.cellsOf g.type == 1) && (P.cellsOf u.type == 1) && (P.cellsOf t == 3) && isIntK3 P .i64 f.type && isIntK3 P .i64 g.type && isIntK3 P .i64 u.type
    | _ => false
  | _ => false
theorem FT.pl (ht : isPlT P t = true) (h : FT P (k + 3) t cs) : ∃ r : U.G3, cs = r.cells := by
  unfold isPlT at ht
  unfold FT at h
  split at ht
  · rename_i fs hu
    simp only [hu] at h
    split at ht
    · rename_i f g hfs
      simp only [Bool.and_eq_true, beq_iff_eq] at ht
      obtain ⟨⟨⟨⟨⟨⟨a1, a2⟩, a3⟩, a4⟩, a5⟩, a6⟩, a7⟩ := ht
      rw [hfs] at h
      obtain ⟨hl, hf⟩ := h
      have w1 := hf f (by simp)
      have w2 := hf g (by simp)
      rw [a1, a3] at w1
      rw [a2, a4] at w2
      obtain ⟨x, e1, -⟩ := FT.int3 a6 w1
      obtain ⟨y, z, e2⟩ := FT.pt2 a7 w2
      rw [a5] at hl
      match cs, hl with
      | [a, b, c], _ =>
        simp at e1 e2
        exact ⟨⟨x, y, z⟩, by rw [e1, e2.1, e2.2]; rfl⟩
    · cases ht
  · cases ht
theorem FT.i3s (ht : isI3s P t = true) (h : FT P (k + 2) t cs) : ∃ x y z, cs = [.int .i64 x, .int .i64 y, .int .i64 z] := by
  unfold isI3s at ht
  unfold FT at h
  split at ht
  · rename_i fs hu
    simp only [hu] at h
    split at ht
    · rename_i f g u hfs
      simp only [Bool.and_eq_true, beq_iff_eq] at ht
      obtain ⟨⟨⟨⟨⟨⟨⟨⟨⟨a1, a2⟩, a3⟩, a4⟩, a5⟩, a6⟩, a7⟩, a8⟩, a9⟩, a10⟩ := ht
      rw [hfs] at h
      obtain ⟨hl, hf⟩ := h
      have w1 := hf f (by simp)
      have w2 := hf g (by simp)
      have w3 := hf u (by simp)
      rw [a1, a4] at w1
      rw [a2, a5] at w2
      rw [a3, a6] at w3
      obtain ⟨x, e1, -⟩ := FT.int3 a8 w1
      obtain ⟨y, e2, -⟩ := FT.int3 a9 w2
      obtain ⟨z, e3, -⟩ := FT.int3 a10 w3
      rw [a7] at hl
      match cs, hl with
      | [a, b, c], _ =>
        simp at e1 e2 e3
        exact ⟨x, y, z, by rw [e1, e2, e3]⟩
    · cases ht
  · cases ht
theorem isI3s.agg (ht : isI3s P t = true) : argV P t cs = .agg cs := by
  unfold isI3s at ht
  unfold argV
  split at ht
  · rename_i fs hu; simp only [hu]
  · cases ht
theorem FT.places (ht : isPlacesT P t = true) (h : FT P (k + 5) t cs) : ∃ L : List U.G3, cs = [rowG U.G3.cells 3 L] := by
  unfold isPlacesT at ht
  unfold FT at h
  split at ht
  · rename_i e hu
    simp only [hu] at h
    simp only [Bool.and_eq_true, beq_iff_eq] at ht
    obtain ⟨a1, a2⟩ := ht
    rw [a2] at h
    obtain ⟨len, z, xs, rfl, -, h1, h2, h3, h4⟩ := h
    obtain ⟨L, rfl, rfl⟩ := U.rowsG_of (f := U.G3.cells) (z := 3) len xs h3 fun j hj => FT.pl a1 (h4 j hj)
    refine ⟨L, ?_⟩
    unfold rowG
    by_cases h0 : L.length = 0
    · rw [if_pos h0]
      obtain ⟨q1, q2⟩ := h1 h0
      rw [q1, q2, h0]
    · rw [if_neg h0, h2 h0]
  · cases ht
theorem isPlacesT.one {v : V} (ht : isPlacesT P t = true) : argV P t [v] = v := by
  unfold isPlacesT at ht
  unfold argV
  split at ht
  · rename_i e hu; simp only [hu]; rfl
  · cases ht
end
namespace N
theorem sheetSpecs_all {t u s : TypeId} (ht : isPlacesT P t = true) (hu : isTrisT P u = true) (hs : isI3s P s = true) {H : Heap} {us : List V} (h : FTs P 8 [t, u, s] us) : Tot (fun n => f_law25_SheetSpecs n us H) fun v _ => v = .bool true := by
  obtain ⟨cs, us', rfl, w1, cs2, us2, rfl, w2, cs3, us3, rfl, w3, rfl⟩ := h
  obtain ⟨L, rfl⟩ := FT.places (k := 3) ht w1
  obtain ⟨T, rfl⟩ := FT.tris (k := 3) hu w2
  obtain ⟨n, m, k, rfl⟩ := FT.i3s (k := 6) hs w3
  rw [isPlacesT.one ht, isTrisT.one hu, isI3s.agg hs]
  exact sheetSpecs_P
end N
end Go.AM
end
section
set_option linter.unusedVariables false
set_option linter.unusedSimpArgs false
namespace Go.AM.L
abbrev ty_int : Nat := 3
abbrev ty_uint8 : Nat := 5
abbrev ty_string : Nat := 9
abbrev ty_sl_api_Tri : Nat := 23
abbrev ty_api_Spec : Nat := 30
abbrev ty_api_Point : Nat := 39
abbrev ty_api_Place : Nat := 41
abbrev ty_api_Ghost : Nat := 43
abbrev ty_3_api_Ghost : Nat := 44
abbrev ty_api_Tri : Nat := 50
abbrev ty_p_pdt_Engine : Nat := 52
abbrev ty_pdt_Engine : Nat := 65
abbrev ty_api_Dump : Nat := 71
abbrev ty_p_mesh_Mesh : Nat := 77
abbrev ty_api_Vert : Nat := 81
abbrev ty_api_Cell : Nat := 83
abbrev ty_pdt_sheet : Nat := 95
abbrev ty_p_strings_Builder : Nat := 98
abbrev ty_strings_Builder : Nat := 101
abbrev ty_file_writer : Nat := 103
abbrev ty_sl_int : Nat := 114
abbrev ty_p_arena_Arena : Nat := 116
abbrev ty_mesh_Mesh : Nat := 120
abbrev ty_p_uint8 : Nat := 128
abbrev ty_bucket_Grid : Nat := 131
abbrev ty_arena_Arena : Nat := 137
def tabList0 : List (Nat × List (Nat × List Nat)) := [(9, []),
 (10, [(5, [3, 4, 6, 10, 11, 12, 32, 33, 34]), (9, [3, 4, 6, 10, 11, 12]), (10, [6, 12, 56, 57]), (13, [12, 15, 16, 58, 59, 60])]),
 (12, []),
 (13, []),
 (14, []),
 (15, []),
 (17, []),
 (18, [(5, [1, 2, 6, 40, 41, 42]), (9, [1, 2, 6]), (11, [1, 2, 6, 9, 52, 53, 54]), (15, [1, 2, 6, 9, 11, 12, 52, 53, 54, 60, 61]), (22, [1, 2, 6, 9, 12, 52, 53, 54]), (24, [9])]),
 (19, []),
 (20, []),
 (21, [(5, [3, 12]), (8, [3])]),
 (22, [(4, [1, 3, 23, 24, 25]), (8, [1, 3]), (9, [3, 42, 43, 44]), (13, [3, 8, 42, 43, 44, 48, 49]), (19, [3])])]
def tabList1 : List (Nat × List (Nat × List Nat)) := [(23, [(1, [0, 2, 6, 7]), (4, [0, 2, 4, 6, 7, 10, 11])]),
 (24, [(4, [5, 6, 23, 24, 25]), (9, [5, 6]), (10, [5, 57, 58, 59])]),
 (25, []),
 (28, []),
 (30, [(4, [0, 3]), (9, [0, 3, 4, 5]), (14, [0, 3])]),
 (31, [(5, [0, 2, 3, 20, 21, 22]), (9, [0, 2, 3]), (10, [0, 2, 3, 43, 44, 45])]),
 (32, []),
 (34, []),
 (35, []),
 (36, []),
 (37, []),
 (38, [])]
def tabList2 : List (Nat × List (Nat × List Nat)) := [(39, []),
 (40, []),
 (43, []),
 (45, [(2, [0, 1, 2, 3, 4, 10, 11]), (10, [0, 1, 2, 3, 4, 10, 11, 12]), (15, [0, 1, 2, 3, 4, 10, 11, 12, 13, 14]), (17, [0, 1, 2, 3, 4, 10, 11, 12, 13])]),
 (46, []),
 (48, [(5, [0, 3, 11, 12])]),
 (49, [(2, [0, 1, 2, 3, 4, 10, 11]), (10, [0, 1, 2, 3, 4, 10, 11, 12]), (15, [0, 1, 2, 3, 4, 10, 11, 12, 13, 14]), (17, [0, 1, 2, 3, 4, 10, 11, 12, 13])]),
 (50, [(10, [0, 1, 5]), (11, [0, 1, 5]), (12, [0, 1, 5, 39, 40, 41]), (18, [0, 1, 5]), (22, [1, 8, 63, 64, 65])]),
 (51, []),
 (52, []),
 (57, [(1, [0, 1, 2, 3, 8]), (4, [0, 1, 2, 3, 8, 9])]),
 (66, [(4, [0, 2]), (7, [0, 2]), (10, [0, 2])])]
def tabList3 : List (Nat × List (Nat × List Nat)) := [(70, [(1, [0, 1, 2, 3, 8]), (4, [0, 1, 2, 3, 8, 9])]),
 (78, [(3, [0, 1])]),
 (79, [(8, [0, 5, 6])]),
 (94, []),
 (95, [])]
def tabList : List (Nat × List (Nat × List Nat)) := tabList0 ++ (tabList1 ++ (tabList2 ++ (tabList3)))
def tabs (f : FuncId) : Option (List (Nat × List Nat)) := tabList.lookup f
noncomputable def extList : List (Nat × (List V → Heap → Option R)) := [((80 : Nat), (extId : List V → Heap → Option R)),
 ((116 : Nat), (extMk 5 : List V → Heap → Option R)),
 ((153 : Nat), (extAdd64 : List V → Heap → Option R)),
 ((162 : Nat), (extSub64 : List V → Heap → Option R))]
noncomputable def ext (f : FuncId) : Option (List V → Heap → Option R) := extList.lookup f
def faL : List Nat := [18, 34]
def frL : List Nat := [10, 18, 19, 21, 31, 48]
def puL : List Nat := [9, 10, 14, 22, 35]
def pu (f : FuncId) : Bool := puL.contains f
def fa (f : FuncId) : Bool := faL.contains f
def fr (f : FuncId) : Bool := frL.contains f
noncomputable def C : Cfg := { P, tabs, ext, fa, fr, pu, okc := fun N c => okC P N c }
abbrev i_law25_lives : Nat := 9
abbrev i_sheet_spec : Nat := 10
abbrev i_sheet_good : Nat := 14
abbrev i_sheet_tiles : Nat := 15
abbrev i_sheet_moved : Nat := 16
abbrev i_sheet_tiles_1 : Nat := 23
@[irreducible] noncomputable def f_law25_lives (n : Nat) (args : List V) (H : Heap) : Option R := callA C n 9 args H
@[irreducible] noncomputable def f_sheet_spec (n : Nat) (args : List V) (H : Heap) : Option R := callA C n 10 args H
@[irreducible] noncomputable def f_sheet_good (n : Nat) (args : List V) (H : Heap) : Option R := callA C n 14 args H
@[irreducible] noncomputable def f_sheet_tiles (n : Nat) (args : List V) (H : Heap) : Option R := callA C n 15 args H
@[irreducible] noncomputable def f_sheet_moved (n : Nat) (args : List V) (H : Heap) : Option R := callA C n 16 args H
@[irreducible] noncomputable def f_sheet_tiles_1 (n : Nat) (args : List V) (H : Heap) : Option R := callA C n 23 args H
end Go.AM.L
end
