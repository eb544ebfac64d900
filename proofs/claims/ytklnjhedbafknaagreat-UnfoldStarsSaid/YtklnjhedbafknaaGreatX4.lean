/- Merged by program from: AmSpec AmSim AmKeep AmArg2 AmLaw AmFT UsA RowG UsB UsC UsD UsE UsF UsG UsH UsI UsJ. -/
import Derived.IntWalk
import Derived.WideShapes
import Derived.Test.YtklnjhedbafknaaGreatX3
section
set_option linter.unusedVariables false
set_option linter.unusedSimpArgs false
namespace Go.AM
theorem Tot.yes {c : Prop} [Decidable c] {a b : Nat → Option R} {Q : V → Heap → Prop} (h : c) (ha : Tot a Q) : Tot (fun n => if c then a n else b n) Q := Tot.ite (fun _ => ha) fun k => (k h).elim
theorem Tot.no {c : Prop} [Decidable c] {a b : Nat → Option R} {Q : V → Heap → Prop} (h : ¬ c) (hb : Tot b Q) : Tot (fun n => if c then a n else b n) Q := Tot.ite (fun k => (h k).elim) fun _ => hb
structure Ch (X : Nat → Prop) (H H' : Heap) : Prop where
  n : H.n ≤ H'.n
  get : ∀ i, i < H.n → ¬ X i → H'.get i = H.get i
abbrev Ext0 (H H' : Heap) : Prop := Ch (fun _ => False) H H'
theorem Ch.refl {X : Nat → Prop} {H : Heap} : Ch X H H := ⟨Nat.le_refl _, fun _ _ _ => rfl⟩
theorem Ch.trans {X Y : Nat → Prop} {H H' H'' : Heap} (h : Ch X H H') (k : Ch Y H' H'') (hXY : ∀ i, i < H.n → Y i → X i) : Ch X H H'' :=
  ⟨Nat.le_trans h.n k.n, fun i hi hx => (k.get i (Nat.lt_of_lt_of_le hi h.n) fun y => hx (hXY i hi y)).trans (h.get i hi hx)⟩
theorem Ch.t {X : Nat → Prop} {H H' H'' : Heap} (h : Ch X H H') (k : Ext0 H' H'') : Ch X H H'' := h.trans k fun _ _ f => f.elim
theorem Ch.mono {X Y : Nat → Prop} {H H' : Heap} (h : Ch X H H') (hXY : ∀ i, i < H.n → X i → Y i) : Ch Y H H' := ⟨h.n, fun i hi hy => h.get i hi fun x => hy (hXY i hi x)⟩
theorem Ch.ext {X : Nat → Prop} {H H' : Heap} (h : Ch X H H') (hX : ∀ i, i < H.n → ¬ X i) : Ext0 H H' := h.mono fun i hi x => (hX i hi x).elim
theorem Ch.push {X : Nat → Prop} {H : Heap} {o : O} : Ch X H (H.push o) := ⟨by simp, fun i hi _ => by rw [Heap.get_push, if_neg (by omega)]⟩
theorem Ch.set {X : Nat → Prop} {H : Heap} {i : Nat} {o : O} (hi : X i) : Ch X H (H.set i o) := ⟨by simp, fun j hj hx => by rw [Heap.get_set, if_neg (fun e => hx (by rw [e]; exact hi))]⟩
theorem Ch.more {X : Nat → Prop} {H : Heap} {m : Nat} : Ch X H (H.more m) := ⟨by simp, fun i hi _ => rfl⟩
theorem npz {H : Heap} {o : O} : (H.push o).n = H.n + 1 := (Eq.refl _).trans (Eq.refl _)
theorem nsz {H : Heap} {i : Nat} {o : O} : (H.set i o).n = H.n := (Eq.refl _).trans (Eq.refl _)
theorem nmz {H : Heap} {m : Nat} : (H.more m).n = H.n + m := (Eq.refl _).trans (Eq.refl _)
theorem Heap.gqz {H : Heap} {i : Nat} {o : O} (h : i ≠ H.n) : (H.push o).get i = H.get i := by rw [Heap.get_push, if_neg h]
theorem Heap.gpz {H : Heap} {i : Nat} {o : O} (h : i = H.n) : (H.push o).get i = o := by rw [Heap.get_push, if_pos h]
theorem Heap.gtz {H : Heap} {i j : Nat} {o : O} (h : i ≠ j) : (H.set j o).get i = H.get i := by rw [Heap.get_set, if_neg h]
theorem Heap.gsz {H : Heap} {i j : Nat} {o : O} (h : i = j) : (H.set j o).get i = o := by rw [Heap.get_set, if_pos h]
abbrev nums (k : IntKind) (l : List Nat) : List V := l.map fun (x : Nat) => V.int k x
structure Row (H : Heap) (k : IntKind) (s : Sl) (l : List Nat) : Prop where
  len : s.len = l.length
  low : ∀ b o, s.ad = some (b, o) → b < H.n ∧ s.esz = 1
  mem : l ≠ [] → ∃ b o cs e ro, s.ad = some (b, o) ∧ H.get b = .cells cs e ro ∧ o + l.length ≤ cs.length ∧ (cs.drop o).take l.length = nums k l
def Sl.has (s : Sl) (i : Nat) : Prop := ∃ o, s.ad = some (i, o)
def Fr (n : Nat) (s : Sl) : Prop := ∀ i, s.has i → n ≤ i
def at_ (s : Sl) (i : Nat) : V := match s.ad with
  | some (b, o) => .ptr (some (b, o + i))
  | none => .dead
theorem Row.ch {X : Nat → Prop} {H H' : Heap} {k : IntKind} {s : Sl} {l : List Nat} (h : Row H k s l) (e : Ch X H H') (hX : ∀ i, s.has i → ¬ X i) : Row H' k s l := by
  refine ⟨h.len, fun b o hs => ⟨Nat.lt_of_lt_of_le (h.low b o hs).1 e.n, (h.low b o hs).2⟩, fun hl => ?_⟩
  obtain ⟨b, o, cs, e', ro, h1, h2, h3, h4⟩ := h.mem hl
  exact ⟨b, o, cs, e', ro, h1, by rw [e.get b (h.low b o h1).1 (hX b ⟨o, h1⟩)]; exact h2, h3, h4⟩
theorem Row.ext {H H' : Heap} {k : IntKind} {s : Sl} {l : List Nat} (h : Row H k s l) (e : Ext0 H H') : Row H' k s l := h.ch e fun _ _ f => f
theorem Row.lt {H : Heap} {k : IntKind} {s : Sl} {l : List Nat} (h : Row H k s l) {i : Nat} (hs : s.has i) : i < H.n := by
  obtain ⟨o, hs⟩ := hs; exact (h.low i o hs).1
theorem Row.nil {H : Heap} {k : IntKind} {z : Nat} {f : Bool} : Row H k ⟨none, 0, z, f⟩ [] := ⟨rfl, fun _ _ h => (by cases h), fun h => (h rfl).elim⟩
theorem Row.new {H : Heap} {k : IntKind} {l : List Nat} {b e : Nat} {ro f : Bool} (hb : b < H.n) (hg : H.get b = .cells (nums k l) e ro) : Row H k ⟨some (b, 0), l.length, 1, f⟩ l :=
  ⟨rfl, fun c o h => by (cases h; exact ⟨hb, rfl⟩), fun _ => ⟨b, 0, nums k l, e, ro, rfl, hg, by simp, by rw [List.drop_zero, List.take_of_length_le (by simp)]⟩⟩
theorem Row.lenSl {H : Heap} {k : IntKind} {s : Sl} {l : List Nat} (h : Row H k s l) : lenSl (.slice s) = some (.int .i64 (l.length : Int)) := by
  simp [AM.lenSl, h.len]
theorem Row.idx {H : Heap} {k : IntKind} {s : Sl} {l : List Nat} (h : Row H k s l) {q : IntKind} {i : Int} (h0 : 0 ≤ i) (h1 : i < (l.length : Int)) : idxS 1 (.slice s) (.int q i) = some (at_ s i.toNat) := by
  have hl : l ≠ [] := by intro e; subst e; simp at h1; omega
  obtain ⟨b, o, cs, e', ro, a1, a2, a3, a4⟩ := h.mem hl
  have := (h.low b o a1).2
  simp [idxS, a1, h0, h.len, h1, this, at_]
theorem Row.get {H : Heap} {k : IntKind} {s : Sl} {l : List Nat} (h : Row H k s l) {i : Nat} (hi : i < l.length) : ld1 (at_ s i) H = some (.int k (nth l i : Nat)) := by
  have hl : l ≠ [] := by intro e; subst e; simp at hi
  obtain ⟨b, o, cs, e', ro, a1, a2, a3, a4⟩ := h.mem hl
  simp only [at_, a1, ld1, a2]
  have h5 : ((cs.drop o).take l.length)[i]? = (nums k l)[i]? := by rw [a4]
  rw [List.getElem?_take, if_pos hi, List.getElem?_drop] at h5
  rw [h5]
  simp [nums, nth, List.getElem?_eq_getElem hi, List.getD_eq_getElem?_getD]
theorem Row.rd {H : Heap} {k : IntKind} {s : Sl} {l : List Nat} (h : Row H k s l) : rdS s H = some (nums k l) := by
  by_cases hl : l = []
  · subst hl
    have := h.len
    simp at this
    unfold rdS
    split <;> simp [this, nums]
  · obtain ⟨b, o, cs, e', ro, a1, a2, a3, a4⟩ := h.mem hl
    have h2 := (h.low b o a1).2
    have hn : ¬ s.len = 0 := by rw [h.len]; simpa using hl
    unfold rdS
    rw [a1]
    simp only [if_neg hn, a2, h2, Nat.mul_one]
    rw [h.len, if_pos a3, a4]
theorem Row.src {H : Heap} {k : IntKind} {s : Sl} {l : List Nat} (h : Row H k s l) : srcA 1 (.slice s) H = some (l.length, nums k l) := by
  have : s.ad.isNone = true ∨ s.esz = 1 := by
    cases hs : s.ad with
    | none => exact .inl rfl
    | some p => exact .inr (h.low p.1 p.2 (by rw [hs])).2
  simp only [srcA, if_pos this, h.rd, Option.map_some, h.len]
def subS (s : Sl) (lo hi : Nat) : Sl := ⟨s.ad.map fun (b, o) => (b, o + lo), hi - lo, 1, false⟩
theorem Row.sub {H : Heap} {k : IntKind} {s : Sl} {l : List Nat} (h : Row H k s l) {lo hi : Nat} (h1 : lo ≤ hi) (h2 : hi ≤ l.length) : Row H k (subS s lo hi) ((l.drop lo).take (hi - lo)) := by
  refine ⟨by simp [subS]; omega, ?_, ?_⟩
  · intro b o hs
    unfold subS at hs ⊢
    cases ha : s.ad with
    | none => rw [ha] at hs; simp at hs
    | some p => rw [ha] at hs; simp at hs; exact ⟨by have := (h.low p.1 p.2 (by rw [ha])).1; omega, rfl⟩
  · intro hl
    have hne : l ≠ [] := by intro e; subst e; simp at hl
    obtain ⟨b, o, cs, e', ro, a1, a2, a3, a4⟩ := h.mem hne
    refine ⟨b, o + lo, cs, e', ro, by simp [subS, a1], a2, by simp; omega, ?_⟩
    have hlen : ((l.drop lo).take (hi - lo)).length = hi - lo := by simp; omega
    rw [hlen, ← List.drop_drop]
    have : ((cs.drop o).take l.length).drop lo = (nums k l).drop lo := by rw [a4]
    rw [List.drop_take] at this
    have h6 : (((cs.drop o).drop lo).take (l.length - lo)).take (hi - lo) = ((nums k l).drop lo).take (hi - lo) := by rw [this]
    rw [List.take_take, show min (hi - lo) (l.length - lo) = hi - lo by omega] at h6
    rw [h6]; simp [nums, List.map_drop, List.map_take]
theorem Row.slice {H : Heap} {k : IntKind} {s : Sl} {l : List Nat} (h : Row H k s l) {lo hi : Option V} {a b : Nat} (hlo : bndA 0 lo = some a) (hhi : bndA s.len hi = some b) (h1 : a ≤ b) (h2 : b ≤ l.length) :
    slSl 1 (.slice s) lo hi = some (.slice (subS s a b)) := by
  have : s.ad.isNone = true ∨ s.esz = 1 := by
    cases hs : s.ad with
    | none => exact .inl rfl
    | some p => exact .inr (h.low p.1 p.2 (by rw [hs])).2
  have h3 : b ≤ s.len := by rw [h.len]; exact h2
  simp only [slSl, hlo, hhi, Option.bind_some]
  rw [if_pos ⟨h1, h3, this⟩]
  simp [subS]
theorem bndA_int {d : Nat} {q : IntKind} {i : Int} (h : 0 ≤ i) : bndA d (some (.int q i)) = some i.toNat := by simp [bndA, h]
theorem bndA_none {d : Nat} : bndA d none = some d := rfl
theorem Fr.nil {n z l : Nat} {f : Bool} : Fr n ⟨none, l, z, f⟩ := fun i hi => by unfold Sl.has at hi; simp at hi
def Own (H : Heap) (k : IntKind) (e : Nat) (s : Sl) (l : List Nat) : Prop :=
  (s = ⟨none, 0, 0, false⟩ ∧ l = []) ∨ ∃ b, s = ⟨some (b, 0), l.length, 1, false⟩ ∧ b < H.n ∧ H.get b = .cells (nums k l) e false
theorem Own.row {H : Heap} {k : IntKind} {e : Nat} {s : Sl} {l : List Nat} (h : Own H k e s l) : Row H k s l := by
  rcases h with ⟨rfl, rfl⟩ | ⟨b, rfl, h1, h2⟩
  · exact Row.nil
  · exact Row.new h1 h2
theorem Own.ch {X : Nat → Prop} {H H' : Heap} {k : IntKind} {e : Nat} {s : Sl} {l : List Nat} (h : Own H k e s l) (c : Ch X H H') (hX : ∀ i, s.has i → ¬ X i) : Own H' k e s l := by
  rcases h with h | ⟨b, rfl, h1, h2⟩
  · exact .inl h
  · exact .inr ⟨b, rfl, Nat.lt_of_lt_of_le h1 c.n, by rw [c.get b h1 (hX b ⟨0, rfl⟩)]; exact h2⟩
theorem Own.ext {H H' : Heap} {k : IntKind} {e : Nat} {s : Sl} {l : List Nat} (h : Own H k e s l) (c : Ext0 H H') : Own H' k e s l := h.ch c fun _ _ f => f
theorem rowA_nums {k : IntKind} : ∀ n, rowA [.int k 0] n = nums k (List.replicate n 0)
  | 0 => rfl
  | n + 1 => by
    have := rowA_nums (k := k) n
    simp only [rowA, this, nums, List.replicate_succ, List.map_cons, List.cons_append, List.nil_append]
    rfl
theorem Own.new {H : Heap} {k : IntKind} {e : Nat} {l : List Nat} : Own (H.push (.cells (nums k l) e false)) k e ⟨some (H.n, 0), l.length, 1, false⟩ l :=
  .inr ⟨H.n, rfl, by simp, Heap.gpz rfl⟩
theorem nums_rep {k : IntKind} {n : Nat} : nums k (List.replicate n 0) = List.replicate n (.int k 0) := by simp [nums]
theorem Own.make {H : Heap} {k : IntKind} {e n : Nat} : Own (H.push (.cells (List.replicate n (.int k 0)) e false)) k e ⟨some (H.n, 0), n, 1, false⟩ (List.replicate n 0) :=
  .inr ⟨H.n, by simp, by simp, by rw [nums_rep]; exact Heap.gpz rfl⟩
structure Mut (H : Heap) (k : IntKind) (e b : Nat) (p l q : List Nat) (s : Sl) : Prop where
  ad : s.ad = some (b, p.length)
  len : s.len = l.length
  esz : s.esz = 1
  lt : b < H.n
  get : H.get b = .cells (nums k (p ++ l ++ q)) e false
theorem Mut.row {H : Heap} {k : IntKind} {e b : Nat} {p l q : List Nat} {s : Sl} (h : Mut H k e b p l q s) : Row H k s l :=
  ⟨h.len, fun c o hs => by rw [h.ad] at hs; cases hs; exact ⟨h.lt, h.esz⟩, fun _ => ⟨b, p.length, _, e, false, h.ad, h.get, by simp <;> omega, by
    simp only [nums, List.map_append, List.append_assoc]
    rw [List.drop_left' (by simp)]
    rw [List.take_left' (by simp)]⟩⟩
theorem Mut.has {H : Heap} {k : IntKind} {e b : Nat} {p l q : List Nat} {s : Sl} (h : Mut H k e b p l q s) {i : Nat} : s.has i ↔ i = b := by
  unfold Sl.has; rw [h.ad]; constructor
  · rintro ⟨o, h⟩; simp at h; exact h.1.symm
  · rintro rfl; exact ⟨_, rfl⟩
theorem Mut.ch {X : Nat → Prop} {H H' : Heap} {k : IntKind} {e b : Nat} {p l q : List Nat} {s : Sl} (h : Mut H k e b p l q s) (c : Ch X H H') (hX : ¬ X b) : Mut H' k e b p l q s :=
  ⟨h.ad, h.len, h.esz, Nat.lt_of_lt_of_le h.lt c.n, by rw [c.get b h.lt hX]; exact h.get⟩
theorem Mut.ext {H H' : Heap} {k : IntKind} {e b : Nat} {p l q : List Nat} {s : Sl} (h : Mut H k e b p l q s) (c : Ext0 H H') : Mut H' k e b p l q s := h.ch c fun f => f
theorem Mut.own {H : Heap} {k : IntKind} {e b : Nat} {l : List Nat} {s : Sl} (h : Mut H k e b [] l [] s) (hf : s.full = false) : Own H k e s l := by
  refine .inr ⟨b, ?_, h.lt, by simpa using h.get⟩
  cases s with
  | mk a n z f =>
    have h1 := h.ad; have h2 := h.len; have h3 := h.esz
    simp at h1 h2 h3 hf
    subst h1 h2 h3 hf; rfl
theorem Mut.make {H : Heap} {k : IntKind} {e n : Nat} : Mut (H.push (.cells (List.replicate n (.int k 0)) e false)) k e H.n [] (List.replicate n 0) [] ⟨some (H.n, 0), n, 1, false⟩ :=
  ⟨rfl, by simp, rfl, by simp, by rw [Heap.gpz rfl]; simp⟩
theorem Mut.part {H : Heap} {k : IntKind} {e b : Nat} {l p m q : List Nat} {s : Sl} (h : Mut H k e b [] l [] s) (he : l = p ++ m ++ q) : Mut H k e b p m q (subS s p.length (p.length + m.length)) :=
  ⟨by simp [subS, h.ad], by simp [subS], rfl, h.lt, by rw [h.get, he]; simp⟩
theorem Mut.pre {H : Heap} {k : IntKind} {e b : Nat} {l l1 l2 q : List Nat} {s t : Sl} (h : Mut H k e b [] l q s) (he : l = l1 ++ l2) (h1 : t.ad = s.ad) (h2 : t.esz = 1) (h3 : t.len = l1.length) : Mut H k e b [] l1 (l2 ++ q) t :=
  ⟨by rw [h1, h.ad], h3, h2, h.lt, by rw [h.get, he]; simp⟩
theorem lset_one {cs : List V} {o : Nat} {x : V} : lset cs o [x] = cs.set o x := rfl
theorem Mut.st {H : Heap} {k : IntKind} {e b : Nat} {p l q : List Nat} {s : Sl} (h : Mut H k e b p l q s) {i x : Nat} {xi : Int} (hi : i < l.length) (hx : xi = (x : Int)) :
    ∃ H', stA 1 (at_ s i) (.int k xi) H = some H' ∧ Mut H' k e b p (l.set i x) q s ∧ Ch (· = b) H H' := by
  subst hx
  refine ⟨H.set b (.cells (nums k (p ++ l.set i x ++ q)) e false), ?_, ⟨h.ad, by simp [h.len], h.esz, by simp [h.lt], by rw [Heap.gsz rfl]⟩, Ch.set rfl⟩
  have hc : V.cells (.int k (x : Int)) = [.int k x] := rfl
  simp only [at_, h.ad, stA, h.get, hc]
  rw [if_pos ⟨rfl, by simp; omega, by simp [V.one]⟩, lset_one]
  congr 3
  simp only [nums, ← List.map_set (f := fun (x : Nat) => V.int k x)]
  congr 1
  rw [List.append_assoc, List.append_assoc, List.set_append_right _ _ (by omega), show p.length + i - p.length = i by omega, List.set_append_left _ _ hi]
theorem Tot.st {H : Heap} {k : IntKind} {e b : Nat} {p l q : List Nat} {s : Sl} (h : Mut H k e b p l q s) {i x : Nat} {xi : Int} (hi : i < l.length) (hx : xi = (x : Int)) {K : Nat → Heap → Option R} {Q : V → Heap → Prop}
    (hk : ∀ H', Mut H' k e b p (l.set i x) q s → Ch (· = b) H H' → Tot (fun n => K n H') Q) : Tot (fun n => bnd (stA 1 (at_ s i) (.int k xi) H) (K n)) Q := by
  obtain ⟨H', h1, h2, h3⟩ := h.st hi hx
  simp only [h1, bnd_some]
  exact hk H' h2 h3
theorem mkSl_nums {by_ e : Nat} {k q q' : IntKind} {l c : Int} (h : 0 ≤ l ∧ l ≤ c ∧ c < 2147483648 ∧ by_ ≤ 4096) :
    mkSl 1 by_ e [.int k 0] (.int q l) (.int q' c) = some (.cells (List.replicate l.toNat (.int k 0)) e false, l.toNat) := by
  simp only [mkSl]
  rw [if_pos ⟨h.1, h.2.1, h.2.2.1, h.2.2.2, rfl, rfl⟩, rowA_nums, nums_rep]
theorem mkSl_zero {by_ e : Nat} {k q q' : IntKind} {c : Int} (h : 0 ≤ c ∧ c < 2147483648 ∧ by_ ≤ 4096) :
    mkSl 1 by_ e [.int k 0] (.int q 0) (.int q' c) = some (.cells (nums k []) e false, 0) := by
  rw [mkSl_nums (by omega)]; rfl
end Go.AM
end
section
set_option linter.unusedVariables false
set_option linter.unusedSimpArgs false
namespace Go.AM
theorem wrap_i64 {n : Int} (h : -9223372036854775808 ≤ n ∧ n ≤ 9223372036854775807) : IntKind.i64.wrap n = n := IntWalk.i64_in n h
theorem wrap_u64 {n : Int} (h : 0 ≤ n ∧ n ≤ 18446744073709551615) : IntKind.u64.wrap n = n := IntWalk.u64_in n h
theorem wrap_u32 {n : Int} (h : 0 ≤ n ∧ n ≤ 4294967295) : IntKind.u32.wrap n = n := IntWalk.u32_in n h
theorem wrap_u8 {n : Int} (h : 0 ≤ n ∧ n ≤ 255) : IntKind.u8.wrap n = n := IntWalk.u8_in n h
theorem wrap_u64m (n : Int) : IntKind.u64.wrap n = n % 18446744073709551616 := rfl
theorem ar_add {k : IntKind} {a b : Int} : arA .add (.int k a) (.int k b) = some (.int k (k.wrap (a + b))) := by simp [arA, intA]
theorem ar_sub {k : IntKind} {a b : Int} : arA .sub (.int k a) (.int k b) = some (.int k (k.wrap (a - b))) := by simp [arA, intA]
theorem ar_mul {k : IntKind} {a b : Int} : arA .mul (.int k a) (.int k b) = some (.int k (k.wrap (a * b))) := by simp [arA, intA]
theorem ar_quo {k : IntKind} {a b : Int} (h : 0 ≤ a ∧ 1 ≤ b) : arA .quo (.int k a) (.int k b) = some (.int k (k.wrap (a / b))) := by
  have : b ≠ 0 := by omega
  simp [arA, intA, this, Int.tdiv_eq_ediv_of_nonneg h.1]
theorem ar_rem {k : IntKind} {a b : Int} (h : 0 ≤ a ∧ 1 ≤ b) : arA .rem (.int k a) (.int k b) = some (.int k (a % b)) := by
  have : b ≠ 0 := by omega
  simp [arA, intA, this, Int.tmod_eq_emod_of_nonneg h.1]
theorem ar_lss {k : IntKind} {a b : Int} : arA .lss (.int k a) (.int k b) = some (.bool (decide (a < b))) := by simp [arA, intA]
theorem ar_leq {k : IntKind} {a b : Int} : arA .leq (.int k a) (.int k b) = some (.bool (decide (a ≤ b))) := by simp [arA, intA]
theorem ar_gtr {k : IntKind} {a b : Int} : arA .gtr (.int k a) (.int k b) = some (.bool (decide (a > b))) := by simp [arA, intA]
theorem ar_geq {k : IntKind} {a b : Int} : arA .geq (.int k a) (.int k b) = some (.bool (decide (a ≥ b))) := by simp [arA, intA]
theorem ar_eql {k : IntKind} {a b : Int} : arA .eql (.int k a) (.int k b) = some (.bool (decide (a = b))) := by
  have : (a == b) = decide (a = b) := by by_cases h : a = b <;> simp [h]
  simp [arA, intA, this]
theorem ar_neq {k : IntKind} {a b : Int} : arA .neq (.int k a) (.int k b) = some (.bool (decide (a ≠ b))) := by
  have : (a != b) = decide (a ≠ b) := by by_cases h : a = b <;> simp [h]
  simp [arA, intA, this]
theorem shr_u64 {q : IntKind} {a : Int} (h : 0 ≤ a) : shA .shr (.int .u64 a) (.int q 32) = some (.int .u64 (a / 4294967296)) := by
  simp [shA, shiftA, IntKind.bits, Int.fdiv_eq_ediv_of_nonneg]
theorem shr_u64_63 {q : IntKind} {a : Int} (h : 0 ≤ a) : shA .shr (.int .u64 a) (.int q 63) = some (.int .u64 (a / 9223372036854775808)) := by
  simp [shA, shiftA, IntKind.bits, Int.fdiv_eq_ediv_of_nonneg]
theorem wrap_u64_pos (z : Int) : 0 ≤ IntKind.u64.wrap z := by rw [wrap_u64m]; exact Int.emod_nonneg _ (by decide)
theorem shr_u64w {q : IntKind} {a : Int} : shA .shr (.int .u64 (IntKind.u64.wrap a)) (.int q 32) = some (.int .u64 (IntKind.u64.wrap a / 4294967296)) := shr_u64 (wrap_u64_pos _)
theorem shr_u64_63w {q : IntKind} {a : Int} : shA .shr (.int .u64 (IntKind.u64.wrap a)) (.int q 63) = some (.int .u64 (IntKind.u64.wrap a / 9223372036854775808)) := shr_u64_63 (wrap_u64_pos _)
theorem asB_bool {b : Bool} : asB (.bool b) = some b := (Eq.refl _).trans (Eq.refl _)
theorem cv_int {k k' : IntKind} {n : Int} : cvInt k (.int k' n) = some (.int k (k.wrap n)) := (Eq.refl _).trans (Eq.refl _)
theorem ext_tuple {vs : List V} {i : Nat} : extA (.tuple vs) i = vs[i]? := (Eq.refl _).trans (Eq.refl _)
theorem lenSl_mk {a : Option (Nat × Nat)} {l z : Nat} {f : Bool} : lenSl (.slice ⟨a, l, z, f⟩) = some (.int .i64 (l : Int)) := (Eq.refl _).trans (Eq.refl _)
theorem faA_mk {b o off : Nat} : faA off (.ptr (some (b, o))) = some (.ptr (some (b, o + off))) := (Eq.refl _).trans (Eq.refl _)
attribute [simp] ar_add ar_sub ar_mul ar_quo ar_rem ar_lss ar_leq ar_gtr ar_geq ar_eql ar_neq shr_u64 shr_u64_63 shr_u64w shr_u64_63w asB_bool cv_int ext_tuple lenSl_mk faA_mk
theorem more_zero {H : Heap} : H.more 0 = H := (Eq.refl _).trans (Eq.refl _)
attribute [simp] more_zero mkSl_nums
attribute [simp high] mkSl_zero
attribute [simp] wrap_i64 wrap_u64 wrap_u32 wrap_u8 bndA_int bndA_none
theorem one_bool {b : Bool} : V.one (.bool b) = true := (Eq.refl _).trans (Eq.refl _)
theorem one_int {k : IntKind} {n : Int} : V.one (.int k n) = true := (Eq.refl _).trans (Eq.refl _)
theorem one_slice {s : Sl} : V.one (.slice s) = true := (Eq.refl _).trans (Eq.refl _)
theorem one_str {s : List UInt8} : V.one (.str s) = true := (Eq.refl _).trans (Eq.refl _)
theorem cells_bool {b : Bool} : V.cells (.bool b) = [.bool b] := (Eq.refl _).trans (Eq.refl _)
theorem cells_int {k : IntKind} {n : Int} : V.cells (.int k n) = [.int k n] := (Eq.refl _).trans (Eq.refl _)
theorem cells_slice {s : Sl} : V.cells (.slice s) = [.slice s] := (Eq.refl _).trans (Eq.refl _)
theorem cells_agg {l : List V} : V.cells (.agg l) = l := (Eq.refl _).trans (Eq.refl _)
theorem boxA_agg {e : Nat} {cs : List V} (h : cs.all V.one = true) : boxA e (.agg cs) = some (.cells cs e false) := by simp only [boxA, cells_agg, h, if_true]
theorem un_not {b : Bool} : unA .not (.bool b) = some (.bool !b) := (Eq.refl _).trans (Eq.refl _)
theorem un_neg {k : IntKind} {n : Int} : unA .neg (.int k n) = some (.int k (k.wrap (0 - n))) := (Eq.refl _).trans (Eq.refl _)
theorem chk_bool {b : Bool} : chk (some (.bool b)) (.bool b) = some () := by simp [chk, V.beq]
theorem chk_int {k : IntKind} {n : Int} : chk (some (.int k n)) (.int k n) = some () := by simp [chk, V.beq]
theorem chk_slice {s : Sl} : chk (some (.slice s)) (.slice s) = some () := by simp [chk, V.beq]
theorem beqs_self : ∀ (l : List V), (∀ v, v ∈ l → V.beq v v = true) → V.beqs l l = true
  | [], _ => by simp [V.beqs]
  | v :: l, h => by simp [V.beqs, h v (by simp), beqs_self l fun u hu => h u (by simp [hu])]
theorem ld1_push_ne {H : Heap} {i o : Nat} {ob : O} (h : i ≠ H.n) : ld1 (.ptr (some (i, o))) (H.push ob) = ld1 (.ptr (some (i, o))) H := by simp only [ld1, Heap.gqz h]
theorem ld1_push_eq {H : Heap} {i o e : Nat} {cs : List V} {r : Bool} (h : i = H.n) : ld1 (.ptr (some (i, o))) (H.push (.cells cs e r)) = cs[o]? := by simp only [ld1, Heap.gpz h]
theorem ldN_push_ne {H : Heap} {n i o : Nat} {ob : O} (h : i ≠ H.n) : ldN n (.ptr (some (i, o))) (H.push ob) = ldN n (.ptr (some (i, o))) H := by simp only [ldN, Heap.gqz h]
theorem ldN_push_eq {H : Heap} {n i o e : Nat} {cs : List V} {r : Bool} (h : i = H.n) (hn : o + n ≤ cs.length) : ldN n (.ptr (some (i, o))) (H.push (.cells cs e r)) = some (.agg ((cs.drop o).take n)) := by simp only [ldN, Heap.gpz h, if_pos hn]
theorem Ch.ld1 {X : Nat → Prop} {H H' : Heap} (c : Ch X H H') {i o : Nat} (h : i < H.n) (hx : ¬ X i) : ld1 (.ptr (some (i, o))) H' = ld1 (.ptr (some (i, o))) H := by simp only [AM.ld1, c.get i h hx]
theorem Ch.ldN {X : Nat → Prop} {H H' : Heap} (c : Ch X H H') {n i o : Nat} (h : i < H.n) (hx : ¬ X i) : ldN n (.ptr (some (i, o))) H' = ldN n (.ptr (some (i, o))) H := by simp only [AM.ldN, c.get i h hx]
theorem Ch.l1 {H H' : Heap} (c : Ext0 H H') {i o : Nat} (h : i < H.n) : AM.ld1 (.ptr (some (i, o))) H' = AM.ld1 (.ptr (some (i, o))) H := c.ld1 h fun f => f
theorem Ch.g {H H' : Heap} (c : Ext0 H H') {i : Nat} (h : i < H.n) : H'.get i = H.get i := c.get i h fun f => f
attribute [simp] one_bool one_int one_slice one_str cells_bool cells_int cells_slice cells_agg boxA_agg un_not un_neg chk_bool chk_int chk_slice ld1_push_ne ld1_push_eq ldN_push_ne ldN_push_eq flA flE fillA lset Heap.gqz Heap.gpz
end Go.AM
end
section
set_option linter.unusedVariables false
set_option linter.unusedSimpArgs false
set_option linter.unusedSimpArgs false
namespace Go.AM
structure Keep (lo : Nat) (H H' : Heap) : Prop where
  n : H.n ≤ H'.n
  get : ∀ i, lo ≤ i → i < H.n → H'.get i = H.get i
theorem Keep.refl {lo : Nat} {H : Heap} : Keep lo H H := ⟨Nat.le_refl _, fun _ _ _ => rfl⟩
theorem Keep.call {lo : Nat} {H H' H'' : Heap} (h : Keep lo H H') (c : Ext0 H' H'') : Keep lo H H'' :=
  ⟨Nat.le_trans h.n c.n, fun i h1 h2 => (c.get i (Nat.lt_of_lt_of_le h2 h.n) fun f => f).trans (h.get i h1 h2)⟩
theorem Keep.push {lo : Nat} {H H' : Heap} {o : O} (h : Keep lo H H') : Keep lo H (H'.push o) := h.call Ch.push
theorem Keep.more {lo m : Nat} {H H' : Heap} (h : Keep lo H H') : Keep lo H (H'.more m) := h.call Ch.more
theorem Keep.set {lo j : Nat} {H H' : Heap} {o : O} (h : Keep lo H H') (hj : j < lo ∨ H.n ≤ j) : Keep lo H (H'.set j o) :=
  ⟨by simpa using h.n, fun i h1 h2 => by rw [Heap.gtz (by omega)]; exact h.get i h1 h2⟩
theorem Keep.ext {H H' : Heap} (h : Keep 0 H H') : Ext0 H H' := ⟨h.n, fun i hi _ => h.get i (Nat.zero_le _) hi⟩
theorem Row.keep {lo : Nat} {H H' : Heap} {k : IntKind} {s : Sl} {l : List Nat} (h : Row H k s l) (f : Fr lo s) (c : Keep lo H H') : Row H' k s l := by
  refine ⟨h.len, fun b o hs => ⟨Nat.lt_of_lt_of_le (h.low b o hs).1 c.n, (h.low b o hs).2⟩, fun hl => ?_⟩
  obtain ⟨b, o, cs, e', ro, h1, h2, h3, h4⟩ := h.mem hl
  exact ⟨b, o, cs, e', ro, h1, by rw [c.get b (f b ⟨o, h1⟩) (h.low b o h1).1]; exact h2, h3, h4⟩
theorem Fr.zero {s : Sl} : Fr 0 s := fun _ _ => Nat.zero_le _
theorem Fr.mono {m n : Nat} {s : Sl} (h : Fr n s) (hm : m ≤ n) : Fr m s := fun i hi => Nat.le_trans hm (h i hi)
theorem gmz {H : Heap} {m j : Nat} : (H.more m).get j = H.get j := (Eq.refl _).trans (Eq.refl _)
theorem lgz {n i o : Nat} {H : Heap} : ldN n (.ptr (some (i, o))) H = (match H.get i with | .cells cs _ _ => if o + n ≤ cs.length then some (.agg ((cs.drop o).take n)) else none | _ => none) := (Eq.refl _).trans (Eq.refl _)
theorem chk_agg {l : List V} (h : ∀ v, v ∈ l → V.beq v v = true) : chk (some (.agg l)) (.agg l) = some () := by simp [chk, V.beq, beqs_self l h]
theorem beq_bool {b : Bool} : V.beq (.bool b) (.bool b) = true := by simp [V.beq]
theorem beq_int {k : IntKind} {n : Int} : V.beq (.int k n) (.int k n) = true := by simp [V.beq]
theorem beq_slice {s : Sl} : V.beq (.slice s) (.slice s) = true := by simp [V.beq]
theorem gs {a : V} {l : List V} {i : Nat} : (a :: l)[i + 1]? = l[i]? := by simp
theorem chk_i {b : Bool} {s : Sl} : chk (some (.agg [.bool b, .slice s])) (.agg [.bool b, .slice s]) = some () := chk_agg (by simp [V.beq])
theorem chk_r {b : Bool} {s t : Sl} : chk (some (.agg [.bool b, .slice s, .slice t])) (.agg [.bool b, .slice s, .slice t]) = some () := chk_agg (by simp [V.beq])
theorem chk_i' {k : IntKind} {b : Int} {s : Sl} : chk (some (.agg [.int k b, .slice s])) (.agg [.int k b, .slice s]) = some () := chk_agg (by simp [V.beq])
theorem chk_r' {k l : IntKind} {b c : Int} {s t : Sl} : chk (some (.agg [.int k b, .slice s, .int l c, .slice t])) (.agg [.int k b, .slice s, .int l c, .slice t]) = some () := chk_agg (by simp [V.beq])
attribute [simp] chk_i chk_r chk_i' chk_r'
attribute [simp] beq_bool beq_int beq_slice
theorem Tot.pure {α : Type} {x : Option α} {a : α} {k : Nat → α → Option R} {Q : V → Heap → Prop} (h : x = some a) (hk : Tot (fun n => k n a) Q) : Tot (fun n => bnd x (k n)) Q := by
  subst h; exact hk
theorem Tot.chk {x : Option Unit} {k : Nat → Unit → Option R} {Q : V → Heap → Prop} (h : x = some ()) (hk : Tot (fun n => k n ()) Q) : Tot (fun n => bnd x (k n)) Q := by
  subst h; exact hk
theorem Keep.auto {lo : Nat} {H H' : Heap} (h : Keep lo H H' := by (repeat (first | exact Keep.refl | refine Keep.call ?_ (by assumption) | refine Keep.push ?_ | refine Keep.more ?_ | refine Keep.set ?_ (by first | omega | (simp only [npz, nsz, nmz] <;> omega) | fail)))) : Keep lo H H' := h
theorem Tot.autoP {α : Type} {x : Option α} {a : α} {k : Nat → α → Option R} {Q : V → Heap → Prop} (hk : Tot (fun n => k n a) Q) (h : x = some a := by simp (disch := first | omega | (simp only [npz, nsz, nmz] <;> omega) | fail) [lhz, lgz, sgz, boxA, gz, gs, Heap.gqz, Heap.gpz, Heap.gtz, Heap.gsz, gmz, npz, nsz, nmz]; try exact rfl) : Tot (fun n => bnd x (k n)) Q := Tot.pure h hk
theorem Tot.autoC {x : Option Unit} {k : Nat → Unit → Option R} {Q : V → Heap → Prop} (hk : Tot (fun n => k n ()) Q) (h : x = some () := by simp (disch := first | omega | (simp only [npz, nsz, nmz] <;> omega) | fail) [lhz, lgz, sgz, boxA, gz, gs, Heap.gqz, Heap.gpz, Heap.gtz, Heap.gsz, gmz, npz, nsz, nmz]; done) : Tot (fun n => bnd x (k n)) Q := Tot.chk h hk
end Go.AM
end
section
set_option linter.unusedVariables false
set_option linter.unusedSimpArgs false
set_option linter.unusedSimpArgs false
namespace Go.AM
open Go.RowKit (Below)
section
variable {P : Program} {B n0 N : Nat} {w0 w1 w w' w'' : World} {μ0 μ μ' μ'' ν : Mu} {H0 H H' H'' : Heap} {T : Type} {enc : TypeId × Value → T}
theorem got_one {k : Nat} {t : TypeId} {v : V} {x : Value} (hr : Rel B w0 μ H w) (ho : ∀ j M, μ j = some M → (H.get j).own = false) (h1 : VRel μ v x) (h2 : v.one = true) (h3 : P.cellsOf t = 1) (h4 : WT P k t [v] H) : Got P B w0 μ H w k t [x] :=
  ⟨μ, H, [v], Grows.refl, hr, ho, by simp only [VRels]; exact ⟨x, [], rfl, h1, rfl⟩, by simp [h2], by simp [h3], h4⟩
theorem cells_spec {base n : Nat} {a : Addr} {xs : List Value} (h : w.cells? base a n = some xs) : xs.length = n ∧ ∀ (i : Nat), i < n → w.cell? (a.add i) = xs[i]? := by
  unfold World.cells? at h
  split at h
  · obtain ⟨h1, h2⟩ := mapM_some h
    simp at h1
    refine ⟨h1.symm, fun i hi => ?_⟩
    obtain ⟨y, h3, h4⟩ := h2 i i (by simp [hi])
    rw [h3, h4]
  · simp at h
theorem cell_spot {a : Addr} {x : Value} (h : w.cell? a = some x) : ∃ c e fr, w.heap[a.block]? = some (.cells c e fr) ∧ a.spot = none ∧ c[a.off]? = some x := by
  unfold World.cell? at h
  split at h
  · rename_i c e fr hb
    split at h
    · simp at h
    · rename_i hs; exact ⟨c, e, fr, hb, by simpa using hs, h⟩
  · simp at h
theorem flatten_get {α : Type} {k : Nat} {xss : List (List α)} {i j : Nat} {xs : List α} (hl : ∀ (i : Nat) (u : List α), xss[i]? = some u → u.length = k) (hi : xss[i]? = some xs) (hj : j < k) : xss.flatten[i * k + j]? = xs[j]? := by
  have := flatten_chunk hl hi
  rw [← this, List.getElem?_take, if_pos hj, List.getElem?_drop]
theorem build_list {A : Type} : ∀ (n : Nat) {Q : Nat → A → Prop}, (∀ i, i < n → ∃ x, Q i x) → ∃ l : List A, l.length = n ∧ ∀ (i : Nat) (x : A), l[i]? = some x → Q i x
  | 0, Q, _ => ⟨[], rfl, by simp⟩
  | n + 1, Q, h => by
    obtain ⟨x, hx⟩ := h 0 (by omega)
    obtain ⟨l, hl, hq⟩ := build_list n (Q := fun i x => Q (i + 1) x) fun i hi => h (i + 1) (by omega)
    refine ⟨x :: l, by simp [hl], ?_⟩
    intro i y hy
    cases i with
    | zero => simp at hy; subst hy; exact hx
    | succ i => simp at hy; exact hq i y hy
theorem chunk_whole {α : Type} {k : Nat} {cs : List α} : ∀ {xss : List (List α)} {off : Nat}, off + xss.length * k = cs.length → (∀ (i : Nat) (u : List α), xss[i]? = some u → u = (cs.drop (off + i * k)).take k) → xss.flatten = cs.drop off
  | [], off, h, _ => by simp at h; simp [h]
  | u :: xss, off, h, hu => by
    have h0 := hu 0 u (by simp)
    simp only [Nat.zero_mul, Nat.add_zero] at h0
    have ih := chunk_whole (k := k) (cs := cs) (xss := xss) (off := off + k) (by simp [Nat.succ_mul] at h; omega) fun i v hv => by
      have := hu (i + 1) v (by simpa using hv)
      rw [this, Nat.succ_mul]
      congr 2
      omega
    simp only [List.flatten_cons, ih, h0]
    rw [← List.drop_drop]
    exact List.take_append_drop _ _
theorem add_off (a : Addr) (i : Nat) (hs : a.spot = none) : a.add i = ⟨a.block, a.off + i, none⟩ := by
  cases a with
  | mk b o s =>
    simp only at hs; subst hs
    unfold Addr.add
    split
    · rename_i h; subst h; rfl
    · rfl
theorem got_slice {k fuel len cap : Nat} {t e : TypeId} {a : Addr} (hr : Rel B w0 μ H w) (ho : ∀ j M, μ j = some M → (H.get j).own = false)
    (hu : P.underlying t = some (.slice e)) (hp1 : P.cellsOf t = 1) (hp2 : 0 < P.cellsOf e) (hlc : len ≤ cap) (hcm : cap ≤ maxLen)
    (hstep : ∀ (x : {xs : List Value // ∃ d ps, DataW.trod enc P w 0 (fun _ => true) true fuel e xs = some (d, ps)}) (μ : Mu) (H : Heap), Rel B w0 μ H w → (∀ j M, μ j = some M → (H.get j).own = false) → Got P B w0 μ H w k e x.1)
    (hE : ∀ i, i < cap → ∃ xs, w.cells? 0 (a.add (i * P.cellsOf e)) (P.cellsOf e) = some xs ∧ ∃ d ps, DataW.trod enc P w 0 (fun _ => true) true fuel e xs = some (d, ps)) :
    Got P B w0 μ H w (k + 1) t [.slice (some a) len cap] := by
  by_cases hc0 : cap = 0
  · subst hc0
    have hl0 : len = 0 := by omega
    subst hl0
    have hfr : μ H.n = none := hr.fresh (Nat.le_refl _)
    refine ⟨μ.put H.n ⟨0, 0, 0⟩, H.push .none, [.slice ⟨some (H.n, 0), 0, P.cellsOf e, false⟩], ⟨Mu.le_put hfr, by simp, fun i hi => by rw [Heap.get_push, if_neg (by omega)]⟩,
      hr.lay (by simp [O.live]) rfl ho trivial, ?_, ?_, rfl, by simp [hp1], ?_⟩
    · intro j M e1
      rw [Heap.get_push]
      simp only [Mu.put] at e1
      split at e1
      · rename_i hj; rw [if_pos hj]; rfl
      · rename_i hj; rw [if_neg hj]; exact ho j M e1
    · simp only [VRels, VRel]
      exact ⟨_, _, rfl, ⟨⟨0, 0, 0⟩, a, 0, by simp [Mu.put], rfl, Nat.le_refl _, by simp, .inl rfl⟩, rfl⟩
    · unfold WT
      simp only [hu]
      exact .inr ⟨H.n, 0, false, rfl, by simp, by omega, by simp⟩
  · obtain ⟨las, hl, hq⟩ := build_list (A := {xs : List Value // ∃ d ps, DataW.trod enc P w 0 (fun _ => true) true fuel e xs = some (d, ps)}) len
      (Q := fun i x => w.cells? 0 (a.add (i * P.cellsOf e)) (P.cellsOf e) = some x.1) fun i hi => by
        obtain ⟨xs, h1, h2⟩ := hE i (by omega)
        exact ⟨⟨xs, h2⟩, h1⟩
    obtain ⟨μ1, H1, vss, g1, r1, o1, l1, v1, n1, t1⟩ := got_list (P := P) (fuel := k) (w := w) (w0 := w0) (B := B) (fun _ => e) (fun x => x.1) hstep las μ H hr ho
    have hget : ∀ (i : Nat) (u : List V), vss[i]? = some u → u.length = P.cellsOf e ∧ WT P k e u H1 := by
      intro i u h2
      have hi : i < las.length := by rw [← l1]; exact (List.getElem?_eq_some_iff.mp h2).1
      exact t1 i _ u (List.getElem?_eq_getElem hi) h2
    have hfl := flatten_len fun i u hi => (hget i u hi).1
    rw [l1, hl] at hfl
    have hlast : ∃ c e' fr, w.heap[a.block]? = some (.cells c e' fr) ∧ a.spot = none ∧ a.off + cap * P.cellsOf e ≤ c.size := by
      obtain ⟨xs, h1, _⟩ := hE (cap - 1) (by omega)
      obtain ⟨hx1, hx2⟩ := cells_spec h1
      have h3 := hx2 (P.cellsOf e - 1) (by omega)
      have h4 : xs[P.cellsOf e - 1]? = some (xs[P.cellsOf e - 1]'(by omega)) := List.getElem?_eq_getElem _
      rw [h4] at h3
      obtain ⟨c, e', fr, k1, k2, k3⟩ := cell_spot h3
      have hs : a.spot = none := by
        obtain ⟨ys, j1, _⟩ := hE 0 (by omega)
        obtain ⟨jx1, jx2⟩ := cells_spec j1
        have j3 := jx2 0 hp2
        have j4 : ys[0]? = some (ys[0]'(by omega)) := List.getElem?_eq_getElem _
        rw [j4] at j3
        obtain ⟨_, _, _, _, m2, _⟩ := cell_spot j3
        simpa [Addr.add] using m2
      rw [add_off a _ hs, add_off _ _ rfl] at k1 k3
      simp only at k1 k3
      have k4 := (Array.getElem?_eq_some_iff.mp k3).1
      refine ⟨c, e', fr, k1, hs, ?_⟩
      have : cap * P.cellsOf e = (cap - 1) * P.cellsOf e + P.cellsOf e := by
        rw [← Nat.succ_mul]; congr 1; omega
      omega
    obtain ⟨c, e', fr, hb, hs, hsz⟩ := hlast
    have hfr : μ1 H1.n = none := r1.fresh (Nat.le_refl _)
    have hle := Mu.le_put (L := ⟨a.block, a.off, c.size⟩) hfr
    have hmul : len * P.cellsOf e ≤ cap * P.cellsOf e := Nat.mul_le_mul_right _ hlc
    refine ⟨μ1.put H1.n ⟨a.block, a.off, c.size⟩, H1.push (.cells vss.flatten e true), [.slice ⟨some (H1.n, 0), len, P.cellsOf e, false⟩],
      g1.trans ⟨hle, by simp, fun i hi => by rw [Heap.get_push, if_neg (by omega)]⟩,
      r1.lay (fun _ => (Array.getElem?_eq_some_iff.mp hb).1) rfl o1 ?_, ?_, ?_, rfl, by simp [hp1], ?_⟩
    · refine ⟨c, e', fr, hb, rfl, by simp only [hfl]; omega, ?_, by simp⟩
      intro j v hv
      have hj : j < len * P.cellsOf e := by rw [← hfl]; exact (List.getElem?_eq_some_iff.mp hv).1
      refine ⟨?_, ?_⟩
      · have := List.all_eq_true.mp n1 v (List.mem_of_getElem? hv)
        exact this
      · obtain ⟨x, hx, hv'⟩ := VRels.get v1 j v hv
        refine ⟨x, ?_, VRel.mono hle _ _ hv'⟩
        have hdm : j / P.cellsOf e < len := (Nat.div_lt_iff_lt_mul hp2).mpr hj
        have hja : las[j / P.cellsOf e]? = some (las[j / P.cellsOf e]'(by omega)) := List.getElem?_eq_getElem _
        have hq1 := hq _ _ hja
        obtain ⟨hx1, hx2⟩ := cells_spec hq1
        have hmod : j % P.cellsOf e < P.cellsOf e := Nat.mod_lt _ hp2
        have h3 := hx2 _ hmod
        have hlens : ∀ (i : Nat) (u : List Value), (las.map fun x => x.1)[i]? = some u → u.length = P.cellsOf e := by
          intro i u hi
          rw [List.getElem?_map] at hi
          cases ha : las[i]? with
          | none => rw [ha] at hi; simp at hi
          | some y => rw [ha] at hi; simp at hi; rw [← hi]; exact (cells_spec (hq i y ha)).1
        have h4 := flatten_get (xss := las.map fun x => x.1) (i := j / P.cellsOf e) (j := j % P.cellsOf e) (k := P.cellsOf e) hlens (by rw [List.getElem?_map, hja]; rfl) hmod
        have hjj : j / P.cellsOf e * P.cellsOf e + j % P.cellsOf e = j := by rw [Nat.mul_comm]; exact Nat.div_add_mod _ _
        rw [hjj, hx] at h4
        rw [← h4, add_off a _ hs, add_off _ _ rfl] at h3
        obtain ⟨c', e'', fr', k1, k2, k3⟩ := cell_spot h3
        simp only at k1 k3
        rw [hb] at k1
        cases k1
        rw [show a.off + j / P.cellsOf e * P.cellsOf e + j % P.cellsOf e = a.off + j by omega] at k3
        exact k3
    · intro j M e1
      rw [Heap.get_push]
      simp only [Mu.put] at e1
      split at e1
      · rename_i hj; rw [if_pos hj]; rfl
      · rename_i hj; rw [if_neg hj]; exact o1 j M e1
    · simp only [VRels, VRel]
      refine ⟨_, _, rfl, ⟨⟨a.block, a.off, c.size⟩, a, cap, by simp [Mu.put], rfl, hlc, by simp, .inr ⟨?_, by simpa using hsz⟩⟩, rfl⟩
      cases a with
      | mk b o s => simp at hs; subst hs; simp
    · unfold WT
      simp only [hu]
      refine .inr ⟨H1.n, len, false, rfl, by simp, by omega, fun _ => ⟨e, vss.flatten, by rw [Heap.get_push, if_pos rfl], hfl, fun j hj => ?_⟩⟩
      have h2 : vss[j]? = some vss[j] := List.getElem?_eq_getElem (by omega)
      rw [flatten_chunk (fun i u hi => (hget i u hi).1) h2]
      exact (hget j _ h2).2.mono (by simp) fun i hi => by rw [Heap.get_push, if_neg (by omega)]
theorem got : ∀ (k : Nat) (t : TypeId), plainT P k t = true → ∀ (fuel : Nat) (cs : List Value) (d : DataW T) (ps : List MemPlace),
    DataW.trod enc P w 0 (fun _ => true) true fuel t cs = some (d, ps) → ∀ (μ : Mu) (H : Heap), Rel B w0 μ H w → (∀ j M, μ j = some M → (H.get j).own = false) → Got P B w0 μ H w k t cs
  | 0, t, hp, _, _, _, _, _, _, _, _, _ => by simp [plainT] at hp
  | k + 1, t, hp, 0, cs, d, ps, h, μ, H, hr, ho => by simp [DataW.trod] at h
  | k + 1, t, hp, fuel + 1, cs, d, ps, h, μ, H, hr, ho => by
    unfold plainT at hp
    unfold DataW.trod at h
    split at hp
    · rename_i hu
      simp only [hu] at h
      split at h
      all_goals first
        | (rename_i heq; cases heq; done)
        | (simp at h; done)
        | skip
      rename_i b _
      exact got_one hr ho (v := .bool b) (by simp only [VRel]) rfl (by simpa using hp) (by unfold WT; simp [hu])
    · rename_i q hu
      simp only [hu] at h
      split at h
      all_goals first
        | (rename_i heq; cases heq; done)
        | (simp at h; done)
        | skip
      rename_i q' k' n heq
      cases heq
      split at h
      · rename_i hc
        obtain ⟨rfl, hw⟩ := hc
        exact got_one hr ho (v := .int k' n) (by simp only [VRel]) rfl (by simpa using hp) (by unfold WT; simp [hu]; exact hw)
      · simp at h
    · rename_i hu
      simp only [hu] at h
      split at h
      all_goals first
        | (rename_i heq; cases heq; done)
        | (simp at h; done)
        | skip
      rename_i s _
      split at h
      · rename_i hc
        exact got_one hr ho (v := .str s.data.toList) (by simp only [VRel]) rfl (by simpa using hp) (by unfold WT; simp only [hu]; exact ⟨_, rfl, by simpa using hc⟩)
      · simp at h
    · rename_i e hu
      simp only [Bool.and_eq_true, decide_eq_true_eq] at hp
      obtain ⟨⟨hp1, hp2⟩, hp3⟩ := hp
      simp only [hu] at h
      split at h
      all_goals first
        | (rename_i heq; cases heq; done)
        | (simp at h; done)
        | skip
      · exact got_one hr ho (v := .slice ⟨none, 0, 0, false⟩) (by simp only [VRel]; exact ⟨trivial, trivial⟩) rfl hp1 (by unfold WT; simp [hu])
      · rename_i e' a len cap heq
        cases heq
        split at h
        · rename_i hc
          obtain ⟨_, hlc, hcm⟩ := hc
          cases hes : (List.range len).mapM fun i => (w.cells? 0 (a.add (i * P.cellsOf e)) (P.cellsOf e)).bind (DataW.trod enc P w 0 (fun _ => true) true fuel e) with
          | none => rw [hes] at h; simp at h
          | some elems =>
            rw [hes] at h
            simp only [Option.bind_some, if_true] at h
            cases hrs : (List.range (cap - len)).mapM fun j => (w.cells? 0 (a.add ((len + j) * P.cellsOf e)) (P.cellsOf e)).bind (DataW.trod enc P w 0 (fun _ => true) true fuel e) with
            | none => rw [hrs] at h; simp at h
            | some rest =>
              clear h
              have hE : ∀ i, i < cap → ∃ xs, w.cells? 0 (a.add (i * P.cellsOf e)) (P.cellsOf e) = some xs ∧ ∃ d ps, DataW.trod enc P w 0 (fun _ => true) true fuel e xs = some (d, ps) := by
                intro i hi
                by_cases hil : i < len
                · obtain ⟨y, h1, _⟩ := (mapM_some hes).2 i i (by simp [hil])
                  cases hx : w.cells? 0 (a.add (i * P.cellsOf e)) (P.cellsOf e) with
                  | none => rw [hx] at h1; simp at h1
                  | some xs => rw [hx] at h1; exact ⟨xs, rfl, y.1, y.2, h1⟩
                · obtain ⟨y, h1, _⟩ := (mapM_some hrs).2 (i - len) (i - len) (by rw [List.getElem?_range (by omega)])
                  rw [show len + (i - len) = i by omega] at h1
                  cases hx : w.cells? 0 (a.add (i * P.cellsOf e)) (P.cellsOf e) with
                  | none => rw [hx] at h1; simp at h1
                  | some xs => rw [hx] at h1; exact ⟨xs, rfl, y.1, y.2, h1⟩
              exact got_slice hr ho hu hp1 hp2 hlc hcm (fun x μ H r o => got k e hp3 fuel x.1 _ _ x.2.choose_spec.choose_spec μ H r o) hE
        · simp at h
    · rename_i fs hu
      simp only [Bool.and_eq_true, List.all_eq_true] at hp
      obtain ⟨hp1, hp2⟩ := hp
      simp only [hu] at h
      split at h
      · rename_i hlen
        cases hm : fs.toList.mapM fun f => DataW.trod enc P w 0 (fun _ => true) true fuel f.type ((cs.drop f.offset).take (P.cellsOf f.type)) with
        | none => rw [hm] at h; simp at h
        | some xs =>
          clear h
          obtain ⟨_, hm2⟩ := mapM_some hm
          obtain ⟨las, hl, hq⟩ := build_list (A := {p : Field × List Value // plainT P k p.1.type = true ∧ ∃ d ps, DataW.trod enc P w 0 (fun _ => true) true fuel p.1.type p.2 = some (d, ps)}) fs.toList.length
            (Q := fun i x => fs.toList[i]? = some x.1.1 ∧ x.1.2 = (cs.drop x.1.1.offset).take (P.cellsOf x.1.1.type)) fun i hi => by
              have hf : fs.toList[i]? = some fs.toList[i] := List.getElem?_eq_getElem hi
              obtain ⟨y, h1, _⟩ := hm2 i _ hf
              exact ⟨⟨(fs.toList[i], (cs.drop fs.toList[i].offset).take (P.cellsOf fs.toList[i].type)), hp2 _ (List.getElem_mem hi), y.1, y.2, h1⟩, hf, rfl⟩
          obtain ⟨μ1, H1, vss, g1, r1, o1, l1, v1, n1, t1⟩ := got_list (P := P) (fuel := k) (w := w) (w0 := w0) (B := B) (fun x => x.1.1.type) (fun x => x.1.2) (fun x μ H r o => got k x.1.1.type x.2.1 fuel x.1.2 _ _ x.2.2.choose_spec.choose_spec μ H r o) las μ H hr ho
          have hlen' : vss.length = fs.toList.length := by rw [l1, hl]
          have hget : ∀ (i : Nat) (f : Field) (u : List V), fs.toList[i]? = some f → vss[i]? = some u → u.length = P.cellsOf f.type ∧ WT P k f.type u H1 := by
            intro i f u h1 h2
            have hi : i < las.length := by rw [hl]; exact (List.getElem?_eq_some_iff.mp h1).1
            have ha := List.getElem?_eq_getElem hi
            have hq1 := hq i _ ha
            have := t1 i _ u ha h2
            rw [h1] at hq1
            have hff : f = las[i].1.1 := by simpa using hq1.1
            rw [hff]; exact this
          obtain ⟨q1, q2, q3⟩ := tiles_chunk hp1 hlen' fun i f u h1 h2 => (hget i f u h1 h2).1
          have hcs : (las.map fun x => x.1.2).flatten = cs := by
            have he : (las.map fun x => x.1.2) = fs.toList.map fun f => (cs.drop f.offset).take (P.cellsOf f.type) := by
              apply List.ext_getElem?
              intro i
              simp only [List.getElem?_map]
              cases ha : las[i]? with
              | none =>
                have : fs.toList[i]? = none := by rw [List.getElem?_eq_none_iff] at ha ⊢; omega
                rw [this]; rfl
              | some x =>
                obtain ⟨h1, h2⟩ := hq i x ha
                rw [h1]; simp [h2]
            rw [he, (tiles_whole hlen hp1).2]; rfl
          rw [hcs] at v1
          refine ⟨μ1, H1, vss.flatten, g1, r1, o1, v1, n1, by simpa using q2, ?_⟩
          unfold WT
          simp only [hu]
          refine ⟨by simpa using q2, fun f hf => ?_⟩
          obtain ⟨i, hi, rfl⟩ := List.getElem_of_mem hf
          have h1 : fs.toList[i]? = some fs.toList[i] := List.getElem?_eq_getElem hi
          have h2 : vss[i]? = some vss[i] := List.getElem?_eq_getElem (by omega)
          have := (q3 i _ _ h1 h2).2
          simp only [Nat.sub_zero] at this
          rw [this]
          exact (hget i _ _ h1 h2).2
      · simp at h
    · rename_i n e hu
      simp only [Bool.and_eq_true, decide_eq_true_eq] at hp
      obtain ⟨hp1, hp2⟩ := hp
      simp only [hu] at h
      split at h
      · rename_i hlen
        cases hm : (List.range n).mapM fun i => DataW.trod enc P w 0 (fun _ => true) true fuel e ((cs.drop (i * P.cellsOf e)).take (P.cellsOf e)) with
        | none => rw [hm] at h; simp at h
        | some xs =>
          clear h
          obtain ⟨_, hm2⟩ := mapM_some hm
          obtain ⟨las, hl, hq⟩ := build_list (A := {p : List Value // ∃ d ps, DataW.trod enc P w 0 (fun _ => true) true fuel e p = some (d, ps)}) n
            (Q := fun i x => x.1 = (cs.drop (i * P.cellsOf e)).take (P.cellsOf e)) fun i hi => by
              obtain ⟨y, h1, _⟩ := hm2 i i (by simp [hi])
              exact ⟨⟨_, y.1, y.2, h1⟩, rfl⟩
          obtain ⟨μ1, H1, vss, g1, r1, o1, l1, v1, n1, t1⟩ := got_list (P := P) (fuel := k) (w := w) (w0 := w0) (B := B) (fun _ => e) (fun x => x.1) (fun x μ H r o => got k e hp2 fuel x.1 _ _ x.2.choose_spec.choose_spec μ H r o) las μ H hr ho
          have hget : ∀ (i : Nat) (u : List V), vss[i]? = some u → u.length = P.cellsOf e ∧ WT P k e u H1 := by
            intro i u h2
            have hi : i < las.length := by rw [← l1]; exact (List.getElem?_eq_some_iff.mp h2).1
            exact t1 i _ u (List.getElem?_eq_getElem hi) h2
          have hcs : (las.map fun x => x.1).flatten = cs := by
            have := chunk_whole (cs := cs) (k := P.cellsOf e) (xss := las.map fun x => x.1) (off := 0) (by simp [hl, hp1, hlen]) fun i u hi => by
              rw [List.getElem?_map] at hi
              cases ha : las[i]? with
              | none => rw [ha] at hi; simp at hi
              | some x => rw [ha] at hi; simp at hi; rw [← hi, hq i x ha]; simp
            simpa using this
          rw [hcs] at v1
          have hfl := flatten_len fun i u hi => (hget i u hi).1
          rw [l1, hl, hp1] at hfl
          refine ⟨μ1, H1, vss.flatten, g1, r1, o1, v1, n1, hfl, ?_⟩
          unfold WT
          simp only [hu]
          refine ⟨hfl, fun i hi => ?_⟩
          have h2 : vss[i]? = some vss[i] := List.getElem?_eq_getElem (by omega)
          rw [flatten_chunk (fun i u hi => (hget i u hi).1) h2]
          exact (hget i _ h2).2
      · simp at h
    · simp at hp
end
end Go.AM
end
section
set_option linter.unusedVariables false
set_option linter.unusedSimpArgs false
set_option linter.unusedSimpArgs false
namespace Go.AM
open Go.RowKit (Below)
def argV (P : Program) (t : TypeId) (vs : List V) : V := match P.underlying t with
  | some (.struct _) | some (.array _ _) => .agg vs
  | _ => vs.headD .dead
def WTs (P : Program) (k : Nat) (H : Heap) : List TypeId → List V → Prop
  | [], vs => vs = []
  | t :: ts, vs => ∃ cs us, vs = argV P t cs :: us ∧ WT P k t cs H ∧ WTs P k H ts us
theorem WTs.mono {P : Program} {k : Nat} {H H' : Heap} (hn : H.n ≤ H'.n) (hg : ∀ i, i < H.n → H'.get i = H.get i) : ∀ (ts : List TypeId) (vs : List V), WTs P k H ts vs → WTs P k H' ts vs
  | [], _, h => h
  | t :: ts, vs, ⟨cs, us, e, h, r⟩ => ⟨cs, us, e, WT.mono hn hg k t cs h, WTs.mono hn hg ts us r⟩
section
variable {P : Program} {B : Nat} {w0 w : World} {μ : Mu} {H : Heap} {T : Type} {enc : TypeId × Value → T}
theorem argV_rel {k b : Nat} {t : TypeId} {v : Value} {vs : List V} (h : VRels μ vs v.cells.toList) (hv : Value.okWide P w .any b t v) (hp : plainT P k t = true) : VRel μ (argV P t vs) v := by
  unfold argV
  cases k with
  | zero => simp [plainT] at hp
  | succ k =>
    unfold plainT at hp
    have key : ∀ x, v = x → x.cells = #[x] → VRel μ (vs.headD .dead) v := by
      intro x e1 e2
      subst e1
      rw [e2] at h
      cases vs with
      | nil => simp [VRel]
      | cons u us =>
        simp only [VRels] at h
        obtain ⟨y, ys, e, a, _⟩ := h
        simp at e
        rw [e.1]; exact a
    split at hp
    · rename_i hu; simp only [hu]
      obtain ⟨x, rfl⟩ := WideShapes.okWide_bool hu hv
      exact key _ rfl rfl
    · rename_i q hu; simp only [hu]
      obtain ⟨x, rfl⟩ := WideShapes.okWide_int hu hv
      exact key _ rfl rfl
    · rename_i hu; simp only [hu]
      obtain ⟨x, rfl⟩ := WideShapes.okWide_string hu hv
      exact key _ rfl rfl
    · rename_i e hu; simp only [hu]
      obtain ⟨a, l, c, rfl⟩ := WideShapes.okWide_slice hu hv
      exact key _ rfl rfl
    · rename_i fs hu
      simp only [hu]
      unfold Value.okWide at hv
      simp only [hu] at hv
      obtain ⟨cs, rfl, _⟩ := hv
      simp only [VRel]
      exact ⟨cs, rfl, by simpa [Value.cells] using h⟩
    · rename_i n e hu
      simp only [hu]
      unfold Value.okWide at hv
      simp only [hu] at hv
      obtain ⟨cs, rfl, _⟩ := hv
      simp only [VRel]
      exact ⟨cs, rfl, by simpa [Value.cells] using h⟩
    · cases hp
theorem got_all {k : Nat} : ∀ (ts : List TypeId) (vs : List Value) (ds : List (DataW T)) (ps : List MemPlace) (μ : Mu) (H : Heap),
    ts.all (fun t => plainT P k t) = true → DataW.TrodAll enc P w 0 (fun _ => true) true ts vs ds ps → (∀ (j : Nat) t v, ts[j]? = some t → vs[j]? = some v → ∃ b, Value.okWide P w .any b t v) →
    Rel B w0 μ H w → (∀ j M, μ j = some M → (H.get j).own = false) →
    ∃ μ' H' us, Grows μ H μ' H' ∧ Rel B w0 μ' H' w ∧ (∀ j M, μ' j = some M → (H'.get j).own = false) ∧ VRels μ' us vs ∧ WTs P k H' ts us
  | [], vs, ds, ps, μ, H, _, h, _, hr, ho => by
    cases vs with
    | nil => exact ⟨μ, H, [], Grows.refl, hr, ho, rfl, rfl⟩
    | cons v vs => simp [DataW.TrodAll] at h
  | t :: ts, vs, ds, ps, μ, H, hp, h, hv, hr, ho => by
    cases vs with
    | nil => simp [DataW.TrodAll] at h
    | cons v vs =>
      cases ds with
      | nil => simp [DataW.TrodAll] at h
      | cons d ds =>
        obtain ⟨p, q, ⟨fuel, h1⟩, h2, _⟩ := h
        simp only [List.all_cons, Bool.and_eq_true] at hp
        obtain ⟨μ1, H1, us, g1, r1, o1, v1, n1, l1, t1⟩ := got k t hp.1 fuel _ _ _ h1 μ H hr ho
        obtain ⟨μ2, H2, us2, g2, r2, o2, v2, t2⟩ := got_all ts vs ds q μ1 H1 hp.2 h2 (fun j t v a b => hv (j + 1) t v (by simpa using a) (by simpa using b)) r1 o1
        obtain ⟨b, hw⟩ := hv 0 t v (by simp) (by simp)
        refine ⟨μ2, H2, argV P t us :: us2, g1.trans g2, r2, o2, ?_, us, us2, rfl, WT.mono g2.n g2.get _ _ _ t1, t2⟩
        simp only [VRels]
        exact ⟨v, vs, rfl, VRel.mono g2.le _ _ (argV_rel v1 hw hp.1), v2⟩
theorem Rel.start (w : World) : Rel w.heap.size w ⟨fun _ => none, fun _ => none⟩ ⟨0, .nil⟩ w :=
  ⟨Below.refl _ _, Nat.le_refl _, fun i L h => (by cases h), fun i L h => (by cases h), fun i j L M h => (by cases h), fun i _ => by simp [Heap.get, T.get], fun b vs h => (by cases h), fun b vs h => (by cases h)⟩
theorem law_calls {C : Cfg} (ok : C.Ok) {f : FuncId} {k : Nat} {ts : List TypeId} {args : Array Value} {ds : List (DataW T)} {ps : List MemPlace} {W : World}
    (hp : ts.all (fun t => plainT C.P k t) = true) (hA : DataW.TrodAll enc C.P W 0 (fun _ => true) true ts args.toList ds ps)
    (hv : ∀ (j : Nat) t v, ts[j]? = some t → args.toList[j]? = some v → ∃ b, Value.okWide C.P W .any b t v)
    (hent : (callFunc f args).run C.P W = .ok (.enter f args) W)
    (hlaw : ∀ (H : Heap) (us : List V), WTs C.P k H ts us → ∃ n H', callA C n f us H = some (.bool true, H')) (hy : f < yB := by decide) :
    Calls C.P f args W (fun e W' => e = .returned (.bool true) ∧ Below W.heap.size W W') := by
  obtain ⟨μ, H, us, _, hr, _, hvs, hwt⟩ := got_all (P := C.P) (B := W.heap.size) (w0 := W) (w := W) ts args.toList ds ps _ _ hp hA hv (Rel.start W) (by intro j M h; cases h)
  obtain ⟨n, H', hc⟩ := hlaw H us hwt
  have := (callA_sound ok n f us H _ H' hc W.heap.size 0 W W μ args hr (Nat.zero_le _) hvs).1 hy
  rw [hent] at this
  simp only [Gives] at this
  refine this.mono fun e w' ⟨x, he, μ', s, hx⟩ => ?_
  simp only [VRel] at hx
  subst hx
  exact ⟨he, s.rel.below⟩
end
end Go.AM
end
section
set_option linter.unusedVariables false
set_option linter.unusedSimpArgs false
set_option linter.unusedSimpArgs false
set_option linter.unusedVariables false
namespace Go.AM
open Go.RowKit (Below)
def FT (P : Program) : Nat → TypeId → List V → Prop
  | 0, _, _ => False
  | fuel + 1, t, cs => match P.underlying t with
    | some .bool => ∃ b, cs = [.bool b]
    | some (.int k) => ∃ n, cs = [.int k n] ∧ (Lit.int k n).wf = true
    | some .string => ∃ s : List UInt8, cs = [.str s] ∧ s.length ≤ maxLen
    | some (.slice e) => ∃ len z xs, cs = [.list len z xs] ∧ len ≤ maxLen ∧ (len = 0 → z = 0 ∧ xs = []) ∧ (len ≠ 0 → z = P.cellsOf e) ∧ xs.length = len * P.cellsOf e ∧ ∀ j, j < len → FT P fuel e ((xs.drop (j * P.cellsOf e)).take (P.cellsOf e))
    | some (.struct fs) => cs.length = P.cellsOf t ∧ ∀ f ∈ fs.toList, FT P fuel f.type ((cs.drop f.offset).take (P.cellsOf f.type))
    | some (.array n e) => cs.length = P.cellsOf t ∧ ∀ i, i < n → FT P fuel e ((cs.drop (i * P.cellsOf e)).take (P.cellsOf e))
    | _ => False
def sdep (P : Program) : Nat → TypeId → Nat
  | 0, _ => 0
  | fuel + 1, t => match P.underlying t with
    | some (.slice e) => sdep P fuel e + 1
    | some (.struct fs) => (fs.toList.map fun f => sdep P fuel f.type).foldr max 1
    | some (.array _ e) => max 1 (sdep P fuel e)
    | _ => 1
theorem frzL_app {f : V → Option (V × List Nat)} : ∀ {a b a' b' : List V} {i j : List Nat}, frzL f a = some (a', i) → frzL f b = some (b', j) → frzL f (a ++ b) = some (a' ++ b', i ++ j)
  | [], b, a', b', i, j, h1, h2 => by simp only [frzL, Option.some.injEq, Prod.mk.injEq] at h1; obtain ⟨rfl, rfl⟩ := h1; exact h2
  | v :: a, b, a', b', i, j, h1, h2 => by
    simp only [frzL] at h1
    cases hv : f v with
    | none => rw [hv] at h1; cases h1
    | some p =>
      rw [hv] at h1
      cases ha : frzL f a with
      | none => rw [ha] at h1; cases h1
      | some q =>
        rw [ha] at h1
        simp only [Option.some.injEq, Prod.mk.injEq] at h1
        obtain ⟨rfl, rfl⟩ := h1
        have := frzL_app (a := a) (b := b) ha h2
        simp only [List.cons_append, frzL, hv, this, List.append_assoc]
theorem frzL_flat {f : V → Option (V × List Nat)} {A : Type} (part : A → List V) (R : A → List V → Prop) : ∀ (l : List A), (∀ a ∈ l, ∃ u i, frzL f (part a) = some (u, i) ∧ R a u) →
    ∃ (us : List (List V)) (ids : List Nat), frzL f (l.map part).flatten = some (us.flatten, ids) ∧ us.length = l.length ∧ ∀ (i : Nat) (a : A) (u : List V), l[i]? = some a → us[i]? = some u → R a u
  | [], _ => ⟨[], [], rfl, rfl, fun i a u h => by simp at h⟩
  | a :: l, h => by
    obtain ⟨u, i, h1, h2⟩ := h a (by simp)
    obtain ⟨us, ids, k1, k2, k3⟩ := frzL_flat part R l fun b hb => h b (by simp [hb])
    refine ⟨u :: us, i ++ ids, ?_, by simp [k2], ?_⟩
    · simp only [List.map_cons, List.flatten_cons]; exact frzL_app h1 k1
    · intro j b w hb hw
      cases j with
      | zero => simp at hb hw; subst hb hw; exact h2
      | succ j => simp at hb hw; exact k3 j b w hb hw
theorem foldr_le {l : List Nat} {d : Nat} (h : l.foldr max 1 ≤ d) : 1 ≤ d ∧ ∀ x ∈ l, x ≤ d := by
  induction l with
  | nil => exact ⟨by simpa using h, fun x hx => by simp at hx⟩
  | cons y l ih =>
    simp only [List.foldr_cons] at h
    obtain ⟨a, b⟩ := ih (by omega)
    refine ⟨a, fun x hx => ?_⟩
    rcases List.mem_cons.1 hx with rfl | hx
    · omega
    · exact b x hx
section
variable {P : Program}
theorem FT.len : ∀ {k : Nat} {t : TypeId} {cs : List V}, plainT P k t = true → FT P k t cs → cs.length = P.cellsOf t
  | 0, t, cs, hp, h => by simp [plainT] at hp
  | k + 1, t, cs, hp, h => by
    unfold plainT at hp
    unfold FT at h
    split at h
    · rename_i hu; simp only [hu, decide_eq_true_eq] at hp; obtain ⟨b, rfl⟩ := h; simp [hp]
    · rename_i hu; simp only [hu, decide_eq_true_eq] at hp; obtain ⟨b, rfl, -⟩ := h; simp [hp]
    · rename_i hu; simp only [hu, decide_eq_true_eq] at hp; obtain ⟨b, rfl, -⟩ := h; simp [hp]
    · rename_i hu; simp only [hu, Bool.and_eq_true, decide_eq_true_eq] at hp; obtain ⟨a, b, c, rfl, -⟩ := h; simp [hp.1.1]
    · exact h.1
    · exact h.1
    · exact h.elim
theorem chunks_len {α : Type} {m n : Nat} {cs : List α} (h : cs.length = n * m) : ((List.range n).map fun i => (cs.drop (i * m)).take m).flatten = cs := by
  induction n generalizing cs with
  | zero => simp at h; simp [h]
  | succ n ih =>
    rw [List.range_succ_eq_map, List.map_cons, List.flatten_cons, List.map_map]
    have e : ((fun i => (cs.drop (i * m)).take m) ∘ Nat.succ) = fun i => ((cs.drop m).drop (i * m)).take m := by
      funext i
      simp only [Function.comp, List.drop_drop]
      rw [show m + i * m = i.succ * m by rw [Nat.succ_mul]; omega]
    rw [e, ih (by rw [List.length_drop, h, Nat.succ_mul]; omega)]
    simp
theorem WT.frz {H : Heap} : ∀ {k : Nat} {t : TypeId} {cs : List V} {d : Nat}, plainT P k t = true → WT P k t cs H → sdep P k t ≤ d → ∃ us ids, frzL (frzV H d) cs = some (us, ids) ∧ FT P k t us
  | 0, t, cs, d, hp, h, hd => by simp [plainT] at hp
  | k + 1, t, cs, d, hp, h, hd => by
    unfold plainT at hp
    unfold WT at h
    unfold sdep at hd
    split at h
    · rename_i hu
      simp only [hu] at hd
      obtain ⟨b, rfl⟩ := h
      obtain ⟨d', rfl⟩ : ∃ d', d = d' + 1 := ⟨d - 1, by omega⟩
      exact ⟨_, [], frzL_fro1 rfl, by unfold FT; simp only [hu]; exact ⟨b, rfl⟩⟩
    · rename_i q hu
      simp only [hu] at hd
      obtain ⟨b, rfl, w⟩ := h
      obtain ⟨d', rfl⟩ : ∃ d', d = d' + 1 := ⟨d - 1, by omega⟩
      exact ⟨_, [], frzL_fro1 rfl, by unfold FT; simp only [hu]; exact ⟨b, rfl, w⟩⟩
    · rename_i hu
      simp only [hu] at hd
      obtain ⟨b, rfl, w⟩ := h
      obtain ⟨d', rfl⟩ : ∃ d', d = d' + 1 := ⟨d - 1, by omega⟩
      exact ⟨_, [], frzL_fro1 rfl, by unfold FT; simp only [hu]; exact ⟨b, rfl, w⟩⟩
    · rename_i e hu
      simp only [hu] at hd hp
      simp only [Bool.and_eq_true, decide_eq_true_eq] at hp
      obtain ⟨d', rfl⟩ : ∃ d', d = d' + 1 := ⟨d - 1, by omega⟩
      have hnil : ∀ (s : Sl), s.len = 0 → frzL (frzV H (d' + 1)) [.slice s] = some ([.list 0 0 []], []) := by
        intro s hs
        simp only [frzL, frzV, hs, if_true, List.append_nil]
      have hft : FT P (k + 1) t [.list 0 0 []] := by
        unfold FT; simp only [hu]
        exact ⟨0, 0, [], rfl, Nat.zero_le _, fun _ => ⟨rfl, rfl⟩, fun h => (h rfl).elim, by simp, fun j hj => by omega⟩
      rcases h with rfl | ⟨i, len, full, rfl, h1, h2, h3⟩
      · exact ⟨_, _, hnil _ rfl, hft⟩
      · by_cases h0 : len = 0
        · subst h0; exact ⟨_, _, hnil _ rfl, hft⟩
        · obtain ⟨el, xs, g, hl, hx⟩ := h3 h0
          have := frzL_flat (f := frzV H d') (fun i => (xs.drop (i * P.cellsOf e)).take (P.cellsOf e)) (fun _ u => FT P k e u) (List.range len) fun j hj => by
            obtain ⟨us, ids, a, b⟩ := WT.frz (d := d') hp.2 (hx j (List.mem_range.1 hj)) (by omega)
            exact ⟨us, ids, a, b⟩
          obtain ⟨us, ids, a1, a2, a3⟩ := this
          rw [chunks_len hl] at a1
          rw [List.length_range] at a2
          have hul : ∀ (i : Nat) (u : List V), us[i]? = some u → u.length = P.cellsOf e := by
            intro i u hi
            have hi2 : i < us.length := by
              rcases Nat.lt_or_ge i us.length with h | h
              · exact h
              · rw [List.getElem?_eq_none h] at hi; cases hi
            exact FT.len hp.2 (a3 i i u (by simp [List.getElem?_range (show i < len by omega)]) hi)
          refine ⟨[.list len (P.cellsOf e) us.flatten], i :: ids, ?_, ?_⟩
          · have ht : (xs.drop 0).take (len * P.cellsOf e) = xs := by rw [List.drop_zero, ← hl, List.take_length]
            have hf : frzV H (d' + 1) (.slice ⟨some (i, 0), len, P.cellsOf e, full⟩) = some (.list len (P.cellsOf e) us.flatten, i :: ids) := by
              unfold frzV
              simp only [if_neg h0, g, ht, a1, Nat.zero_add]
              rw [if_pos (by omega)]
            simp only [frzL, hf, List.append_nil]
          · unfold FT; simp only [hu]
            refine ⟨len, _, _, rfl, h2, fun h => (h0 h).elim, fun _ => rfl, by rw [flatten_len hul, a2], fun j hj => ?_⟩
            have hj2 : j < us.length := by omega
            have hg : us[j]? = some us[j] := by simp [hj2]
            rw [flatten_chunk hul hg]
            exact a3 j j us[j] (by simp [List.getElem?_range (show j < len by omega)]) hg
    · rename_i fs hu
      simp only [hu] at hd hp
      simp only [Bool.and_eq_true, List.all_eq_true] at hp
      obtain ⟨hd1, hd2⟩ := foldr_le hd
      obtain ⟨h1, h2⟩ := h
      have hw := (tiles_whole h1 hp.1).2
      rw [List.drop_zero] at hw
      have := frzL_flat (f := frzV H d) (fun f : Field => (cs.drop f.offset).take (P.cellsOf f.type)) (fun f u => FT P k f.type u) fs.toList fun f hf => by
        obtain ⟨us, ids, a, b⟩ := WT.frz (d := d) (hp.2 f hf) (h2 f hf) (hd2 _ (List.mem_map.2 ⟨f, hf, rfl⟩))
        exact ⟨us, ids, a, b⟩
      obtain ⟨us, ids, a1, a2, a3⟩ := this
      rw [hw] at a1
      have hs : ∀ (i : Nat) (f : Field) (u : List V), fs.toList[i]? = some f → us[i]? = some u → u.length = P.cellsOf f.type := fun i f u x y => FT.len (hp.2 f (List.mem_of_getElem? x)) (a3 i f u x y)
      obtain ⟨_, t2, t3⟩ := tiles_chunk hp.1 a2 hs
      refine ⟨us.flatten, ids, a1, ?_⟩
      unfold FT; simp only [hu]
      refine ⟨by rw [t2]; simp, fun f hf => ?_⟩
      obtain ⟨i, hi⟩ := List.getElem?_of_mem hf
      have hi2 : i < us.length := by
        rw [a2]
        rcases Nat.lt_or_ge i fs.toList.length with h | h
        · exact h
        · rw [List.getElem?_eq_none h] at hi; cases hi
      have hg : us[i]? = some us[i] := by simp [hi2]
      have := (t3 i f us[i] hi hg).2
      rw [Nat.sub_zero] at this
      rw [this]
      exact a3 i f us[i] hi hg
    · rename_i n e hu
      simp only [hu] at hd hp
      simp only [Bool.and_eq_true, decide_eq_true_eq] at hp
      obtain ⟨h1, h2⟩ := h
      have := frzL_flat (f := frzV H d) (fun i => (cs.drop (i * P.cellsOf e)).take (P.cellsOf e)) (fun _ u => FT P k e u) (List.range n) fun j hj => by
        obtain ⟨us, ids, a, b⟩ := WT.frz (d := d) hp.2 (h2 j (List.mem_range.1 hj)) (by omega)
        exact ⟨us, ids, a, b⟩
      obtain ⟨us, ids, a1, a2, a3⟩ := this
      rw [chunks_len (by rw [h1, hp.1])] at a1
      rw [List.length_range] at a2
      have hul : ∀ (i : Nat) (u : List V), us[i]? = some u → u.length = P.cellsOf e := by
        intro i u hi
        have hi2 : i < us.length := by
          rcases Nat.lt_or_ge i us.length with h | h
          · exact h
          · rw [List.getElem?_eq_none h] at hi; cases hi
        exact FT.len hp.2 (a3 i i u (by simp [List.getElem?_range (show i < n by omega)]) hi)
      refine ⟨us.flatten, ids, a1, ?_⟩
      unfold FT; simp only [hu]
      refine ⟨by rw [flatten_len hul, a2, hp.1], fun j hj => ?_⟩
      have hg : us[j]? = some us[j] := by simp [show j < us.length by omega]
      rw [flatten_chunk hul hg]
      exact a3 j j us[j] (by simp [List.getElem?_range (show j < n by omega)]) hg
    · exact h.elim
theorem frees_app {a b : List V} : V.frees (a ++ b) = (V.frees a && V.frees b) := by
  induction a with
  | nil => simp [V.frees]
  | cons x a ih => simp [V.frees, ih, Bool.and_assoc]
theorem chunks_all {α : Type} {p : List α → Prop} (hn : p []) (hadd : ∀ a b, p a → p b → p (a ++ b)) {n m : Nat} {cs : List α} (h : cs.length = n * m) (hc : ∀ j, j < n → p ((cs.drop (j * m)).take m)) : p cs := by
  have : ∀ l : List (List α), (∀ x ∈ l, p x) → p l.flatten := by
    intro l
    induction l with
    | nil => intro _; exact hn
    | cons x l ih => intro hx; simp only [List.flatten_cons]; exact hadd _ _ (hx x (by simp)) (ih fun y hy => hx y (by simp [hy]))
  rw [← chunks_len h]
  refine this _ fun x hx => ?_
  obtain ⟨j, hj, rfl⟩ := List.mem_map.1 hx
  exact hc j (List.mem_range.1 hj)
theorem FT.fro : ∀ {k : Nat} {t : TypeId} {cs : List V}, plainT P k t = true → FT P k t cs → cs.all V.fro1 = true ∧ V.frees cs = true
  | 0, t, cs, hp, h => by simp [plainT] at hp
  | k + 1, t, cs, hp, h => by
    have add : ∀ a b : List V, (a.all V.fro1 = true ∧ V.frees a = true) → (b.all V.fro1 = true ∧ V.frees b = true) → ((a ++ b).all V.fro1 = true ∧ V.frees (a ++ b) = true) := by
      intro a b ⟨a1, a2⟩ ⟨b1, b2⟩
      exact ⟨by rw [List.all_append, a1, b1]; rfl, by rw [frees_app, a2, b2]; rfl⟩
    unfold plainT at hp
    unfold FT at h
    split at h
    · obtain ⟨b, rfl⟩ := h; exact ⟨rfl, rfl⟩
    · obtain ⟨b, rfl, -⟩ := h; exact ⟨rfl, rfl⟩
    · obtain ⟨b, rfl, -⟩ := h; exact ⟨rfl, rfl⟩
    · rename_i e hu
      simp only [hu, Bool.and_eq_true, decide_eq_true_eq] at hp
      obtain ⟨len, z, xs, rfl, -, -, -, h4, h5⟩ := h
      have := chunks_all (p := fun xs : List V => xs.all V.fro1 = true ∧ V.frees xs = true) ⟨rfl, rfl⟩ add h4 fun j hj => FT.fro hp.2 (h5 j hj)
      exact ⟨rfl, by simp only [V.frees, V.free, this.2, Bool.and_true]⟩
    · rename_i fs hu
      simp only [hu, Bool.and_eq_true, List.all_eq_true] at hp
      obtain ⟨h1, h2⟩ := h
      have hw := (tiles_whole h1 hp.1).2
      rw [List.drop_zero] at hw
      rw [← hw]
      have : ∀ l : List Field, (∀ f ∈ l, f ∈ fs.toList) → ((l.map fun f => (cs.drop f.offset).take (P.cellsOf f.type)).flatten.all V.fro1 = true ∧ V.frees (l.map fun f => (cs.drop f.offset).take (P.cellsOf f.type)).flatten = true) := by
        intro l
        induction l with
        | nil => intro _; exact ⟨rfl, rfl⟩
        | cons x l ih =>
          intro hx
          simp only [List.map_cons, List.flatten_cons]
          exact add _ _ (FT.fro (hp.2 x (hx x (by simp))) (h2 x (hx x (by simp)))) (ih fun y hy => hx y (by simp [hy]))
      exact this fs.toList fun f hf => hf
    · rename_i n e hu
      simp only [hu, Bool.and_eq_true, decide_eq_true_eq] at hp
      obtain ⟨h1, h2⟩ := h
      exact chunks_all (p := fun xs : List V => xs.all V.fro1 = true ∧ V.frees xs = true) ⟨rfl, rfl⟩ add (n := n) (m := P.cellsOf e) (by rw [h1, hp.1]) fun j hj => FT.fro hp.2 (h2 j hj)
    · exact h.elim
end
theorem enter_run {P : Program} {f : FuncId} {xs : Array Value} {w : World} (h : hasBody P f = true) : (callFunc f xs).run P w = .ok (.enter f xs) w := by
  unfold hasBody at h
  split at h
  · rename_i fn hfn
    simp only [Bool.and_eq_true, Bool.not_eq_true'] at h
    obtain ⟨h1, h2⟩ := h
    obtain ⟨c, hc⟩ := Option.isSome_iff_exists.1 h1
    have hne : ¬ fn.name = "runtime.NumGoroutine" := by simpa using h2
    simp [callFunc, hfn, hc, hne]
  · cases h
def FTs (P : Program) (k : Nat) : List TypeId → List V → Prop
  | [], vs => vs = []
  | t :: ts, vs => ∃ cs us, vs = argV P t cs :: us ∧ FT P k t cs ∧ FTs P k ts us
theorem argV_frz {P : Program} {k : Nat} {t : TypeId} {cs us : List V} {H : Heap} {ids : List Nat} (hp : plainT P k t = true) (hc : cs.length = P.cellsOf t) (h : frzL (frzV H 5) cs = some (us, ids)) (h6 : frzL (frzV H 6) cs = some (us, ids)) :
    ∃ ids, frzV H 6 (argV P t cs) = some (argV P t us, ids) := by
  have one : P.cellsOf t = 1 → ∃ ids, frzV H 6 (cs.headD .dead) = some (us.headD .dead, ids) := by
    intro h1
    match cs, h1 ▸ hc with
    | [v], _ =>
      simp only [frzL] at h6
      cases hv : frzV H 6 v with
      | none => rw [hv] at h6; cases h6
      | some p =>
        rw [hv] at h6
        simp only [Option.some.injEq, Prod.mk.injEq] at h6
        obtain ⟨rfl, -⟩ := h6
        exact ⟨p.2, by simp [hv]⟩
  have agg : ∃ ids, frzV H 6 (.agg cs) = some (.agg us, ids) := ⟨ids, by unfold frzV; simp only [h]⟩
  unfold argV
  cases k with
  | zero => simp [plainT] at hp
  | succ k =>
    unfold plainT at hp
    split at hp
    · rename_i hu; simp only [hu]; exact one (by simpa using hp)
    · rename_i hu; simp only [hu]; exact one (by simpa using hp)
    · rename_i hu; simp only [hu]; exact one (by simpa using hp)
    · rename_i e hu; simp only [hu]; simp only [Bool.and_eq_true, decide_eq_true_eq] at hp; exact one hp.1.1
    · rename_i fs hu; simp only [hu]; exact agg
    · rename_i fs hu; simp only [hu]; exact agg
    · cases hp
theorem WT.len {P : Program} {H : Heap} {k : Nat} {t : TypeId} {cs : List V} (hp : plainT P k t = true) (h : WT P k t cs H) : cs.length = P.cellsOf t := by
  cases k with
  | zero => simp [plainT] at hp
  | succ k =>
    unfold plainT at hp
    unfold WT at h
    split at h
    · rename_i hu; simp only [hu, decide_eq_true_eq] at hp; obtain ⟨b, rfl⟩ := h; simp [hp]
    · rename_i hu; simp only [hu, decide_eq_true_eq] at hp; obtain ⟨b, rfl, -⟩ := h; simp [hp]
    · rename_i hu; simp only [hu, decide_eq_true_eq] at hp; obtain ⟨b, rfl, -⟩ := h; simp [hp]
    · rename_i hu; simp only [hu, Bool.and_eq_true, decide_eq_true_eq] at hp
      rcases h with rfl | ⟨i, len, full, rfl, -⟩ <;> simp [hp.1.1]
    · exact h.1
    · exact h.1
    · exact h.elim
theorem frzL_more {H : Heap} : ∀ (d : Nat), (∀ v r, frzV H d v = some r → frzV H (d + 1) v = some r) := by
  intro d
  induction d with
  | zero => intro v r h; simp [frzV] at h
  | succ d ih =>
    have hl : ∀ cs r, frzL (frzV H d) cs = some r → frzL (frzV H (d + 1)) cs = some r := by
      intro cs
      induction cs with
      | nil => intro r h; exact h
      | cons v cs ihc =>
        intro r h
        simp only [frzL] at h ⊢
        cases hv : frzV H d v with
        | none => rw [hv] at h; cases h
        | some p =>
          rw [hv] at h
          cases hc : frzL (frzV H d) cs with
          | none => rw [hc] at h; cases h
          | some q =>
            rw [hc] at h
            rw [ih _ _ hv, ihc _ hc]
            exact h
    intro v r h
    unfold frzV at h ⊢
    split at h
    · rename_i s
      split at h
      · rename_i h0; rw [if_pos h0]; exact h
      · rename_i h0
        rw [if_neg h0]
        split at h
        · cases h
        · rename_i i o had
          split at h
          · rename_i cs e r hg
            try simp only [had]
            try simp only [hg]
            split at h
            · rename_i hle
              rw [if_pos hle]
              split at h
              · rename_i p hp
                rw [hl _ _ hp]; exact h
              · cases h
            · cases h
          · cases h
    · split at h
      · rename_i p hp; rw [hl _ _ hp]; exact h
      · cases h
    · split at h
      · rename_i p hp; rw [hl _ _ hp]; exact h
      · cases h
    · exact h
theorem frzL_more1 {H : Heap} {d : Nat} : ∀ {cs : List V} {r : List V × List Nat}, frzL (frzV H d) cs = some r → frzL (frzV H (d + 1)) cs = some r
  | [], r, h => h
  | v :: cs, r, h => by
    simp only [frzL] at h ⊢
    cases hv : frzV H d v with
    | none => rw [hv] at h; cases h
    | some p =>
      rw [hv] at h
      cases hc : frzL (frzV H d) cs with
      | none => rw [hc] at h; cases h
      | some q =>
        rw [hc] at h
        rw [frzL_more d _ _ hv, frzL_more1 hc]
        exact h
theorem argV_fro {P : Program} {k : Nat} {t : TypeId} {cs : List V} (hp : plainT P k t = true) (h : cs.all V.fro1 = true ∧ V.frees cs = true) (hc : cs.length = P.cellsOf t) : (argV P t cs).fro = true ∧ (argV P t cs).free = true := by
  have one : P.cellsOf t = 1 → (cs.headD .dead).fro = true ∧ (cs.headD .dead).free = true := by
    intro h1
    match cs, h1 ▸ hc with
    | [v], _ =>
      obtain ⟨a, b⟩ := h
      simp only [List.all_cons, List.all_nil, Bool.and_true] at a
      simp only [V.frees, Bool.and_true] at b
      refine ⟨?_, by simpa using b⟩
      cases v <;> simp_all [V.fro, V.fro1]
  have agg : (V.agg cs).fro = true ∧ (V.agg cs).free = true := ⟨by simpa [V.fro] using h.1, by simpa [V.free] using h.2⟩
  unfold argV
  cases k with
  | zero => simp [plainT] at hp
  | succ k =>
    unfold plainT at hp
    split at hp
    · rename_i hu; simp only [hu]; exact one (by simpa using hp)
    · rename_i hu; simp only [hu]; exact one (by simpa using hp)
    · rename_i hu; simp only [hu]; exact one (by simpa using hp)
    · rename_i e hu; simp only [hu]; simp only [Bool.and_eq_true, decide_eq_true_eq] at hp; exact one hp.1.1
    · rename_i fs hu; simp only [hu]; exact agg
    · rename_i fs hu; simp only [hu]; exact agg
    · cases hp
theorem WTs.frz {P : Program} {k : Nat} {H : Heap} : ∀ {ts : List TypeId} {us : List V}, ts.all (fun t => plainT P k t && decide (sdep P k t ≤ 5)) = true → WTs P k H ts us →
    ∃ us' ids, frzL (frzV H 6) us = some (us', ids) ∧ FTs P k ts us' ∧ us'.all V.fro = true ∧ V.frees us' = true
  | [], us, _, h => by cases h; exact ⟨[], [], rfl, rfl, rfl, rfl⟩
  | t :: ts, us, hp, ⟨cs, us2, e, h, r⟩ => by
    subst e
    simp only [List.all_cons, Bool.and_eq_true, decide_eq_true_eq] at hp
    obtain ⟨v, ids, a, b⟩ := WT.frz (d := 5) hp.1.1 h hp.1.2
    obtain ⟨vs, ids2, c1, c2, c3, c4⟩ := WTs.frz (ts := ts) (by simpa using hp.2) r
    obtain ⟨ids3, e3⟩ := argV_frz hp.1.1 (WT.len hp.1.1 h) a (frzL_more1 a)
    have f1 := argV_fro hp.1.1 (FT.fro hp.1.1 b) (FT.len hp.1.1 b)
    refine ⟨argV P t v :: vs, ids3 ++ ids2, by simp only [frzL, e3, c1], ⟨_, _, rfl, b, c2⟩, by simp only [List.all_cons, f1.1, c3, Bool.and_self], by simp only [V.frees, f1.2, c4, Bool.and_self]⟩
theorem law_pure {f : Nat → List V → Heap → Option R} {kk : Nat → List V → Option R} (he : ∀ n a H, f (n + 1) a H = pureA a H (kk n)) {P : Program} {k : Nat} {ts : List TypeId} (hp : ts.all (fun t => plainT P k t && decide (sdep P k t ≤ 5)) = true)
    (hlaw : ∀ (H : Heap) (us : List V), FTs P k ts us → us.all V.fro = true → V.frees us = true → Tot (fun n => f n us H) fun v _ => v = .bool true) {H : Heap} {us : List V} (h : WTs P k H ts us) : ∃ n H', f n us H = some (.bool true, H') := by
  obtain ⟨us', ids, h1, h2, h3, h4⟩ := WTs.frz hp h
  obtain ⟨v, G, rfl, n0, hn⟩ := hlaw (killL ids H) us' h2 h3 h4
  refine ⟨n0 + 1, G, ?_⟩
  have := hn (n0 + 1) (by omega)
  simp only [he] at this ⊢
  unfold pureA at this ⊢
  rw [frzAs_fro h3] at this
  have e : frzAs us H = some (us', killL ids H) := by unfold frzAs; rw [h1]
  rw [e]
  exact this
end Go.AM
end
section
set_option linter.unusedVariables false
set_option linter.unusedSimpArgs false
namespace Go.AM.U
structure Tr where
  v0 : Int
  v1 : Int
  v2 : Int
  x0 : Int
  y0 : Int
  x1 : Int
  y1 : Int
  x2 : Int
  y2 : Int
 deriving DecidableEq
def cmpL : List Int → List Int → Int
  | a :: as1, b :: bs => if a < b then -1 else if a > b then 1 else cmpL as1 bs
  | _, _ => 0
def Tr.key (t : Tr) : List Int := [t.v0, t.x0, t.y0, t.v1, t.x1, t.y1, t.v2, t.x2, t.y2]
def cmpT (a b : Tr) : Int := cmpL a.key b.key
theorem cmpL_self : ∀ (l : List Int), cmpL l l = 0
  | [] => rfl
  | a :: l => by simp [cmpL, cmpL_self l]
theorem cmpT_self (a : Tr) : cmpT a a = 0 := cmpL_self _
theorem cmpL_trans : ∀ {a b c : List Int}, a.length = b.length → b.length = c.length → cmpL a b < 0 → cmpL b c < 0 → cmpL a c < 0
  | [], _, _, _, _, h, _ => by simp [cmpL] at h
  | a :: as1, [], _, h, _, _, _ => by simp at h
  | a :: as1, b :: bs, [], _, h, _, _ => by simp at h
  | a :: as1, b :: bs, c :: cs, h1, h2, h3, h4 => by
    simp only [cmpL] at *
    simp only [List.length_cons, Nat.add_right_cancel_iff] at h1 h2
    have ih := cmpL_trans h1 h2
    by_cases q1 : a < b
    · by_cases q2 : b < c
      · rw [if_pos (by omega)]; omega
      · by_cases q3 : b > c
        · rw [if_neg q2, if_pos q3] at h4; omega
        · rw [if_pos (by omega)]; omega
    · rw [if_neg q1] at h3
      by_cases q4 : a > b
      · rw [if_pos q4] at h3; omega
      · rw [if_neg q4] at h3
        by_cases q2 : b < c
        · rw [if_pos (by omega)]; omega
        · rw [if_neg q2] at h4
          by_cases q3 : b > c
          · rw [if_pos q3] at h4; omega
          · rw [if_neg q3] at h4
            rw [if_neg (by omega), if_neg (by omega)]; exact ih h3 h4
theorem cmpT_trans {a b c : Tr} (h1 : cmpT a b < 0) (h2 : cmpT b c < 0) : cmpT a c < 0 := cmpL_trans (a := a.key) (b := b.key) (c := c.key) rfl rfl h1 h2
def minF : Tr → List Tr → Tr
  | m, [] => m
  | m, x :: xs => minF (if cmpT x m < 0 then x else m) xs
def minI (all : List Tr) : Nat → Nat → List Tr → Nat
  | at_, _, [] => at_
  | at_, k, x :: xs => minI all (if cmpT x (all[at_]?.getD x) < 0 then k else at_) (k + 1) xs
theorem min_first (all : List Tr) : ∀ (p xs : List Tr) (at_ : Nat) (m : Tr), all = p ++ xs → p[at_]? = some m → (∀ (i : Nat), i < at_ → p[i]? ≠ some m) → (∀ (i : Nat) (y : Tr), p[i]? = some y → ¬ cmpT y m < 0) →
    all[minI all at_ p.length xs]? = some (minF m xs) ∧ ∀ (i : Nat), i < minI all at_ p.length xs → all[i]? ≠ some (minF m xs)
  | p, [], at_, m, h, h1, h2, h3 => by
    simp only [List.append_nil] at h; subst h
    exact ⟨h1, h2⟩
  | p, x :: xs, at_, m, h, h1, h2, h3 => by
    have hlt : at_ < p.length := by rcases Nat.lt_or_ge at_ p.length with h | h; exact h; rw [List.getElem?_eq_none h] at h1; cases h1
    have ha : all[at_]? = some m := by rw [h, List.getElem?_append_left hlt]; exact h1
    have hl : (p ++ [x]).length = p.length + 1 := by simp
    simp only [minF, minI, ha, Option.getD_some]
    by_cases hc : cmpT x m < 0
    · rw [if_pos hc, if_pos hc]
      have := min_first all (p ++ [x]) xs p.length x (by rw [h]; simp) (by simp) (fun i hi e => by rw [List.getElem?_append_left hi] at e; exact h3 i x e hc) (fun i y e => by
        rcases Nat.lt_trichotomy i p.length with hi | hi | hi
        · rw [List.getElem?_append_left hi] at e
          intro hy; exact h3 i y e (cmpT_trans hy hc)
        · subst hi; simp at e; subst e; rw [cmpT_self]; omega
        · rw [List.getElem?_eq_none (by simp; omega)] at e; cases e)
      rw [hl] at this; exact this
    · rw [if_neg hc, if_neg hc]
      have := min_first all (p ++ [x]) xs at_ m (by rw [h]; simp) (by rw [List.getElem?_append_left hlt]; exact h1) (fun i hi e => by rw [List.getElem?_append_left (by omega)] at e; exact h2 i hi e) (fun i y e => by
        rcases Nat.lt_trichotomy i p.length with hi | hi | hi
        · rw [List.getElem?_append_left hi] at e; exact h3 i y e
        · subst hi; simp at e; subst e; exact hc
        · rw [List.getElem?_eq_none (by simp; omega)] at e; cases e)
      rw [hl] at this; exact this
def nxt (all : List Tr) (t : Tr) : Option Nat := all.findIdx? fun s => decide (s.v1 = t.v2) && (decide (s.x1 = t.x2) && decide (s.y1 = t.y2))
def chR (all : List Tr) (N first : Nat) : Nat → Nat → Nat → List Tr → Option (List Tr)
  | 0, _, _, out => some out
  | r + 1, n, at_, out => match all[at_]? with
    | none => none
    | some t => match nxt all t with
      | none => none
      | some j => if (decide (j = first)) = (decide (n + 1 = N)) then chR all N first r (n + 1) j (out ++ [t]) else none
def chP (all : List Tr) (N first : Nat) : Nat → Nat → Nat → List Tr → Option (List Tr)
  | 0, _, at_, out => if at_ = first then some out else none
  | r + 1, n, at_, out => match all[at_]? with
    | none => none
    | some t => match nxt all t with
      | none => none
      | some j => if j = first ∧ n + 1 < N then none else chP all N first r (n + 1) j (out ++ [t])
theorem chP_R {all : List Tr} {N first : Nat} : ∀ (r n at_ : Nat) (out : List Tr), n + r = N → 0 < r → chP all N first r n at_ out = chR all N first r n at_ out
  | 0, _, _, _, _, h => absurd h (by omega)
  | r + 1, n, at_, out, h, _ => by
    simp only [chP, chR]
    cases all[at_]? with
    | none => rfl
    | some t =>
      simp only
      cases nxt all t with
      | none => rfl
      | some j =>
        simp only
        rcases Nat.eq_zero_or_pos r with h0 | h0
        · subst h0
          have hn : n + 1 = N := by omega
          rw [if_neg (by omega)]
          simp only [chP, chR]
          by_cases hj : j = first
          · rw [if_pos hj, if_pos (by simp [hj, hn])]
          · rw [if_neg hj, if_neg (by simp [hj, hn])]
        · have hn : ¬ n + 1 = N := by omega
          by_cases hj : j = first
          · rw [if_pos ⟨hj, by omega⟩, if_neg (by simp [hj, hn])]
          · rw [if_neg (by omega), if_pos (by simp [hj, hn])]
            exact chP_R r (n + 1) j _ (by omega) h0
end Go.AM.U
end
section
set_option linter.unusedVariables false
set_option linter.unusedSimpArgs false
set_option linter.unusedSimpArgs false
set_option linter.unusedVariables false
namespace Go.AM
section
variable {α : Type} {f : α → List V} {z : Nat}
theorem flat_len (hf : ∀ a, (f a).length = z) : ∀ (L : List α), (L.flatMap f).length = L.length * z
  | [] => by simp
  | p :: L => by rw [List.flatMap_cons, List.length_append, hf, flat_len hf L, List.length_cons, Nat.add_mul, Nat.one_mul, Nat.add_comm]
theorem flat_drop (hf : ∀ a, (f a).length = z) : ∀ (L : List α) (i : Nat), (L.flatMap f).drop (i * z) = (L.drop i).flatMap f
  | L, 0 => by simp
  | [], i + 1 => by simp
  | p :: L, i + 1 => by
    have e : (i + 1) * z = z + i * z := by rw [Nat.add_mul, Nat.one_mul, Nat.add_comm]
    have e3 : (f p ++ L.flatMap f).drop z = L.flatMap f := by rw [← hf p, List.drop_left]
    rw [List.flatMap_cons, e, ← List.drop_drop, e3, flat_drop hf L i, List.drop_succ_cons]
theorem flat_take (hf : ∀ a, (f a).length = z) : ∀ (L : List α) (i : Nat), (L.flatMap f).take (i * z) = (L.take i).flatMap f
  | L, 0 => by simp
  | [], i + 1 => by simp
  | p :: L, i + 1 => by
    have e : (i + 1) * z = z + i * z := by rw [Nat.add_mul, Nat.one_mul, Nat.add_comm]
    rw [List.flatMap_cons, e, List.take_add, ← hf p, List.take_left, List.drop_left, hf p, flat_take hf L i, List.take_succ_cons, List.flatMap_cons]
theorem flat_at (hf : ∀ a, (f a).length = z) {L : List α} {i : Nat} (h : i < L.length) : ((L.flatMap f).drop (i * z)).take z = f L[i] ∧ z ≤ ((L.flatMap f).drop (i * z)).length := by
  rw [flat_drop hf, List.drop_eq_getElem_cons h, List.flatMap_cons]
  constructor
  · rw [← hf L[i], List.take_left]
  · rw [List.length_append, hf]; omega
def rowG (f : α → List V) (z : Nat) (L : List α) : V := if L.length = 0 then .list 0 0 [] else .list L.length z (L.flatMap f)
theorem rowG_idx {L : List α} {i : Nat} (h : i < L.length) : idxS z (rowG f z L) (.int .i64 (i : Int)) = some (.lptr ((L.flatMap f).drop (i * z))) := by
  unfold rowG
  rw [if_neg (by omega)]
  simp only [idxS, Int.toNat_natCast]
  rw [if_pos (by constructor <;> simp <;> omega)]
theorem rowG_ld (hf : ∀ a, (f a).length = z) {L : List α} {i : Nat} (h : i < L.length) {H : Heap} : ldN z (.lptr ((L.flatMap f).drop (i * z))) H = some (.agg (f L[i])) := by
  obtain ⟨h1, h2⟩ := flat_at hf h
  simp only [ldN, if_pos h2, h1]
theorem rowG_len {L : List α} : lenSl (rowG f z L) = some (.int .i64 (L.length : Int)) := by
  unfold rowG
  split
  · rename_i h; simp [lenSl, h]
  · simp [lenSl]
theorem flat_fro2 (h : ∀ a, (f a).all V.fro1 = true ∧ V.frees (f a) = true) : ∀ L : List α, (L.flatMap f).all V.fro1 = true ∧ V.frees (L.flatMap f) = true
  | [] => ⟨rfl, rfl⟩
  | p :: L => by
    have q := flat_fro2 h L
    rw [List.flatMap_cons, List.all_append, frees_app]
    simp [h p, q]
theorem rowG_fro {L : List α} : (rowG f z L).fro = true := by unfold rowG; split <;> rfl
theorem rowG_free (h : ∀ a, (f a).all V.fro1 = true ∧ V.frees (f a) = true) {L : List α} : (rowG f z L).free = true := by
  unfold rowG; split
  · simp [V.free, V.frees]
  · simp [V.free, (flat_fro2 h L).2]
theorem rowG_cut (hf : ∀ a, (f a).length = z) {L : List α} {n : Nat} (hn : 0 < n) (h : n < L.length) : slSl z (rowG f z L) none (some (.int .i64 (n : Int))) = some (rowG f z (L.take n)) := by
  unfold rowG
  have e : (L.take n).length = n := by rw [List.length_take]; omega
  rw [if_neg (by omega), if_neg (by omega), e]
  have b1 : bndA 0 none = some 0 := rfl
  have b2 : bndA L.length (some (.int .i64 (n : Int))) = some n := by simp [bndA]
  simp only [slSl, b1, b2, Option.bind_some]
  rw [if_pos ⟨by omega, by omega, .inr trivial⟩, if_neg (by omega)]
  simp [flat_take hf]
end
end Go.AM
end
section
set_option linter.unusedVariables false
set_option linter.unusedSimpArgs false
set_option linter.unusedSimpArgs false
set_option linter.unusedVariables false
set_option maxRecDepth 100000
namespace Go.AM
abbrev Gv (f : Nat → Option R) (u : V) (H : Heap) : Prop := Tot f fun v H' => H' = H ∧ v = u
theorem Gv.bind {f : Nat → Option R} {u : V} {H : Heap} {k : Nat → R → Option R} {Q : V → Heap → Prop} (hf : Gv f u H) (hk : Tot (fun n => k n (u, H)) Q) : Tot (fun n => bnd (f n) (k n)) Q :=
  Tot.bind hf fun v H' ⟨h1, h2⟩ => by subst h1 h2; exact hk
namespace U
abbrev iv (n : Int) : V := .int .i64 n
def Tr.cells (t : Tr) : List V := [iv t.v0, iv t.v1, iv t.v2, iv t.x0, iv t.y0, iv t.x1, iv t.y1, iv t.x2, iv t.y2]
def sg (a b : Int) : Int := if a < b then -1 else if a > b then 1 else 0
def c3 (a1 a2 a3 b1 b2 b3 R : Int) : Int := if a1 < b1 then -1 else if a1 > b1 then 1 else if a2 < b2 then -1 else if a2 > b2 then 1 else if a3 < b3 then -1 else if a3 > b3 then 1 else R
theorem cmpT_c3 (a b : Tr) : cmpT a b = c3 a.v0 a.x0 a.y0 b.v0 b.x0 b.y0 (c3 a.v1 a.x1 a.y1 b.v1 b.x1 b.y1 (c3 a.v2 a.x2 a.y2 b.v2 b.x2 b.y2 0)) := rfl
theorem c3_sg (a1 a2 a3 b1 b2 b3 R : Int) : c3 a1 a2 a3 b1 b2 b3 R = (if sg a1 b1 ≠ 0 then sg a1 b1 else if sg a2 b2 ≠ 0 then sg a2 b2 else if sg a3 b3 ≠ 0 then sg a3 b3 else R) := by
  simp only [c3, sg]
  grind
end U
namespace N
open U
variable {H : Heap}
theorem bT : asB (.bool true) = some true := rfl
theorem bF : asB (.bool false) = some false := rfl
theorem isNaN_P {a : Int} : Gv (fun n => f_cmp_isNaN_int n [iv a] H) (.bool false) H := by
  refine cmp_isNaN_int_tot ?_
  simp only [cmp_isNaN_int_b]
  refine Tot.pure (show arA .neq (iv a) (iv a) = some (.bool false) by simp (disch := omega) []) ?_
  exact Tot.ret ⟨rfl, rfl⟩
theorem lss_P {a b : Int} : arA .lss (iv a) (iv b) = some (.bool (decide (a < b))) := rfl
theorem gtr_P {a b : Int} : arA .gtr (iv a) (iv b) = some (.bool (decide (a > b))) := rfl
theorem eql_P {a b : Int} : arA .eql (iv a) (iv b) = some (.bool (decide (a = b))) := rfl
theorem neq_P {a b : Int} : arA .neq (iv a) (iv b) = some (.bool (!decide (a = b))) := by simp (disch := omega) []
theorem compare_P {a b : Int} : Gv (fun n => f_cmp_Compare_int n [iv a, iv b] H) (iv (sg a b)) H := by
  refine cmp_Compare_int_tot ?_
  simp only [cmp_Compare_int_b]
  refine Gv.bind isNaN_P ?_
  refine Gv.bind isNaN_P ?_
  refine Tot.pure bF ?_
  simp only [Bool.false_eq_true, if_false]
  refine Tot.pure bF ?_
  simp only [Bool.false_eq_true, if_false]
  refine Tot.pure lss_P ?_
  by_cases h1 : a < b
  · rw [decide_eq_true h1]
    refine Tot.pure bT ?_
    simp only [if_true]
    exact Tot.ret ⟨rfl, by simp [sg, h1]⟩
  · rw [decide_eq_false h1]
    refine Tot.pure bF ?_
    simp only [Bool.false_eq_true, if_false]
    refine Tot.pure gtr_P ?_
    by_cases h2 : a > b
    · rw [decide_eq_true h2]
      refine Tot.pure bT ?_
      simp only [if_true]
      exact Tot.ret ⟨rfl, by simp [sg, h1, h2]⟩
    · rw [decide_eq_false h2]
      refine Tot.pure bF ?_
      simp only [Bool.false_eq_true, if_false]
      exact Tot.ret ⟨rfl, by simp [sg, h1, h2]⟩
theorem or_P {a b c : Int} {i : Nat} (h : H.get i = .cells [iv a, iv b, iv c] ty_int false) : Gv (fun n => f_cmp_Or_int n [.slice ⟨some (i, 0), 3, 1, false⟩] H) (iv (if a ≠ 0 then a else if b ≠ 0 then b else if c ≠ 0 then c else 0)) H := by
  refine cmp_Or_int_tot ?_
  simp only [cmp_Or_int_b]
  refine Tot.pure (show lenSl _ = some (iv 3) from rfl) ?_
  refine cmp_Or_int.l0_tot Big.id fun m hm => ?_
  simp only [cmp_Or_int.l0_b]
  refine Tot.pure (show arA .lss (iv 0) (iv 3) = some (.bool true) from rfl) ?_
  refine Tot.pure bT ?_
  simp only [if_true]
  refine Tot.pure (show idxS 1 (.slice ⟨some (i, 0), 3, 1, false⟩) (iv 0) = some (.ptr (some (i, 0))) from rfl) ?_
  refine Tot.pure (show ld1 (.ptr (some (i, 0))) H = some (iv a) by simp [ld1, h]) ?_
  refine Tot.pure neq_P ?_
  by_cases h1 : a = 0
  case neg =>
    rw [decide_eq_false h1]
    refine Tot.pure bT ?_
    simp only [if_true]
    exact Tot.ret ⟨rfl, by simp [h1]⟩
  rw [decide_eq_true h1]
  refine Tot.pure bF ?_
  simp only [Bool.false_eq_true, if_false]
  refine Tot.pure (show arA .add (iv 0) (iv 1) = some (iv 1) from rfl) ?_
  refine cmp_Or_int.l0_tot hm fun m hm => ?_
  simp only [cmp_Or_int.l0_b]
  refine Tot.pure (show arA .lss (iv 1) (iv 3) = some (.bool true) from rfl) ?_
  refine Tot.pure bT ?_
  simp only [if_true]
  refine Tot.pure (show idxS 1 (.slice ⟨some (i, 0), 3, 1, false⟩) (iv 1) = some (.ptr (some (i, 1))) from rfl) ?_
  refine Tot.pure (show ld1 (.ptr (some (i, 1))) H = some (iv b) by simp [ld1, h]) ?_
  refine Tot.pure neq_P ?_
  by_cases h2 : b = 0
  case neg =>
    rw [decide_eq_false h2]
    refine Tot.pure bT ?_
    simp only [if_true]
    exact Tot.ret ⟨rfl, by simp [h1, h2]⟩
  rw [decide_eq_true h2]
  refine Tot.pure bF ?_
  simp only [Bool.false_eq_true, if_false]
  refine Tot.pure (show arA .add (iv 1) (iv 1) = some (iv 2) from rfl) ?_
  refine cmp_Or_int.l0_tot hm fun m hm => ?_
  simp only [cmp_Or_int.l0_b]
  refine Tot.pure (show arA .lss (iv 2) (iv 3) = some (.bool true) from rfl) ?_
  refine Tot.pure bT ?_
  simp only [if_true]
  refine Tot.pure (show idxS 1 (.slice ⟨some (i, 0), 3, 1, false⟩) (iv 2) = some (.ptr (some (i, 2))) from rfl) ?_
  refine Tot.pure (show ld1 (.ptr (some (i, 2))) H = some (iv c) by simp [ld1, h]) ?_
  refine Tot.pure neq_P ?_
  by_cases h3 : c = 0
  case neg =>
    rw [decide_eq_false h3]
    refine Tot.pure bT ?_
    simp only [if_true]
    exact Tot.ret ⟨rfl, by simp [h1, h2, h3]⟩
  rw [decide_eq_true h3]
  refine Tot.pure bF ?_
  simp only [Bool.false_eq_true, if_false]
  refine Tot.pure (show arA .add (iv 2) (iv 1) = some (iv 3) from rfl) ?_
  refine cmp_Or_int.l0_tot hm fun m hm => ?_
  simp only [cmp_Or_int.l0_b]
  refine Tot.pure (show arA .lss (iv 3) (iv 3) = some (.bool false) from rfl) ?_
  refine Tot.pure bF ?_
  simp only [Bool.false_eq_true, if_false]
  exact Tot.ret ⟨rfl, by simp [h1, h2, h3]⟩
theorem order_step {k : Int} {A B : List V} {i1 i2 : Nat} {a1 a2 a3 b1 b2 b3 R : Int} {m : Nat → Nat} (hm : Big m)
    (hk : arA .lss (iv k) (iv 3) = some (.bool true)) (hk2 : arA .add (iv k) (iv 1) = some (iv (k + 1)))
    (p1 : ∀ j, idxP 3 1 (.ptr (some (j, 0))) (iv k) = some (.ptr (some (j, i1)))) (p2 : ∀ j, idxP 3 2 (.ptr (some (j, 3))) (iv k) = some (.ptr (some (j, i2))))
    (A1 : A[i1]? = some (iv a1)) (A2 : A[i2]? = some (iv a2)) (A3 : A[i2 + 1]? = some (iv a3)) (B1 : B[i1]? = some (iv b1)) (B2 : B[i2]? = some (iv b2)) (B3 : B[i2 + 1]? = some (iv b3))
    (h0 : H.get 0 = .cells A ty_api_Tri false) (h1 : H.get 1 = .cells B ty_api_Tri false) (hn : 2 ≤ H.n)
    (ih : ∀ (H' : Heap) (m' : Nat → Nat), Big m' → H'.get 0 = .cells A ty_api_Tri false → H'.get 1 = .cells B ty_api_Tri false → 2 ≤ H'.n → Tot (fun n => cover_order.l0 n (m' n) (.ptr (some (0, 0))) (.ptr (some (1, 0))) (iv (k + 1)) H') fun v _ => v = iv R) :
    Tot (fun n => cover_order.l0 n (m n) (.ptr (some (0, 0))) (.ptr (some (1, 0))) (iv k) H) fun v _ => v = iv (c3 a1 a2 a3 b1 b2 b3 R) := by
  refine cover_order.l0_tot hm fun m hm => ?_
  simp only [cover_order.l0_b]
  refine Tot.pure hk ?_
  refine Tot.pure bT ?_
  simp only [if_true]
  have f0 : ∀ j, faA 0 (.ptr (some (j, 0))) = some (.ptr (some (j, 0))) := fun _ => rfl
  have f3 : ∀ j, faA 3 (.ptr (some (j, 0))) = some (.ptr (some (j, 3))) := fun _ => rfl
  have g0 : ∀ j i, faA 0 (.ptr (some (j, i))) = some (.ptr (some (j, i))) := fun _ _ => rfl
  have g1 : ∀ j i, faA 1 (.ptr (some (j, i))) = some (.ptr (some (j, i + 1))) := fun _ _ => rfl
  have hM0 : (H.more 1).get 0 = .cells A ty_api_Tri false := h0
  have hM1 : (H.more 1).get 1 = .cells B ty_api_Tri false := h1
  have L : ∀ {K : Heap} {j i : Nat} {C : List V} {x : V}, K.get j = .cells C ty_api_Tri false → C[i]? = some x → ld1 (.ptr (some (j, i))) K = some x := by
    intro K j i C x hK hx
    simp [ld1, hK, hx]
  refine Tot.pure (f0 0) ?_
  refine Tot.pure (p1 0) ?_
  refine Tot.pure (L hM0 A1) ?_
  refine Tot.pure (f0 1) ?_
  refine Tot.pure (p1 1) ?_
  refine Tot.pure (L hM1 B1) ?_
  refine Gv.bind compare_P ?_
  dsimp only
  have ck : ∀ {x : Int} {K : Heap} {p : V}, ld1 p K = some (iv x) → chk (ld1 p K) (iv x) = some () := by
    intro x K p h; rw [h]; simp [chk, V.beq]
  refine Tot.pure (f3 0) ?_
  refine Tot.pure (p2 0) ?_
  refine Tot.pure (g0 0 i2) ?_
  refine Tot.pure (L hM0 A2) ?_
  refine Tot.chk (ck (L hM0 A2)) ?_
  refine Tot.pure (f3 1) ?_
  refine Tot.pure (p2 1) ?_
  refine Tot.pure (g0 1 i2) ?_
  refine Tot.pure (L hM1 B2) ?_
  refine Tot.chk (ck (L hM1 B2)) ?_
  refine Gv.bind compare_P ?_
  dsimp only
  refine Tot.pure (f3 0) ?_
  refine Tot.pure (p2 0) ?_
  refine Tot.pure (g1 0 i2) ?_
  refine Tot.pure (L hM0 A3) ?_
  refine Tot.chk (ck (L hM0 A3)) ?_
  refine Tot.chk (ck (L hM0 A3)) ?_
  refine Tot.pure (f3 1) ?_
  refine Tot.pure (p2 1) ?_
  refine Tot.pure (g1 1 i2) ?_
  refine Tot.pure (L hM1 B3) ?_
  refine Tot.chk (ck (L hM1 B3)) ?_
  refine Tot.chk (ck (L hM1 B3)) ?_
  refine Gv.bind compare_P ?_
  dsimp only
  refine Tot.pure (show bSl 1 ty_int [iv 0] 3 [(0, iv (sg a1 b1)), (1, iv (sg a2 b2)), (2, iv (sg a3 b3))] = some (.cells [iv (sg a1 b1), iv (sg a2 b2), iv (sg a3 b3)] ty_int false) from rfl) ?_
  refine Gv.bind (or_P (Heap.gsz rfl)) ?_
  dsimp only
  refine Tot.pure neq_P ?_
  rw [c3_sg]
  have hs : ∀ {x : Int}, (if (if sg a1 b1 ≠ 0 then sg a1 b1 else if sg a2 b2 ≠ 0 then sg a2 b2 else if sg a3 b3 ≠ 0 then sg a3 b3 else 0) = 0 then x else (if sg a1 b1 ≠ 0 then sg a1 b1 else if sg a2 b2 ≠ 0 then sg a2 b2 else if sg a3 b3 ≠ 0 then sg a3 b3 else 0)) = (if sg a1 b1 ≠ 0 then sg a1 b1 else if sg a2 b2 ≠ 0 then sg a2 b2 else if sg a3 b3 ≠ 0 then sg a3 b3 else x) := by
    intro x; grind
  rw [← hs (x := R)]
  generalize (if sg a1 b1 ≠ 0 then sg a1 b1 else if sg a2 b2 ≠ 0 then sg a2 b2 else if sg a3 b3 ≠ 0 then sg a3 b3 else 0) = s
  by_cases h : s = 0
  · rw [if_pos h, decide_eq_true h]
    refine Tot.pure bF ?_
    simp only [Bool.false_eq_true, if_false]
    refine Tot.pure hk2 ?_
    refine ih _ m hm ?_ ?_ ?_
    · rw [Heap.gtz (by omega)]; exact h0
    · rw [Heap.gtz (by omega)]; exact h1
    · simp; omega
  · rw [if_neg h, decide_eq_false h]
    refine Tot.pure bT ?_
    simp only [if_true]
    exact Tot.ret rfl
theorem E2_0 {x y : O} : ((E0.push x).push y).get 0 = x := by rw [Heap.gqz (show (0 : Nat) ≠ 1 by omega), Heap.gpz rfl]
theorem E2_1 {x y : O} : ((E0.push x).push y).get 1 = y := Heap.gpz rfl
theorem order_P {a b : U.Tr} : Gv (fun n => f_cover_order n [.agg a.cells, .agg b.cells] H) (iv (cmpT a b)) H := by
  refine cover_order_tot rfl rfl ?_
  simp only [cover_order_b]
  refine Tot.pure (show boxA _ (.agg a.cells) = some (.cells a.cells ty_api_Tri false) from rfl) ?_
  refine Tot.pure (show boxA _ (.agg b.cells) = some (.cells b.cells ty_api_Tri false) from rfl) ?_
  rw [cmpT_c3]
  refine Tot.mono (order_step (H := (E0.push (.cells a.cells ty_api_Tri false)).push (.cells b.cells ty_api_Tri false)) (A := a.cells) (B := b.cells) (i1 := 0) (i2 := 3) Big.id rfl rfl (fun _ => rfl) (fun _ => rfl) rfl rfl rfl rfl rfl rfl E2_0 E2_1 (by simp) fun K m hm k0 k1 kn => ?_) fun v _ h => ⟨by rw [h]; rfl, trivial, h⟩
  refine order_step (A := a.cells) (B := b.cells) (i1 := 1) (i2 := 5) hm rfl rfl (fun _ => rfl) (fun _ => rfl) rfl rfl rfl rfl rfl rfl k0 k1 kn fun K m hm k0 k1 kn => ?_
  refine order_step (A := a.cells) (B := b.cells) (i1 := 2) (i2 := 7) hm rfl rfl (fun _ => rfl) (fun _ => rfl) rfl rfl rfl rfl rfl rfl k0 k1 kn fun K m hm k0 k1 kn => ?_
  refine cover_order.l0_tot hm fun m hm => ?_
  simp only [cover_order.l0_b]
  refine Tot.pure (show arA .lss (iv (0 + 1 + 1 + 1)) (iv 3) = some (.bool false) from rfl) ?_
  refine Tot.pure bF ?_
  simp only [Bool.false_eq_true, if_false]
  exact Tot.ret rfl
theorem cmp_P {a b : U.Tr} : Gv (fun n => f_cover_Cmp n [.agg a.cells, .agg b.cells] H) (iv (cmpT a b)) H := by
  refine cover_Cmp_tot rfl rfl ?_
  simp only [cover_Cmp_b]
  refine Tot.pure (show boxA _ (.agg a.cells) = some (.cells a.cells ty_api_Tri false) from rfl) ?_
  refine Tot.pure (show boxA _ (.agg b.cells) = some (.cells b.cells ty_api_Tri false) from rfl) ?_
  refine Tot.pure (show ldN 9 (.ptr (some (0, 0))) _ = some (.agg a.cells) by rw [lgz, E2_0]; rfl) ?_
  refine Tot.pure (show ldN 9 (.ptr (some (1, 0))) _ = some (.agg b.cells) by rw [lgz, E2_1]; rfl) ?_
  refine Gv.bind order_P ?_
  exact Tot.ret ⟨rfl, trivial, rfl⟩
end N
end Go.AM
end
section
set_option linter.unusedVariables false
set_option linter.unusedSimpArgs false
set_option linter.unusedSimpArgs false
set_option linter.unusedVariables false
set_option maxRecDepth 100000
namespace Go.AM
namespace N
open U
variable {H : Heap}
theorem rl1_step {v2 v3 v5 : V} {i j : Nat} {X Y : List V} {k : Nat} {x y R : Int} {m0 m : Nat → Nat} (hm : Big m) (hX : H.get i = .cells X ty_3_int false) (hY : H.get j = .cells Y ty_3_int false)
    (h3 : k < 3) (hx : X[k]? = some (iv x)) (hy : Y[k]? = some (iv y))
    (ih : ∀ (m' : Nat → Nat), Big m' → Tot (fun n => ref12_Cmp.l1 n (m0 n) (m' n) v2 v3 v5 (.ptr (some (i, 0))) (.ptr (some (j, 0))) (iv ((k + 1 : Nat) : Int)) ((H.more 0).more 0)) fun v _ => v = iv R) :
    Tot (fun n => ref12_Cmp.l1 n (m0 n) (m n) v2 v3 v5 (.ptr (some (i, 0))) (.ptr (some (j, 0))) (iv (k : Int)) H) fun v _ => v = iv (if x < y then -1 else if x > y then 1 else R) := by
  refine ref12_Cmp.l1_tot hm fun m hm => ?_
  simp only [ref12_Cmp.l1_b]
  have e1 : arA .lss (iv (k : Int)) (iv 3) = some (.bool true) := by simp (disch := omega) []; omega
  have e2 : arA .add (iv (k : Int)) (iv 1) = some (iv ((k + 1 : Nat) : Int)) := by simp (disch := omega) []
  have p1 : ∀ i, idxP 3 1 (.ptr (some (i, 0))) (iv (k : Int)) = some (.ptr (some (i, k))) := by intro i; simp only [idxP]; rw [if_pos (by constructor <;> omega)]; simp
  have lx : ∀ {K : Heap}, K.get i = .cells X ty_3_int false → ld1 (.ptr (some (i, k))) K = some (iv x) := by intro K hK; simp [ld1, hK, hx]
  have ly : ∀ {K : Heap}, K.get j = .cells Y ty_3_int false → ld1 (.ptr (some (j, k))) K = some (iv y) := by intro K hK; simp [ld1, hK, hy]
  refine Tot.pure e1 ?_
  refine Tot.pure bT ?_
  simp only [if_true]
  refine Tot.pure (p1 i) ?_
  refine Tot.pure (lx (K := H.more 0) hX) ?_
  refine Tot.pure (p1 j) ?_
  refine Tot.pure (ly (K := H.more 0) hY) ?_
  refine Tot.pure lss_P ?_
  by_cases h1 : x < y
  · rw [decide_eq_true h1, if_pos h1]
    refine Tot.pure bT ?_
    simp only [if_true]
    exact Tot.ret rfl
  rw [decide_eq_false h1, if_neg h1]
  refine Tot.pure bF ?_
  simp only [Bool.false_eq_true, if_false]
  refine Tot.pure (p1 i) ?_
  refine Tot.pure (lx (K := (H.more 0).more 0) hX) ?_
  refine Tot.pure (p1 j) ?_
  refine Tot.pure (ly (K := (H.more 0).more 0) hY) ?_
  refine Tot.pure gtr_P ?_
  by_cases h2 : x > y
  · rw [decide_eq_true h2, if_pos h2]
    refine Tot.pure bT ?_
    simp only [if_true]
    exact Tot.ret rfl
  rw [decide_eq_false h2, if_neg h2]
  refine Tot.pure bF ?_
  simp only [Bool.false_eq_true, if_false]
  refine Tot.pure e2 ?_
  exact ih m hm
theorem rl0_step {k : Int} {A B : List V} {i1 i2 : Nat} {a1 a2 a3 b1 b2 b3 R : Int} {m : Nat → Nat} (hm : Big m)
    (hk : arA .lss (iv k) (iv 3) = some (.bool true)) (hk2 : arA .add (iv k) (iv 1) = some (iv (k + 1)))
    (p1 : ∀ j, idxP 3 1 (.ptr (some (j, 0))) (iv k) = some (.ptr (some (j, i1)))) (p2 : ∀ j, idxP 3 2 (.ptr (some (j, 3))) (iv k) = some (.ptr (some (j, i2))))
    (A1 : A[i1]? = some (iv a1)) (A2 : A[i2]? = some (iv a2)) (A3 : A[i2 + 1]? = some (iv a3)) (B1 : B[i1]? = some (iv b1)) (B2 : B[i2]? = some (iv b2)) (B3 : B[i2 + 1]? = some (iv b3))
    (h0 : H.get 0 = .cells A ty_api_Tri false) (h1 : H.get 1 = .cells B ty_api_Tri false) (hn : 2 ≤ H.n)
    (ih : ∀ (H' : Heap) (m' : Nat → Nat), Big m' → H'.get 0 = .cells A ty_api_Tri false → H'.get 1 = .cells B ty_api_Tri false → 2 ≤ H'.n → Tot (fun n => ref12_Cmp.l0 n (m' n) (.ptr (some (0, 0))) (.ptr (some (1, 0))) (iv (k + 1)) H') fun v _ => v = iv R) :
    Tot (fun n => ref12_Cmp.l0 n (m n) (.ptr (some (0, 0))) (.ptr (some (1, 0))) (iv k) H) fun v _ => v = iv (c3 a1 a2 a3 b1 b2 b3 R) := by
  refine ref12_Cmp.l0_tot hm fun m hm => ?_
  simp only [ref12_Cmp.l0_b]
  refine Tot.pure hk ?_
  refine Tot.pure bT ?_
  simp only [if_true]
  have f0 : ∀ j, faA 0 (.ptr (some (j, 0))) = some (.ptr (some (j, 0))) := fun _ => rfl
  have f3 : ∀ j, faA 3 (.ptr (some (j, 0))) = some (.ptr (some (j, 3))) := fun _ => rfl
  have g0 : ∀ j i, faA 0 (.ptr (some (j, i))) = some (.ptr (some (j, i))) := fun _ _ => rfl
  have g1 : ∀ j i, faA 1 (.ptr (some (j, i))) = some (.ptr (some (j, i + 1))) := fun _ _ => rfl
  have L : ∀ {K : Heap} {j i : Nat} {C : List V} {x : V}, K.get j = .cells C ty_api_Tri false → C[i]? = some x → ld1 (.ptr (some (j, i))) K = some x := by
    intro K j i C x hK hx
    simp [ld1, hK, hx]
  have ck : ∀ {x : Int} {K : Heap} {p : V}, ld1 p K = some (iv x) → chk (ld1 p K) (iv x) = some () := by
    intro x K p h; rw [h]; simp [chk, V.beq]
  have hM0 : (H.more 2).get 0 = .cells A ty_api_Tri false := h0
  have hM1 : (H.more 2).get 1 = .cells B ty_api_Tri false := h1
  refine Tot.pure (f0 0) ?_
  refine Tot.pure (p1 0) ?_
  refine Tot.pure (L hM0 A1) ?_
  refine Tot.pure (f3 0) ?_
  refine Tot.pure (p2 0) ?_
  refine Tot.pure (g0 0 i2) ?_
  refine Tot.pure (L hM0 A2) ?_
  refine Tot.pure (f3 0) ?_
  refine Tot.pure (p2 0) ?_
  refine Tot.pure (g1 0 i2) ?_
  refine Tot.pure (L hM0 A3) ?_
  refine Tot.pure (show flE 1 [iv 0, iv 0, iv 0] [(0, iv a1), (1, iv a2), (2, iv a3)] = some (.agg [iv a1, iv a2, iv a3]) from rfl) ?_
  obtain ⟨K0, hK0⟩ : ∃ K0, K0 = ((H.more 2).set (H.n + 0) (.cells [iv 0, iv 0, iv 0] ty_3_int false)).set (H.n + 1) (.cells [iv 0, iv 0, iv 0] ty_3_int false) := ⟨_, rfl⟩
  have Ka : K0.get (H.n + 0) = .cells [iv 0, iv 0, iv 0] ty_3_int false := by rw [hK0, Heap.gtz (by omega), Heap.gsz rfl]
  have Kb : K0.get (H.n + 1) = .cells [iv 0, iv 0, iv 0] ty_3_int false := by rw [hK0, Heap.gsz rfl]
  have K00 : K0.get 0 = .cells A ty_api_Tri false := by rw [hK0, Heap.gtz (by omega), Heap.gtz (by omega)]; exact h0
  have K01 : K0.get 1 = .cells B ty_api_Tri false := by rw [hK0, Heap.gtz (by omega), Heap.gtz (by omega)]; exact h1
  have Kn : 2 ≤ K0.n := by rw [hK0]; simp
  rw [← hK0]; clear hK0
  have st : ∀ {K : Heap} {j : Nat} {a b c : Int}, K.get j = .cells [iv 0, iv 0, iv 0] ty_3_int false → stA 3 (.ptr (some (j, 0))) (.agg [iv a, iv b, iv c]) K = some (K.set j (.cells [iv a, iv b, iv c] ty_3_int false)) := by
    intro K j a b c hK
    simp [stA, hK, V.cells, V.one, lset]
  refine Tot.pure (st Ka) ?_
  obtain ⟨K1, hK1⟩ : ∃ K1, K1 = K0.set (H.n + 0) (.cells [iv a1, iv a2, iv a3] ty_3_int false) := ⟨_, rfl⟩
  have Ka : K1.get (H.n + 0) = .cells [iv a1, iv a2, iv a3] ty_3_int false := by rw [hK1, Heap.gsz rfl]
  have Kb : K1.get (H.n + 1) = .cells [iv 0, iv 0, iv 0] ty_3_int false := by rw [hK1, Heap.gtz (by omega)]; exact Kb
  have K00 : K1.get 0 = .cells A ty_api_Tri false := by rw [hK1, Heap.gtz (by omega)]; exact K00
  have K01 : K1.get 1 = .cells B ty_api_Tri false := by rw [hK1, Heap.gtz (by omega)]; exact K01
  have Kn : 2 ≤ K1.n := by rw [hK1]; simpa using Kn
  rw [← hK1]; clear hK1
  refine Tot.pure (f0 1) ?_
  refine Tot.pure (p1 1) ?_
  refine Tot.pure (L K01 B1) ?_
  refine Tot.chk (ck (L hM1 B1)) ?_
  refine Tot.pure (f3 1) ?_
  refine Tot.pure (p2 1) ?_
  refine Tot.pure (g0 1 i2) ?_
  refine Tot.pure (L K01 B2) ?_
  refine Tot.chk (ck (L hM1 B2)) ?_
  refine Tot.pure (f3 1) ?_
  refine Tot.pure (p2 1) ?_
  refine Tot.pure (g1 1 i2) ?_
  refine Tot.pure (L K01 B3) ?_
  refine Tot.chk (ck (L hM1 B3)) ?_
  refine Tot.pure (show flE 1 [iv 0, iv 0, iv 0] [(0, iv b1), (1, iv b2), (2, iv b3)] = some (.agg [iv b1, iv b2, iv b3]) from rfl) ?_
  refine Tot.pure (st Kb) ?_
  obtain ⟨K2, hK2⟩ : ∃ K2, K2 = K1.set (H.n + 1) (.cells [iv b1, iv b2, iv b3] ty_3_int false) := ⟨_, rfl⟩
  have Ka : K2.get (H.n + 0) = .cells [iv a1, iv a2, iv a3] ty_3_int false := by rw [hK2, Heap.gtz (by omega)]; exact Ka
  have Kb : K2.get (H.n + 1) = .cells [iv b1, iv b2, iv b3] ty_3_int false := by rw [hK2, Heap.gsz rfl]
  have K00 : K2.get 0 = .cells A ty_api_Tri false := by rw [hK2, Heap.gtz (by omega)]; exact K00
  have K01 : K2.get 1 = .cells B ty_api_Tri false := by rw [hK2, Heap.gtz (by omega)]; exact K01
  have Kn : 2 ≤ K2.n := by rw [hK2]; simpa using Kn
  rw [← hK2]; clear hK2
  refine rl1_step (k := 0) Big.id Ka Kb (by omega) rfl rfl fun m1 hm1 => ?_
  refine rl1_step (k := 1) hm1 Ka Kb (by omega) rfl rfl fun m1 hm1 => ?_
  refine rl1_step (k := 2) hm1 Ka Kb (by omega) rfl rfl fun m1 hm1 => ?_
  refine ref12_Cmp.l1_tot hm1 fun m1 hm1 => ?_
  simp only [ref12_Cmp.l1_b]
  refine Tot.pure (show arA .lss (iv ((2 + 1 : Nat) : Int)) (iv 3) = some (.bool false) from rfl) ?_
  refine Tot.pure bF ?_
  simp only [Bool.false_eq_true, if_false]
  refine Tot.pure hk2 ?_
  exact ih _ m hm K00 K01 Kn
theorem rcmp_P {a b : U.Tr} : Gv (fun n => f_ref12_Cmp n [.agg a.cells, .agg b.cells] H) (iv (cmpT a b)) H := by
  refine ref12_Cmp_tot rfl rfl ?_
  simp only [ref12_Cmp_b]
  refine Tot.pure (show boxA _ (.agg a.cells) = some (.cells a.cells ty_api_Tri false) from rfl) ?_
  refine Tot.pure (show boxA _ (.agg b.cells) = some (.cells b.cells ty_api_Tri false) from rfl) ?_
  rw [cmpT_c3]
  refine Tot.mono (rl0_step (H := (E0.push (.cells a.cells ty_api_Tri false)).push (.cells b.cells ty_api_Tri false)) (A := a.cells) (B := b.cells) (i1 := 0) (i2 := 3) Big.id rfl rfl (fun _ => rfl) (fun _ => rfl) rfl rfl rfl rfl rfl rfl E2_0 E2_1 (by simp) fun K m hm k0 k1 kn => ?_) fun v _ h => ⟨by rw [h]; rfl, trivial, h⟩
  refine rl0_step (A := a.cells) (B := b.cells) (i1 := 1) (i2 := 5) hm rfl rfl (fun _ => rfl) (fun _ => rfl) rfl rfl rfl rfl rfl rfl k0 k1 kn fun K m hm k0 k1 kn => ?_
  refine rl0_step (A := a.cells) (B := b.cells) (i1 := 2) (i2 := 7) hm rfl rfl (fun _ => rfl) (fun _ => rfl) rfl rfl rfl rfl rfl rfl k0 k1 kn fun K m hm k0 k1 kn => ?_
  refine ref12_Cmp.l0_tot hm fun m hm => ?_
  simp only [ref12_Cmp.l0_b]
  refine Tot.pure (show arA .lss (iv (0 + 1 + 1 + 1)) (iv 3) = some (.bool false) from rfl) ?_
  refine Tot.pure bF ?_
  simp only [Bool.false_eq_true, if_false]
  exact Tot.ret rfl
end N
namespace U
abbrev ws (a b : Int) : Int := IntKind.i64.wrap (a - b)
def rot : Nat → Tr → Tr
  | 0, t => ⟨t.v0, t.v1, t.v2, ws t.x0 t.x0, ws t.y0 t.y0, ws t.x1 t.x0, ws t.y1 t.y0, ws t.x2 t.x0, ws t.y2 t.y0⟩
  | 1, t => ⟨t.v1, t.v2, t.v0, ws t.x1 t.x1, ws t.y1 t.y1, ws t.x2 t.x1, ws t.y2 t.y1, ws t.x0 t.x1, ws t.y0 t.y1⟩
  | _, t => ⟨t.v2, t.v0, t.v1, ws t.x2 t.x2, ws t.y2 t.y2, ws t.x0 t.x2, ws t.y0 t.y2, ws t.x1 t.x2, ws t.y1 t.y2⟩
end U
namespace N
open U
variable {H : Heap}
theorem run0 {f : Nat → List V → Heap → Option R} {g i : Nat} {args : List V} {v : V} {H : Heap} (hf : ∀ n a H, f n a H = callA C n g a H) (h : ∀ n, callA C (n + i) g args H = some (v, H)) : Gv (fun n => f n args H) v H := by
  refine ⟨_, _, ⟨rfl, rfl⟩, i, fun n hn => ?_⟩
  obtain ⟨k, rfl⟩ : ∃ k, n = k + i := ⟨n - i, by omega⟩
  exact (hf _ _ _).trans (h k)
theorem less_P {x y z w : Int} : Gv (fun n => f_lift_Less n [.agg [iv x, iv y], .agg [iv z, iv w]] H) (.agg [iv (ws x z), iv (ws y w)]) H := run0 (g := i_lift_Less) (i := 8) (fun n a H => by unfold f_lift_Less; rfl) (fun n => by kernel_rfl)
theorem chk_i1 {x : Int} {p : V} {K : Heap} (h : ld1 p K = some (iv x)) : chk (ld1 p K) (iv x) = some () := by rw [h]; simp [chk, V.beq]
theorem from_step {i k s q : Int} {q1 q2 i2 k1 k2 : Nat} {A B : List V} {v x y z w : Int} {o1 : O} {m : Nat → Nat} (hm : Big m) {Q : V → Heap → Prop}
    (hk : arA .lss (iv k) (iv 3) = some (.bool true)) (hk2 : arA .add (iv k) (iv 1) = some (iv (k + 1))) (hs : arA .add (iv i) (iv k) = some (iv s)) (hq : arA .rem (iv s) (iv 3) = some (iv q))
    (pA : idxP 3 2 (.ptr (some (0, 3))) (iv q) = some (.ptr (some (0, q2)))) (pI : idxP 3 2 (.ptr (some (0, 3))) (iv i) = some (.ptr (some (0, i2)))) (pV : idxP 3 1 (.ptr (some (0, 0))) (iv q) = some (.ptr (some (0, q1))))
    (oV : idxP 3 1 (.ptr (some (2, 0))) (iv k) = some (.ptr (some (2, k1)))) (oO : idxP 3 2 (.ptr (some (2, 3))) (iv k) = some (.ptr (some (2, k2))))
    (A1 : A[q1]? = some (iv v)) (A2 : Nat.ble (q2 + 2) A.length = true ∧ (A.drop q2).take 2 = [iv x, iv y]) (A3 : Nat.ble (i2 + 2) A.length = true ∧ (A.drop i2).take 2 = [iv z, iv w]) (Bl : Nat.ble (k1 + 1) B.length = true ∧ Nat.ble (k2 + 2) B.length = true)
    (h0 : H.get 0 = .cells A ty_api_Tri false) (h1 : H.get 1 = o1) (h2 : H.get 2 = .cells B ty_api_Tri false)
    (ih : ∀ (H' : Heap) (m' : Nat → Nat), Big m' → H'.get 0 = .cells A ty_api_Tri false → H'.get 1 = o1 → H'.get 2 = .cells (lset (lset B k1 [iv v]) k2 [iv (ws x z), iv (ws y w)]) ty_api_Tri false →
      Tot (fun n => unfold_from.l0 n (m' n) (iv i) (.ptr (some (0, 0))) (.ptr (some (1, 0))) (.ptr (some (2, 0))) (iv (k + 1)) H') Q) :
    Tot (fun n => unfold_from.l0 n (m n) (iv i) (.ptr (some (0, 0))) (.ptr (some (1, 0))) (.ptr (some (2, 0))) (iv k) H) Q := by
  refine unfold_from.l0_tot hm fun m hm => ?_
  simp only [unfold_from.l0_b]
  simp only [show ∀ H : Heap, H.more 0 = H from fun _ => rfl]
  refine Tot.pure hk ?_
  refine Tot.pure bT ?_
  simp only [if_true]
  have Bl1 := Nat.le_of_ble_eq_true Bl.1
  have Bl2 := Nat.le_of_ble_eq_true Bl.2
  have f0 : ∀ j, faA 0 (.ptr (some (j, 0))) = some (.ptr (some (j, 0))) := fun _ => rfl
  have f3 : ∀ j, faA 3 (.ptr (some (j, 0))) = some (.ptr (some (j, 3))) := fun _ => rfl
  refine Tot.pure hs ?_
  refine Tot.pure hq ?_
  refine Tot.pure (f3 0) ?_
  refine Tot.pure pA ?_
  refine Tot.pure (show ldN 2 (.ptr (some (0, q2))) H = some (.agg [iv x, iv y]) by simp only [ldN, h0]; rw [if_pos (Nat.le_of_ble_eq_true A2.1), A2.2]) ?_
  refine Tot.pure (f3 0) ?_
  refine Tot.pure pI ?_
  refine Tot.pure (show ldN 2 (.ptr (some (0, i2))) H = some (.agg [iv z, iv w]) by simp only [ldN, h0]; rw [if_pos (Nat.le_of_ble_eq_true A3.1), A3.2]) ?_
  refine Gv.bind less_P ?_
  dsimp only
  refine Tot.pure (f0 0) ?_
  refine Tot.pure pV ?_
  have lv : ld1 (.ptr (some (0, q1))) H = some (iv v) := by simp [ld1, h0, A1]
  refine Tot.pure lv ?_
  refine Tot.chk (chk_i1 lv) ?_
  refine Tot.pure (f0 2) ?_
  refine Tot.pure oV ?_
  refine Tot.pure (show stA 1 (.ptr (some (2, k1))) (iv v) H = some (H.set 2 (.cells (lset B k1 [iv v]) ty_api_Tri false)) by simp only [stA, h2]; rw [if_pos ⟨rfl, by omega, rfl⟩]; rfl) ?_
  refine Tot.pure (f3 2) ?_
  refine Tot.pure oO ?_
  have hl : (lset B k1 [iv v]).length = B.length := by
    simp only [lset]; first | (simp; done) | (simp; omega)
  refine Tot.pure (show stA 2 (.ptr (some (2, k2))) (.agg [iv (ws x z), iv (ws y w)]) (H.set 2 (.cells (lset B k1 [iv v]) ty_api_Tri false)) = some ((H.set 2 (.cells (lset B k1 [iv v]) ty_api_Tri false)).set 2 (.cells (lset (lset B k1 [iv v]) k2 [iv (ws x z), iv (ws y w)]) ty_api_Tri false)) by
    simp only [stA, Heap.gsz rfl]; rw [if_pos ⟨rfl, by omega, rfl⟩]; rfl) ?_
  refine Tot.pure hk2 ?_
  refine ih _ m hm ?_ ?_ ?_
  · rw [Heap.gtz (by omega), Heap.gtz (by omega)]; exact h0
  · rw [Heap.gtz (by omega), Heap.gtz (by omega)]; exact h1
  · rw [Heap.gsz rfl]
abbrev z9 : List V := [iv 0, iv 0, iv 0, iv 0, iv 0, iv 0, iv 0, iv 0, iv 0]
theorem from_end {i : Int} {B : List V} {m : Nat → Nat} (hm : Big m) (hB : B.length = 9 ∧ B.all V.one = true) (h1 : H.get 1 = .cells z9 ty_api_Tri false) (h2 : H.get 2 = .cells B ty_api_Tri false) :
    Tot (fun n => unfold_from.l0 n (m n) (iv i) (.ptr (some (0, 0))) (.ptr (some (1, 0))) (.ptr (some (2, 0))) (iv (0 + 1 + 1 + 1)) H) fun u _ => u = .agg B := by
  refine unfold_from.l0_tot hm fun m hm => ?_
  simp only [unfold_from.l0_b]
  refine Tot.pure (show arA .lss (iv (0 + 1 + 1 + 1)) (iv 3) = some (.bool false) from rfl) ?_
  refine Tot.pure bF ?_
  simp only [Bool.false_eq_true, if_false]
  refine Tot.pure (show ldN 9 (.ptr (some (2, 0))) H = some (.agg B) by simp only [ldN, h2]; rw [if_pos (by omega), List.drop_zero, List.take_of_length_le (by omega)]) ?_
  have e : lset z9 0 B = B := by
    clear h2
    obtain ⟨hl, -⟩ := hB
    match B, hl with
    | [a1, a2, a3, a4, a5, a6, a7, a8, a9], _ => rfl
  refine Tot.pure (show stA 9 (.ptr (some (1, 0))) (.agg B) H = some (H.set 1 (.cells B ty_api_Tri false)) by simp only [stA, h1]; rw [if_pos ⟨by simp [V.cells, hB.1], by simp, by simp only [V.cells]; exact hB.2⟩]; simp only [V.cells, e]) ?_
  refine Tot.pure (show ldN 9 (.ptr (some (1, 0))) _ = some (.agg B) by simp only [ldN, Heap.gsz rfl]; rw [if_pos (by omega), List.drop_zero, List.take_of_length_le (by omega)]) ?_
  exact Tot.ret rfl
theorem E3_0 {x y z : O} : (((E0.push x).push y).push z).get 0 = x := by rw [Heap.gqz (show (0 : Nat) ≠ 2 by omega)]; exact E2_0
theorem E3_1 {x y z : O} : (((E0.push x).push y).push z).get 1 = y := by rw [Heap.gqz (show (1 : Nat) ≠ 2 by omega)]; exact E2_1
theorem E3_2 {x y z : O} : (((E0.push x).push y).push z).get 2 = z := Heap.gpz rfl
theorem from_P {t : U.Tr} : ∀ (i : Nat), i < 3 → Gv (fun n => f_unfold_from n [.agg t.cells, iv (i : Int)] H) (.agg (rot i t).cells) H
  | 0, _ => by
    refine unfold_from_tot rfl rfl ?_
    simp only [unfold_from_b]
    refine Tot.pure (show boxA _ (.agg t.cells) = some (.cells t.cells ty_api_Tri false) from rfl) ?_
    refine Tot.mono (Q := fun u _ => u = .agg (rot 0 t).cells) ?_ fun v _ h => ⟨by rw [h]; rfl, trivial, h⟩
    refine from_step (A := t.cells) (B := z9) (q1 := 0) (q2 := 3) (i2 := 3) (k1 := 0) (k2 := 3) Big.id rfl rfl rfl rfl rfl rfl rfl rfl rfl rfl ⟨rfl, rfl⟩ ⟨rfl, rfl⟩ ⟨rfl, rfl⟩ E3_0 E3_1 E3_2 fun K m hm k0 k1 k2 => ?_
    refine from_step (A := t.cells) (q1 := 1) (q2 := 5) (i2 := 3) (k1 := 1) (k2 := 5) hm rfl rfl rfl rfl rfl rfl rfl rfl rfl rfl ⟨rfl, rfl⟩ ⟨rfl, rfl⟩ ⟨rfl, rfl⟩ k0 k1 k2 fun K m hm k0 k1 k2 => ?_
    refine from_step (A := t.cells) (q1 := 2) (q2 := 7) (i2 := 3) (k1 := 2) (k2 := 7) hm rfl rfl rfl rfl rfl rfl rfl rfl rfl rfl ⟨rfl, rfl⟩ ⟨rfl, rfl⟩ ⟨rfl, rfl⟩ k0 k1 k2 fun K m hm k0 k1 k2 => ?_
    exact from_end hm ⟨rfl, rfl⟩ k1 k2
  | 1, _ => by
    refine unfold_from_tot rfl rfl ?_
    simp only [unfold_from_b]
    refine Tot.pure (show boxA _ (.agg t.cells) = some (.cells t.cells ty_api_Tri false) from rfl) ?_
    refine Tot.mono (Q := fun u _ => u = .agg (rot 1 t).cells) ?_ fun v _ h => ⟨by rw [h]; rfl, trivial, h⟩
    refine from_step (A := t.cells) (B := z9) (q1 := 1) (q2 := 5) (i2 := 5) (k1 := 0) (k2 := 3) Big.id rfl rfl rfl rfl rfl rfl rfl rfl rfl rfl ⟨rfl, rfl⟩ ⟨rfl, rfl⟩ ⟨rfl, rfl⟩ E3_0 E3_1 E3_2 fun K m hm k0 k1 k2 => ?_
    refine from_step (A := t.cells) (q1 := 2) (q2 := 7) (i2 := 5) (k1 := 1) (k2 := 5) hm rfl rfl rfl rfl rfl rfl rfl rfl rfl rfl ⟨rfl, rfl⟩ ⟨rfl, rfl⟩ ⟨rfl, rfl⟩ k0 k1 k2 fun K m hm k0 k1 k2 => ?_
    refine from_step (A := t.cells) (q1 := 0) (q2 := 3) (i2 := 5) (k1 := 2) (k2 := 7) hm rfl rfl rfl rfl rfl rfl rfl rfl rfl rfl ⟨rfl, rfl⟩ ⟨rfl, rfl⟩ ⟨rfl, rfl⟩ k0 k1 k2 fun K m hm k0 k1 k2 => ?_
    exact from_end hm ⟨rfl, rfl⟩ k1 k2
  | 2, _ => by
    refine unfold_from_tot rfl rfl ?_
    simp only [unfold_from_b]
    refine Tot.pure (show boxA _ (.agg t.cells) = some (.cells t.cells ty_api_Tri false) from rfl) ?_
    refine Tot.mono (Q := fun u _ => u = .agg (rot 2 t).cells) ?_ fun v _ h => ⟨by rw [h]; rfl, trivial, h⟩
    refine from_step (A := t.cells) (B := z9) (q1 := 2) (q2 := 7) (i2 := 7) (k1 := 0) (k2 := 3) Big.id rfl rfl rfl rfl rfl rfl rfl rfl rfl rfl ⟨rfl, rfl⟩ ⟨rfl, rfl⟩ ⟨rfl, rfl⟩ E3_0 E3_1 E3_2 fun K m hm k0 k1 k2 => ?_
    refine from_step (A := t.cells) (q1 := 0) (q2 := 3) (i2 := 7) (k1 := 1) (k2 := 5) hm rfl rfl rfl rfl rfl rfl rfl rfl rfl rfl ⟨rfl, rfl⟩ ⟨rfl, rfl⟩ ⟨rfl, rfl⟩ k0 k1 k2 fun K m hm k0 k1 k2 => ?_
    refine from_step (A := t.cells) (q1 := 1) (q2 := 5) (i2 := 7) (k1 := 2) (k2 := 7) hm rfl rfl rfl rfl rfl rfl rfl rfl rfl rfl ⟨rfl, rfl⟩ ⟨rfl, rfl⟩ ⟨rfl, rfl⟩ k0 k1 k2 fun K m hm k0 k1 k2 => ?_
    exact from_end hm ⟨rfl, rfl⟩ k1 k2
end N
end Go.AM
end
section
set_option linter.unusedVariables false
set_option linter.unusedSimpArgs false
set_option linter.unusedSimpArgs false
set_option linter.unusedVariables false
set_option maxRecDepth 100000
namespace Go.AM
namespace N
open U
variable {H : Heap}
theorem rfrom_step {i k s q : Int} {q1 q2 i2 k1 k2 : Nat} {A B : List V} {v x y z w : Int} {o1 : O} {m : Nat → Nat} (hm : Big m) {Q : V → Heap → Prop}
    (hk : arA .lss (iv k) (iv 3) = some (.bool true)) (hk2 : arA .add (iv k) (iv 1) = some (iv (k + 1))) (hs : arA .add (iv i) (iv k) = some (iv s)) (hq : arA .rem (iv s) (iv 3) = some (iv q))
    (pA : idxP 3 2 (.ptr (some (0, 3))) (iv q) = some (.ptr (some (0, q2)))) (pI : idxP 3 2 (.ptr (some (0, 3))) (iv i) = some (.ptr (some (0, i2)))) (pV : idxP 3 1 (.ptr (some (0, 0))) (iv q) = some (.ptr (some (0, q1))))
    (oV : idxP 3 1 (.ptr (some (2, 0))) (iv k) = some (.ptr (some (2, k1)))) (oO : idxP 3 2 (.ptr (some (2, 3))) (iv k) = some (.ptr (some (2, k2))))
    (A1 : A[q1]? = some (iv v)) (Ax : A[q2]? = some (iv x)) (Ay : A[q2 + 1]? = some (iv y)) (Az : A[i2]? = some (iv z)) (Aw : A[i2 + 1]? = some (iv w)) (Bl : Nat.ble (k1 + 1) B.length = true ∧ Nat.ble (k2 + 2) B.length = true)
    (h0 : H.get 0 = .cells A ty_api_Tri false) (h1 : H.get 1 = o1) (h2 : H.get 2 = .cells B ty_api_Tri false)
    (ih : ∀ (H' : Heap) (m' : Nat → Nat), Big m' → H'.get 0 = .cells A ty_api_Tri false → H'.get 1 = o1 → H'.get 2 = .cells (lset (lset B k1 [iv v]) k2 [iv (ws x z), iv (ws y w)]) ty_api_Tri false →
      Tot (fun n => ref18_from.l0 n (m' n) (iv i) (.ptr (some (0, 0))) (.ptr (some (1, 0))) (.ptr (some (2, 0))) (iv (k + 1)) H') Q) :
    Tot (fun n => ref18_from.l0 n (m n) (iv i) (.ptr (some (0, 0))) (.ptr (some (1, 0))) (.ptr (some (2, 0))) (iv k) H) Q := by
  refine ref18_from.l0_tot hm fun m hm => ?_
  simp only [ref18_from.l0_b]
  simp only [show ∀ H : Heap, H.more 0 = H from fun _ => rfl]
  refine Tot.pure hk ?_
  refine Tot.pure bT ?_
  simp only [if_true]
  have Bl1 := Nat.le_of_ble_eq_true Bl.1
  have Bl2 := Nat.le_of_ble_eq_true Bl.2
  have f0 : ∀ j, faA 0 (.ptr (some (j, 0))) = some (.ptr (some (j, 0))) := fun _ => rfl
  have f3 : ∀ j, faA 3 (.ptr (some (j, 0))) = some (.ptr (some (j, 3))) := fun _ => rfl
  have g0 : ∀ j i, faA 0 (.ptr (some (j, i))) = some (.ptr (some (j, i))) := fun _ _ => rfl
  have g1 : ∀ j i, faA 1 (.ptr (some (j, i))) = some (.ptr (some (j, i + 1))) := fun _ _ => rfl
  have L : ∀ {K : Heap} {i : Nat} {x : V}, K.get 0 = .cells A ty_api_Tri false → A[i]? = some x → ld1 (.ptr (some (0, i))) K = some x := by
    intro K i x hK hx
    simp [ld1, hK, hx]
  refine Tot.pure hs ?_
  refine Tot.pure hq ?_
  refine Tot.pure (f0 0) ?_
  refine Tot.pure pV ?_
  refine Tot.pure (L h0 A1) ?_
  refine Tot.pure (f0 2) ?_
  refine Tot.pure oV ?_
  refine Tot.pure (show stA 1 (.ptr (some (2, k1))) (iv v) H = some (H.set 2 (.cells (lset B k1 [iv v]) ty_api_Tri false)) by simp only [stA, h2]; rw [if_pos ⟨rfl, by omega, rfl⟩]; rfl) ?_
  obtain ⟨K, hK⟩ : ∃ K, K = H.set 2 (.cells (lset B k1 [iv v]) ty_api_Tri false) := ⟨_, rfl⟩
  have K0 : K.get 0 = .cells A ty_api_Tri false := by rw [hK, Heap.gtz (by omega)]; exact h0
  have K1 : K.get 1 = o1 := by rw [hK, Heap.gtz (by omega)]; exact h1
  have K2 : K.get 2 = .cells (lset B k1 [iv v]) ty_api_Tri false := by rw [hK, Heap.gsz rfl]
  rw [← hK]; clear hK
  refine Tot.pure (f3 0) ?_
  refine Tot.pure pA ?_
  refine Tot.pure (g0 0 q2) ?_
  refine Tot.pure (L K0 Ax) ?_
  refine Tot.chk (chk_i1 (L h0 Ax)) ?_
  refine Tot.pure (f3 0) ?_
  refine Tot.pure pI ?_
  refine Tot.pure (g0 0 i2) ?_
  refine Tot.pure (L K0 Az) ?_
  refine Tot.chk (chk_i1 (L h0 Az)) ?_
  refine Tot.pure (show arA .sub (iv x) (iv z) = some (iv (ws x z)) from rfl) ?_
  refine Tot.pure (f3 0) ?_
  refine Tot.pure pA ?_
  refine Tot.pure (g1 0 q2) ?_
  refine Tot.pure (L K0 Ay) ?_
  refine Tot.chk (chk_i1 (L h0 Ay)) ?_
  refine Tot.pure (f3 0) ?_
  refine Tot.pure pI ?_
  refine Tot.pure (g1 0 i2) ?_
  refine Tot.pure (L K0 Aw) ?_
  refine Tot.chk (chk_i1 (L h0 Aw)) ?_
  refine Tot.pure (show arA .sub (iv y) (iv w) = some (iv (ws y w)) from rfl) ?_
  refine Tot.pure (show flA _ _ _ = some (.agg [iv (ws x z), iv (ws y w)]) from rfl) ?_
  refine Tot.pure (f3 2) ?_
  refine Tot.pure oO ?_
  have hl : (lset B k1 [iv v]).length = B.length := by
    simp only [lset]; first | (simp; done) | (simp; omega)
  refine Tot.pure (show stA 2 (.ptr (some (2, k2))) (.agg [iv (ws x z), iv (ws y w)]) K = some (K.set 2 (.cells (lset (lset B k1 [iv v]) k2 [iv (ws x z), iv (ws y w)]) ty_api_Tri false)) by
    simp only [stA, K2]; rw [if_pos ⟨rfl, by omega, rfl⟩]; rfl) ?_
  refine Tot.pure hk2 ?_
  refine ih _ m hm ?_ ?_ ?_
  · rw [Heap.gtz (by omega)]; exact K0
  · rw [Heap.gtz (by omega)]; exact K1
  · rw [Heap.gsz rfl]
theorem rfrom_end {i : Int} {B : List V} {m : Nat → Nat} (hm : Big m) (hB : B.length = 9 ∧ B.all V.one = true) (h1 : H.get 1 = .cells z9 ty_api_Tri false) (h2 : H.get 2 = .cells B ty_api_Tri false) :
    Tot (fun n => ref18_from.l0 n (m n) (iv i) (.ptr (some (0, 0))) (.ptr (some (1, 0))) (.ptr (some (2, 0))) (iv (0 + 1 + 1 + 1)) H) fun u _ => u = .agg B := by
  refine ref18_from.l0_tot hm fun m hm => ?_
  simp only [ref18_from.l0_b]
  refine Tot.pure (show arA .lss (iv (0 + 1 + 1 + 1)) (iv 3) = some (.bool false) from rfl) ?_
  refine Tot.pure bF ?_
  simp only [Bool.false_eq_true, if_false]
  refine Tot.pure (show ldN 9 (.ptr (some (2, 0))) H = some (.agg B) by simp only [ldN, h2]; rw [if_pos (by omega), List.drop_zero, List.take_of_length_le (by omega)]) ?_
  have e : lset z9 0 B = B := by
    clear h2
    obtain ⟨hl, -⟩ := hB
    match B, hl with
    | [a1, a2, a3, a4, a5, a6, a7, a8, a9], _ => rfl
  refine Tot.pure (show stA 9 (.ptr (some (1, 0))) (.agg B) H = some (H.set 1 (.cells B ty_api_Tri false)) by simp only [stA, h1]; rw [if_pos ⟨by simp [V.cells, hB.1], by simp, by simp only [V.cells]; exact hB.2⟩]; simp only [V.cells, e]) ?_
  refine Tot.pure (show ldN 9 (.ptr (some (1, 0))) _ = some (.agg B) by simp only [ldN, Heap.gsz rfl]; rw [if_pos (by omega), List.drop_zero, List.take_of_length_le (by omega)]) ?_
  exact Tot.ret rfl
theorem rfrom_P {t : U.Tr} : ∀ (i : Nat), i < 3 → Gv (fun n => f_ref18_from n [.agg t.cells, iv (i : Int)] H) (.agg (rot i t).cells) H
  | 0, _ => by
    refine ref18_from_tot rfl rfl ?_
    simp only [ref18_from_b]
    refine Tot.pure (show boxA _ (.agg t.cells) = some (.cells t.cells ty_api_Tri false) from rfl) ?_
    refine Tot.pure (show flA _ _ _ = some (.agg z9) from rfl) ?_
    refine Tot.pure (show stA 9 (.ptr (some (2, 0))) (.agg z9) (((E0.push (.cells t.cells ty_api_Tri false)).push (.cells z9 ty_api_Tri false)).push (.cells z9 ty_api_Tri false)) = some ((((E0.push (.cells t.cells ty_api_Tri false)).push (.cells z9 ty_api_Tri false)).push (.cells z9 ty_api_Tri false)).set 2 (.cells z9 ty_api_Tri false)) by simp only [stA, E3_2]; rfl) ?_
    refine Tot.mono (Q := fun u _ => u = .agg (rot 0 t).cells) ?_ fun v _ h => ⟨by rw [h]; rfl, trivial, h⟩
    have x0 : ((((E0.push (.cells t.cells ty_api_Tri false)).push (.cells z9 ty_api_Tri false)).push (.cells z9 ty_api_Tri false)).set 2 (.cells z9 ty_api_Tri false)).get 0 = .cells t.cells ty_api_Tri false := by rw [Heap.gtz (by omega)]; exact E3_0
    have x1 : ((((E0.push (.cells t.cells ty_api_Tri false)).push (.cells z9 ty_api_Tri false)).push (.cells z9 ty_api_Tri false)).set 2 (.cells z9 ty_api_Tri false)).get 1 = .cells z9 ty_api_Tri false := by rw [Heap.gtz (by omega)]; exact E3_1
    refine rfrom_step (A := t.cells) (B := z9) (q1 := 0) (q2 := 3) (i2 := 3) (k1 := 0) (k2 := 3) Big.id rfl rfl rfl rfl rfl rfl rfl rfl rfl rfl rfl rfl rfl rfl ⟨rfl, rfl⟩ x0 x1 (Heap.gsz rfl) fun K m hm k0 k1 k2 => ?_
    refine rfrom_step (A := t.cells) (q1 := 1) (q2 := 5) (i2 := 3) (k1 := 1) (k2 := 5) hm rfl rfl rfl rfl rfl rfl rfl rfl rfl rfl rfl rfl rfl rfl ⟨rfl, rfl⟩ k0 k1 k2 fun K m hm k0 k1 k2 => ?_
    refine rfrom_step (A := t.cells) (q1 := 2) (q2 := 7) (i2 := 3) (k1 := 2) (k2 := 7) hm rfl rfl rfl rfl rfl rfl rfl rfl rfl rfl rfl rfl rfl rfl ⟨rfl, rfl⟩ k0 k1 k2 fun K m hm k0 k1 k2 => ?_
    exact rfrom_end hm ⟨rfl, rfl⟩ k1 k2
  | 1, _ => by
    refine ref18_from_tot rfl rfl ?_
    simp only [ref18_from_b]
    refine Tot.pure (show boxA _ (.agg t.cells) = some (.cells t.cells ty_api_Tri false) from rfl) ?_
    refine Tot.pure (show flA _ _ _ = some (.agg z9) from rfl) ?_
    refine Tot.pure (show stA 9 (.ptr (some (2, 0))) (.agg z9) (((E0.push (.cells t.cells ty_api_Tri false)).push (.cells z9 ty_api_Tri false)).push (.cells z9 ty_api_Tri false)) = some ((((E0.push (.cells t.cells ty_api_Tri false)).push (.cells z9 ty_api_Tri false)).push (.cells z9 ty_api_Tri false)).set 2 (.cells z9 ty_api_Tri false)) by simp only [stA, E3_2]; rfl) ?_
    refine Tot.mono (Q := fun u _ => u = .agg (rot 1 t).cells) ?_ fun v _ h => ⟨by rw [h]; rfl, trivial, h⟩
    have x0 : ((((E0.push (.cells t.cells ty_api_Tri false)).push (.cells z9 ty_api_Tri false)).push (.cells z9 ty_api_Tri false)).set 2 (.cells z9 ty_api_Tri false)).get 0 = .cells t.cells ty_api_Tri false := by rw [Heap.gtz (by omega)]; exact E3_0
    have x1 : ((((E0.push (.cells t.cells ty_api_Tri false)).push (.cells z9 ty_api_Tri false)).push (.cells z9 ty_api_Tri false)).set 2 (.cells z9 ty_api_Tri false)).get 1 = .cells z9 ty_api_Tri false := by rw [Heap.gtz (by omega)]; exact E3_1
    refine rfrom_step (A := t.cells) (B := z9) (q1 := 1) (q2 := 5) (i2 := 5) (k1 := 0) (k2 := 3) Big.id rfl rfl rfl rfl rfl rfl rfl rfl rfl rfl rfl rfl rfl rfl ⟨rfl, rfl⟩ x0 x1 (Heap.gsz rfl) fun K m hm k0 k1 k2 => ?_
    refine rfrom_step (A := t.cells) (q1 := 2) (q2 := 7) (i2 := 5) (k1 := 1) (k2 := 5) hm rfl rfl rfl rfl rfl rfl rfl rfl rfl rfl rfl rfl rfl rfl ⟨rfl, rfl⟩ k0 k1 k2 fun K m hm k0 k1 k2 => ?_
    refine rfrom_step (A := t.cells) (q1 := 0) (q2 := 3) (i2 := 5) (k1 := 2) (k2 := 7) hm rfl rfl rfl rfl rfl rfl rfl rfl rfl rfl rfl rfl rfl rfl ⟨rfl, rfl⟩ k0 k1 k2 fun K m hm k0 k1 k2 => ?_
    exact rfrom_end hm ⟨rfl, rfl⟩ k1 k2
  | 2, _ => by
    refine ref18_from_tot rfl rfl ?_
    simp only [ref18_from_b]
    refine Tot.pure (show boxA _ (.agg t.cells) = some (.cells t.cells ty_api_Tri false) from rfl) ?_
    refine Tot.pure (show flA _ _ _ = some (.agg z9) from rfl) ?_
    refine Tot.pure (show stA 9 (.ptr (some (2, 0))) (.agg z9) (((E0.push (.cells t.cells ty_api_Tri false)).push (.cells z9 ty_api_Tri false)).push (.cells z9 ty_api_Tri false)) = some ((((E0.push (.cells t.cells ty_api_Tri false)).push (.cells z9 ty_api_Tri false)).push (.cells z9 ty_api_Tri false)).set 2 (.cells z9 ty_api_Tri false)) by simp only [stA, E3_2]; rfl) ?_
    refine Tot.mono (Q := fun u _ => u = .agg (rot 2 t).cells) ?_ fun v _ h => ⟨by rw [h]; rfl, trivial, h⟩
    have x0 : ((((E0.push (.cells t.cells ty_api_Tri false)).push (.cells z9 ty_api_Tri false)).push (.cells z9 ty_api_Tri false)).set 2 (.cells z9 ty_api_Tri false)).get 0 = .cells t.cells ty_api_Tri false := by rw [Heap.gtz (by omega)]; exact E3_0
    have x1 : ((((E0.push (.cells t.cells ty_api_Tri false)).push (.cells z9 ty_api_Tri false)).push (.cells z9 ty_api_Tri false)).set 2 (.cells z9 ty_api_Tri false)).get 1 = .cells z9 ty_api_Tri false := by rw [Heap.gtz (by omega)]; exact E3_1
    refine rfrom_step (A := t.cells) (B := z9) (q1 := 2) (q2 := 7) (i2 := 7) (k1 := 0) (k2 := 3) Big.id rfl rfl rfl rfl rfl rfl rfl rfl rfl rfl rfl rfl rfl rfl ⟨rfl, rfl⟩ x0 x1 (Heap.gsz rfl) fun K m hm k0 k1 k2 => ?_
    refine rfrom_step (A := t.cells) (q1 := 0) (q2 := 3) (i2 := 7) (k1 := 1) (k2 := 5) hm rfl rfl rfl rfl rfl rfl rfl rfl rfl rfl rfl rfl rfl rfl ⟨rfl, rfl⟩ k0 k1 k2 fun K m hm k0 k1 k2 => ?_
    refine rfrom_step (A := t.cells) (q1 := 1) (q2 := 5) (i2 := 7) (k1 := 2) (k2 := 7) hm rfl rfl rfl rfl rfl rfl rfl rfl rfl rfl rfl rfl rfl rfl ⟨rfl, rfl⟩ k0 k1 k2 fun K m hm k0 k1 k2 => ?_
    exact rfrom_end hm ⟨rfl, rfl⟩ k1 k2
end N
end Go.AM
end
section
set_option linter.unusedVariables false
set_option linter.unusedSimpArgs false
set_option linter.unusedSimpArgs false
set_option linter.unusedVariables false
set_option maxRecDepth 100000
namespace Go.AM
namespace N
open U
variable {H : Heap}
theorem eq_knot0 {a b c d e f : Int} : eqA P 8 ty_api_Knot (.agg [iv a, iv b, iv c]) (.agg [iv d, iv e, iv f]) = some ((a == d) && (((b == e) && ((c == f) && true)) && true)) := by kernel_rfl
theorem eq_off0 {b c e f : Int} : eqlA P ty_api_Off (.agg [iv b, iv c]) (.agg [iv e, iv f]) = some (.bool ((b == e) && ((c == f) && true))) := by kernel_rfl
theorem eq_tri0 {a b : U.Tr} : eqA P 8 ty_api_Tri (.agg a.cells) (.agg b.cells) = some (((a.v0 == b.v0) && ((a.v1 == b.v1) && ((a.v2 == b.v2) && true))) && ((((a.x0 == b.x0) && ((a.y0 == b.y0) && true)) && (((a.x1 == b.x1) && ((a.y1 == b.y1) && true)) && (((a.x2 == b.x2) && ((a.y2 == b.y2) && true)) && true))) && true)) := by kernel_rfl
theorem ok_tri : eqOk P ty_api_Tri = true := by kernel_rfl
theorem tri_eq {a b : U.Tr} : (((a.v0 == b.v0) && ((a.v1 == b.v1) && ((a.v2 == b.v2) && true))) && ((((a.x0 == b.x0) && ((a.y0 == b.y0) && true)) && (((a.x1 == b.x1) && ((a.y1 == b.y1) && true)) && (((a.x2 == b.x2) && ((a.y2 == b.y2) && true)) && true))) && true)) = decide (a = b) := by
  cases a; cases b
  rw [Bool.eq_iff_iff]
  simp only [Bool.and_true, Bool.and_eq_true, beq_iff_eq, decide_eq_true_eq, U.Tr.mk.injEq]
  grind
theorem eq_tri {a b : U.Tr} : eqlA P ty_api_Tri (.agg a.cells) (.agg b.cells) = some (.bool (decide (a = b))) := by
  unfold eqlA
  rw [if_pos ok_tri, eq_tri0, Option.bind_some, tri_eq]
theorem ne_tri {a b : U.Tr} : neqA P ty_api_Tri (.agg a.cells) (.agg b.cells) = some (.bool (!decide (a = b))) := by
  unfold neqA
  rw [if_pos ok_tri, eq_tri0, Option.bind_some, tri_eq]
theorem eq_off {b c e f : Int} : eqlA P ty_api_Off (.agg [iv b, iv c]) (.agg [iv e, iv f]) = some (.bool (decide (b = e) && decide (c = f))) := by
  rw [eq_off0, Bool.and_true]; rfl
theorem eq_knot {a b c d e f : Int} : eqA P 8 ty_api_Knot (.agg [iv a, iv b, iv c]) (.agg [iv d, iv e, iv f]) = some (decide (a = d) && (decide (b = e) && decide (c = f))) := by
  rw [eq_knot0, Bool.and_true, Bool.and_true]; rfl
theorem near_step {k : Int} {i2 : Nat} {A : List V} {x y : Int} {m : Nat → Nat} (hm : Big m)
    (hk : arA .lss (iv k) (iv 3) = some (.bool true)) (hk2 : arA .add (iv k) (iv 1) = some (iv (k + 1)))
    (p2 : idxP 3 2 (.ptr (some (0, 3))) (iv k) = some (.ptr (some (0, i2)))) (A2 : Nat.ble (i2 + 2) A.length = true ∧ (A.drop i2).take 2 = [iv x, iv y])
    (h0 : H.get 0 = .cells A ty_api_Tri false) (hn : 1 ≤ H.n)
    (ih : ∀ (H' : Heap) (m' : Nat → Nat), Big m' → H'.get 0 = .cells A ty_api_Tri false → 1 ≤ H'.n → Tot (fun n => law18_near.l0 n (m' n) (.ptr (some (0, 0))) (iv (k + 1)) H') fun v _ => ∃ b, v = .bool b) :
    Tot (fun n => law18_near.l0 n (m n) (.ptr (some (0, 0))) (iv k) H) fun v _ => ∃ b, v = .bool b := by
  refine law18_near.l0_tot hm fun m hm => ?_
  simp only [law18_near.l0_b]
  refine Tot.pure hk ?_
  refine Tot.pure bT ?_
  simp only [if_true]
  have g1 : ∀ j i, faA 1 (.ptr (some (j, i))) = some (.ptr (some (j, i + 1))) := fun _ _ => rfl
  have g0 : ∀ j i, faA 0 (.ptr (some (j, i))) = some (.ptr (some (j, i))) := fun _ _ => rfl
  refine Tot.pure (show faA 3 (.ptr (some (0, 0))) = some (.ptr (some (0, 3))) from rfl) ?_
  refine Tot.pure p2 ?_
  refine Tot.pure (show ldN 2 (.ptr (some (0, i2))) H = some (.agg [iv x, iv y]) by simp only [ldN, h0]; rw [if_pos (Nat.le_of_ble_eq_true A2.1), A2.2]) ?_
  have st : stA 2 (.ptr (some (H.n, 0))) (.agg [iv x, iv y]) (H.push (.cells [iv 0, iv 0] ty_api_Off false)) = some ((H.push (.cells [iv 0, iv 0] ty_api_Off false)).set H.n (.cells [iv x, iv y] ty_api_Off false)) := by
    simp [stA, Heap.gpz, V.cells, V.one, lset]
  refine Tot.pure st ?_
  obtain ⟨K, hK⟩ : ∃ K, K = (H.push (.cells [iv 0, iv 0] ty_api_Off false)).set H.n (.cells [iv x, iv y] ty_api_Off false) := ⟨_, rfl⟩
  have K0 : K.get 0 = .cells A ty_api_Tri false := by rw [hK, Heap.gtz (by omega), Heap.gqz (by omega)]; exact h0
  have Kx : ld1 (.ptr (some (H.n, 0))) K = some (iv x) := by rw [hK]; simp [ld1, Heap.gsz]
  have Ky : ld1 (.ptr (some (H.n, 0 + 1))) K = some (iv y) := by rw [hK]; simp [ld1, Heap.gsz]
  have Kn : 1 ≤ K.n := by rw [hK]; simp
  rw [← hK]; clear hK
  refine Tot.pure (g0 _ _) ?_
  refine Tot.pure Kx ?_
  refine Tot.pure gtr_P ?_
  generalize decide (x > 1125899906842624) = c1
  cases c1
  case true =>
    refine Tot.pure bT ?_
    simp only [if_true]
    exact Tot.ret ⟨_, rfl⟩
  refine Tot.pure bF ?_
  simp only [Bool.false_eq_true, if_false]
  refine Tot.pure (g0 _ _) ?_
  refine Tot.pure Kx ?_
  refine Tot.pure lss_P ?_
  generalize decide (x < -1125899906842624) = c2
  cases c2
  case true =>
    refine Tot.pure bT ?_
    simp only [if_true]
    exact Tot.ret ⟨_, rfl⟩
  refine Tot.pure bF ?_
  simp only [Bool.false_eq_true, if_false]
  refine Tot.pure (g1 _ _) ?_
  refine Tot.pure Ky ?_
  refine Tot.pure gtr_P ?_
  generalize decide (y > 1125899906842624) = c3
  cases c3
  case true =>
    refine Tot.pure bT ?_
    simp only [if_true]
    exact Tot.ret ⟨_, rfl⟩
  refine Tot.pure bF ?_
  simp only [Bool.false_eq_true, if_false]
  refine Tot.pure (g1 _ _) ?_
  refine Tot.pure Ky ?_
  refine Tot.pure lss_P ?_
  generalize decide (y < -1125899906842624) = c4
  cases c4
  case true =>
    refine Tot.pure bT ?_
    simp only [if_true]
    exact Tot.ret ⟨_, rfl⟩
  refine Tot.pure bF ?_
  simp only [Bool.false_eq_true, if_false]
  refine Tot.pure hk2 ?_
  exact ih _ m hm K0 Kn
theorem near_P {t : U.Tr} : Tot (fun n => f_law18_near n [.agg t.cells] H) fun v H' => H' = H ∧ ∃ b, v = .bool b := by
  refine law18_near_tot rfl rfl ?_
  simp only [law18_near_b]
  refine Tot.pure (show boxA _ (.agg t.cells) = some (.cells t.cells ty_api_Tri false) from rfl) ?_
  refine Tot.mono (Q := fun v _ => ∃ b, v = .bool b) ?_ fun v _ ⟨b, h⟩ => ⟨by rw [h]; rfl, trivial, b, h⟩
  refine near_step (A := t.cells) (i2 := 3) Big.id rfl rfl rfl ⟨rfl, rfl⟩ (Heap.gpz rfl) (Nat.le_refl _) fun K m hm k0 kn => ?_
  refine near_step (A := t.cells) (i2 := 5) hm rfl rfl rfl ⟨rfl, rfl⟩ k0 kn fun K m hm k0 kn => ?_
  refine near_step (A := t.cells) (i2 := 7) hm rfl rfl rfl ⟨rfl, rfl⟩ k0 kn fun K m hm k0 kn => ?_
  refine law18_near.l0_tot hm fun m hm => ?_
  simp only [law18_near.l0_b]
  refine Tot.pure (show arA .lss (iv (0 + 1 + 1 + 1)) (iv 3) = some (.bool false) from rfl) ?_
  refine Tot.pure bF ?_
  simp only [Bool.false_eq_true, if_false]
  exact Tot.ret ⟨_, rfl⟩
abbrev rowT (L : List U.Tr) : V := rowG Tr.cells 9 L
theorem c9 : ∀ t : U.Tr, t.cells.length = 9 := fun _ => rfl
theorem cfree : ∀ t : U.Tr, t.cells.all V.fro1 = true ∧ V.frees t.cells = true := fun _ => ⟨rfl, rfl⟩
theorem lssN {a b : Nat} : arA .lss (iv (a : Int)) (iv (b : Int)) = some (.bool (decide (a < b))) := by
  rw [lss_P]; congr 2; exact decide_eq_decide.2 (by omega)
theorem incN {a : Nat} (h : a < 4000000000) : arA .add (iv (a : Int)) (iv 1) = some (iv ((a + 1 : Nat) : Int)) := by
  simp (disch := omega) []
theorem same_loop {A B : List U.Tr} (hl : A.length = B.length) (hb : A.length < 2000000000) : ∀ (j i : Nat) (H : Heap) (m : Nat → Nat), i + j = A.length → Big m →
    Tot (fun n => ref12_Same.l0 n (m n) (rowT A) (rowT B) (iv (i : Int)) H) fun v _ => v = .bool (decide (A.drop i = B.drop i)) := by
  intro j
  induction j with
  | zero =>
    intro i H m hi hm
    refine ref12_Same.l0_tot hm fun m hm => ?_
    simp only [ref12_Same.l0_b]
    refine Tot.pure rowG_len ?_
    refine Tot.pure lssN ?_
    rw [decide_eq_false (by omega)]
    refine Tot.pure bF ?_
    simp only [Bool.false_eq_true, if_false]
    refine Tot.ret ?_
    rw [List.drop_of_length_le (by omega), List.drop_of_length_le (by omega)]; rfl
  | succ j ih =>
    intro i H m hi hm
    refine ref12_Same.l0_tot hm fun m hm => ?_
    simp only [ref12_Same.l0_b]
    refine Tot.pure rowG_len ?_
    refine Tot.pure lssN ?_
    rw [decide_eq_true (by omega)]
    refine Tot.pure bT ?_
    simp only [if_true]
    have ha : i < A.length := by omega
    have hb' : i < B.length := by omega
    refine Tot.pure (rowG_idx ha) ?_
    refine Tot.pure (rowG_ld c9 ha) ?_
    refine Tot.pure (rowG_idx hb') ?_
    refine Tot.pure (rowG_ld c9 hb') ?_
    refine Tot.pure ne_tri ?_
    rw [List.drop_eq_getElem_cons ha, List.drop_eq_getElem_cons hb']
    by_cases h : A[i] = B[i]
    · rw [decide_eq_true h]
      refine Tot.pure bF ?_
      simp only [Bool.false_eq_true, if_false]
      refine Tot.pure (incN (by omega)) ?_
      refine Tot.mono (ih (i + 1) _ m (by omega) hm) fun v _ hv => ?_
      rw [hv, h]; congr 1; exact decide_eq_decide.2 (by rw [List.cons.injEq]; exact ⟨fun e => ⟨rfl, e⟩, fun e => e.2⟩)
    · rw [decide_eq_false h]
      refine Tot.pure bT ?_
      simp only [if_true]
      refine Tot.ret ?_
      congr 1
      exact (decide_eq_false (by rw [List.cons.injEq]; exact fun e => h e.1)).symm
theorem same_P {A B : List U.Tr} (hb : A.length < 2000000000) (hb2 : B.length < 2000000000) : Gv (fun n => f_ref12_Same n [rowT A, rowT B] H) (.bool (decide (A = B))) H := by
  refine ref12_Same_tot (by simp [rowG_fro]) (by simp [V.frees, rowG_free cfree]) ?_
  simp only [ref12_Same_b]
  refine Tot.pure rowG_len ?_
  refine Tot.pure rowG_len ?_
  refine Tot.pure neq_P ?_
  by_cases h : A.length = B.length
  · rw [decide_eq_true (by omega)]
    refine Tot.pure bF ?_
    simp only [Bool.false_eq_true, if_false]
    refine Tot.mono (same_loop h hb A.length 0 _ _ (by omega) Big.id) fun v _ hv => ⟨by rw [hv]; rfl, trivial, by rw [hv]; rfl⟩
  · rw [decide_eq_false (by omega)]
    refine Tot.pure bT ?_
    simp only [if_true]
    refine Tot.ret ⟨rfl, trivial, ?_⟩
    congr 1
    exact (decide_eq_false (by intro e; exact h (by rw [e]))).symm
end N
end Go.AM
end
section
set_option linter.unusedVariables false
set_option linter.unusedSimpArgs false
set_option linter.unusedSimpArgs false
set_option linter.unusedVariables false
set_option maxRecDepth 100000
namespace Go.AM
namespace U
theorem flat9 (L : List Tr) : (L.flatMap Tr.cells).length = L.length * 9 := flat_len (f := Tr.cells) (z := 9) (fun _ => rfl) L
def GT (ty : TypeId) (H : Heap) (v : V) (L : List Tr) (i : Option Nat) : Prop :=
  (i = none ∧ L = [] ∧ ∃ z, v = .slice ⟨none, 0, z, false⟩) ∨ ∃ j, i = some j ∧ v = .slice ⟨some (j, 0), L.length, 9, false⟩ ∧ j < H.n ∧ H.get j = .cells (L.flatMap Tr.cells) ty false
variable {ty : TypeId} {H : Heap} {v : V} {L : List Tr} {i : Option Nat}
theorem GT.len (g : GT ty H v L i) : lenSl v = some (iv (L.length : Int)) := by
  rcases g with ⟨-, rfl, z, rfl⟩ | ⟨j, -, rfl, -⟩ <;> rfl
theorem GT.keep {H' : Heap} (g : GT ty H v L i) (hn : H.n ≤ H'.n) (hk : ∀ k, k < H.n → i = some k → H'.get k = H.get k) : GT ty H' v L i := by
  rcases g with g | ⟨j, h1, h2, h3, h4⟩
  · exact .inl g
  · exact .inr ⟨j, h1, h2, by omega, by rw [hk j h3 h1]; exact h4⟩
theorem GT.lt {k : Nat} (g : GT ty H v L i) (h : i = some k) : k < H.n := by
  rcases g with ⟨h1, -⟩ | ⟨j, h1, h2, h3, h4⟩
  · rw [h1] at h; cases h
  · rw [h1] at h; cases h; exact h3
theorem GT.idx (g : GT ty H v L i) {k : Nat} (hk : k < L.length) : ∃ j o, i = some j ∧ j < H.n ∧ idxS 9 v (iv (k : Int)) = some (.ptr (some (j, o))) ∧ ∀ H' : Heap, H'.get j = H.get j →
    ldN 9 (.ptr (some (j, o))) H' = some (.agg L[k].cells) ∧ ld1 (.ptr (some (j, o + 2))) H' = some (iv L[k].v2) ∧ ldN 2 (.ptr (some (j, o + 7))) H' = some (.agg [iv L[k].x2, iv L[k].y2]) ∧
    ld1 (.ptr (some (j, o + 1))) H' = some (iv L[k].v1) ∧ ldN 2 (.ptr (some (j, o + 5))) H' = some (.agg [iv L[k].x1, iv L[k].y1]) := by
  rcases g with ⟨-, rfl, -⟩ | ⟨j, h1, rfl, h3, h4⟩
  · simp at hk
  refine ⟨j, 0 + k * 9, h1, h3, ?_, fun H' hH' => ?_⟩
  · simp only [idxS, Int.toNat_natCast]
    rw [if_pos (by constructor <;> simp <;> omega)]
  · obtain ⟨q1, q2⟩ := flat_at (f := Tr.cells) (z := 9) (fun _ => rfl) hk
    have q3 : ∀ j, j < 9 → (L.flatMap Tr.cells)[k * 9 + j]? = L[k].cells[j]? := by
      intro j hj
      rw [← q1, List.getElem?_take, if_pos hj, List.getElem?_drop]
    have ql := flat9 L
    have qd : ∀ a b, a + b ≤ 9 → ((L.flatMap Tr.cells).drop (k * 9 + a)).take b = (L[k].cells.drop a).take b := by
      intro a b hab
      rw [← q1, ← List.drop_drop, List.drop_take, List.take_take, Nat.min_eq_left (by omega)]
    have hkk : k * 9 + 9 ≤ L.length * 9 := by omega
    refine ⟨?_, ?_, ?_, ?_, ?_⟩
    · simp only [ldN, hH', h4, Nat.zero_add]; rw [if_pos (by omega), q1]
    · simp only [ld1, hH', h4, Nat.zero_add]; rw [q3 2 (by omega)]; rfl
    · simp only [ldN, hH', h4, Nat.zero_add]; rw [if_pos (by omega), qd 7 2 (by omega)]; rfl
    · simp only [ld1, hH', h4, Nat.zero_add]; rw [q3 1 (by omega)]; rfl
    · simp only [ldN, hH', h4, Nat.zero_add]; rw [if_pos (by omega), qd 5 2 (by omega)]; rfl
abbrev z9 : List V := [iv 0, iv 0, iv 0, iv 0, iv 0, iv 0, iv 0, iv 0, iv 0]
theorem bsl_one {t : Tr} : bSl 9 ty z9 1 [(0, .agg t.cells)] = some (.cells t.cells ty false) := rfl
theorem GT.app {t : Tr} (g : GT ty H v L i) (hL : L.length < 1000000) : ∃ v' H' j, appA 9 72 ty v (.slice ⟨some (H.n, 0), 1, 9, false⟩) (H.push (.cells t.cells ty false)) = some (v', H') ∧ GT ty H' v' (L ++ [t]) (some j) ∧ H.n ≤ j ∧ H.n ≤ H'.n ∧
    ∀ k, k < H.n → i ≠ some k → H'.get k = H.get k := by
  have s1 : srcA 9 (.slice ⟨some (H.n, 0), 1, 9, false⟩) (H.push (.cells t.cells ty false)) = some (1, t.cells) := by
    simp only [srcA, rdS, Heap.gpz rfl, Nat.one_mul, Nat.zero_add, List.drop_zero]
    rfl
  rcases g with ⟨rfl, rfl, z, rfl⟩ | ⟨j, rfl, rfl, h3, h4⟩
  · unfold appA
    simp only [s1, Option.bind_some]
    rw [if_neg (by decide), if_pos ⟨by omega, by decide, .inl rfl⟩]
    simp only [rdS, if_true, Option.bind_some, killA, List.nil_append, Nat.zero_add]
    refine ⟨_, _, H.n + 1, rfl, .inr ⟨_, rfl, rfl, by simp, Heap.gpz rfl⟩, by omega, by simp; omega, fun k hk _ => ?_⟩
    rw [Heap.gqz (by simp; omega), Heap.gqz (by omega)]
  · unfold appA
    simp only [s1, Option.bind_some]
    rw [if_neg (by decide), if_pos ⟨by omega, by decide, .inr trivial⟩]
    have g1 : (H.push (.cells t.cells ty false)).get j = .cells (L.flatMap Tr.cells) ty false := by rw [Heap.gqz (by omega)]; exact h4
    have r1 : rdS ⟨some (j, 0), L.length, 9, false⟩ (H.push (.cells t.cells ty false)) = some (L.flatMap Tr.cells) := by
      have ql := flat9 L
      simp only [rdS, g1, Nat.zero_add, List.drop_zero, ← ql, List.take_length, Nat.le_refl, if_true]
      split
      · rename_i hz
        rw [List.eq_nil_of_length_eq_zero hz]; rfl
      · rfl
    simp only [r1, Option.bind_some, killA, g1, Bool.false_eq_true, if_false, if_true]
    refine ⟨_, _, H.n + 1, rfl, .inr ⟨_, rfl, by rw [List.length_append]; simp, by simp, by rw [Heap.gpz (by simp), List.flatMap_append]; simp⟩, by omega, by simp; omega, fun k hk hne => ?_⟩
    have : k ≠ j := fun e => hne (by rw [e])
    rw [Heap.gqz (by simp; omega), Heap.gtz this, Heap.gqz (by omega)]
theorem GT.frzV (g : GT ty H v L i) (d : Nat) : ∃ ids, frzV H (d + 2) v = some (rowG Tr.cells 9 L, ids) := by
  rcases g with ⟨rfl, rfl, z, rfl⟩ | ⟨j, rfl, rfl, h3, h4⟩
  · exact ⟨_, rfl⟩
  · unfold rowG
    by_cases hz : L.length = 0
    · rw [if_pos hz]
      refine ⟨[], ?_⟩
      unfold Go.AM.frzV; simp only [hz, if_true]
    · rw [if_neg hz]
      refine ⟨[j], ?_⟩
      have hc := (flat_fro2 (f := Tr.cells) (fun _ => ⟨rfl, rfl⟩) L).1
      have ql := flat9 L
      have ht : ((L.flatMap Tr.cells).drop 0).take (L.length * 9) = L.flatMap Tr.cells := by rw [List.drop_zero, ← ql, List.take_length]
      unfold Go.AM.frzV
      simp only [if_neg hz, h4, ht, frzL_fro1 (d := d) hc, Nat.zero_add]
      rw [if_pos (by omega)]
theorem GT.frz (g : GT ty H v L i) : ∃ H', frzR v H = some (rowG Tr.cells 9 L, H') := by
  obtain ⟨ids, h⟩ := g.frzV 4
  exact ⟨killL ids H, by simp only [frzR, h]⟩
theorem GT.frzT (g : GT ty H v L i) {b : Bool} : ∃ H', frzR (.tuple [v, .bool b]) H = some (.tuple [rowG Tr.cells 9 L, .bool b], H') := by
  obtain ⟨ids, h⟩ := g.frzV 3
  refine ⟨killL (ids ++ ([] ++ [])) H, ?_⟩
  have e : Go.AM.frzV H 6 (.tuple [v, .bool b]) = some (.tuple [rowG Tr.cells 9 L, .bool b], ids ++ ([] ++ [])) := by
    unfold Go.AM.frzV
    simp only [frzL, h]
    rfl
  simp only [frzR, e]
end U
end Go.AM
end
section
set_option linter.unusedVariables false
set_option linter.unusedSimpArgs false
set_option linter.unusedSimpArgs false
set_option linter.unusedVariables false
set_option maxRecDepth 100000
namespace Go.AM
namespace N
open U
variable {H : Heap}
abbrev gT (H : Heap) (v : V) (L : List U.Tr) (i : Option Nat) : Prop := GT ty_api_Tri H v L i
theorem len_gt {v : V} {L : List U.Tr} {i : Option Nat} (g : gT H v L i) : lenSl v = some (iv (L.length : Int)) := GT.len g
theorem index_loop {v : V} {L : List U.Tr} {i : Option Nat} {t : U.Tr} {p : Nat} (hb : L.length < 1000000) : ∀ (j k : Nat) (H : Heap) (m : Nat → Nat), k + j = L.length → Big m → gT H v L i → H.get p = .cells t.cells ty_api_Tri false →
    Tot (fun n => slices_Index_api_Tri_api_Tri.l0 n (m n) v (.ptr (some (p, 0))) (iv (L.length : Int)) (iv (k : Int)) H) fun u H' => H' = H ∧ u = iv (match (L.drop k).findIdx? (fun s => decide (t = s)) with | some q => ((k + q : Nat) : Int) | none => -1) := by
  intro j
  induction j with
  | zero =>
    intro k H m hk hm g hp
    refine slices_Index_api_Tri_api_Tri.l0_tot hm fun m hm => ?_
    simp only [slices_Index_api_Tri_api_Tri.l0_b]
    refine Tot.pure lssN ?_
    rw [decide_eq_false (by omega)]
    refine Tot.pure bF ?_
    simp only [Bool.false_eq_true, if_false]
    refine Tot.ret ⟨rfl, ?_⟩
    rw [List.drop_of_length_le (by omega)]; rfl
  | succ j ih =>
    intro k H m hk hm g hp
    have hl : k < L.length := by omega
    refine slices_Index_api_Tri_api_Tri.l0_tot hm fun m hm => ?_
    simp only [slices_Index_api_Tri_api_Tri.l0_b]
    simp only [show ∀ H : Heap, H.more 0 = H from fun _ => rfl]
    refine Tot.pure lssN ?_
    rw [decide_eq_true (by omega)]
    refine Tot.pure bT ?_
    simp only [if_true]
    refine Tot.pure (show ldN 9 (.ptr (some (p, 0))) H = some (.agg t.cells) by simp only [ldN, hp]; rfl) ?_
    obtain ⟨q, o, -, -, hx, hr⟩ := g.idx hl
    refine Tot.pure hx ?_
    refine Tot.pure (hr H rfl).1 ?_
    refine Tot.pure eq_tri ?_
    rw [List.drop_eq_getElem_cons hl, List.findIdx?_cons]
    by_cases h : t = L[k]
    · rw [decide_eq_true h]
      refine Tot.pure bT ?_
      simp only [if_true]
      exact Tot.ret ⟨rfl, rfl⟩
    · rw [decide_eq_false h]
      refine Tot.pure bF ?_
      simp only [Bool.false_eq_true, if_false]
      refine Tot.pure (incN (by omega)) ?_
      refine Tot.mono (ih (k + 1) H m (by omega) hm g hp) fun u H' ⟨e1, e2⟩ => ⟨e1, ?_⟩
      rw [e2]
      cases (L.drop (k + 1)).findIdx? (fun s => decide (t = s)) with
      | none => rfl
      | some q => simp only [Option.map_some]; congr 1; omega
theorem index_P {v : V} {L : List U.Tr} {i : Option Nat} {t : U.Tr} (hb : L.length < 1000000) (g : gT H v L i) :
    Tot (fun n => f_slices_Index_api_Tri_api_Tri n [v, .agg t.cells] H) fun u H' => Ext0 H H' ∧ u = iv (match L.findIdx? (fun s => decide (t = s)) with | some q => ((q : Nat) : Int) | none => -1) := by
  refine slices_Index_api_Tri_api_Tri_tot ?_
  simp only [slices_Index_api_Tri_api_Tri_b]
  refine Tot.pure (show boxA _ (.agg t.cells) = some (.cells t.cells ty_api_Tri false) from rfl) ?_
  refine Tot.pure (len_gt g) ?_
  have g' : gT (H.push (.cells t.cells ty_api_Tri false)) v L i := g.keep (by simp) fun k hk _ => Heap.gqz (by omega)
  refine Tot.mono (index_loop hb L.length 0 _ _ (by omega) Big.id g' (Heap.gpz rfl)) fun u H' ⟨e1, e2⟩ => ⟨?_, ?_⟩
  · rw [e1]; exact Keep.ext (Keep.auto)
  · rw [e2, List.drop_zero]; cases L.findIdx? (fun s => decide (t = s)) with
    | none => rfl
    | some q => simp only [Nat.zero_add]
theorem callV_cmp {a b : U.Tr} : Gv (fun n => callV (callA C n) (.func (.func 24) [] []) [.agg a.cells, .agg b.cells] H) (iv (cmpT a b)) H := by
  have e : ∀ n, callV (callA C n) (.func (.func 24) [] []) [.agg a.cells, .agg b.cells] H = f_cover_Cmp n [.agg a.cells, .agg b.cells] H := by
    intro n; unfold f_cover_Cmp; rfl
  exact Tot.eq e cmp_P
theorem min_loop {v : V} {L : List U.Tr} {i : Option Nat} {p r n0 : Nat} (hb : L.length < 1000000) : ∀ (j k : Nat) (H : Heap) (mn : U.Tr) (m : Nat → Nat), k + j = L.length → Big m → gT H v L i → H.get p = .cells z9 ty_api_Tri false → H.get r = .cells mn.cells ty_api_Tri false → n0 ≤ p → p ≠ r → n0 ≤ r → p < H.n → r < H.n → (∀ q, i = some q → q < n0) →
    Tot (fun n => slices_MinFunc_api_Tri_api_Tri.l1 n (m n) v (.func (.func 24) [] []) (.ptr (some (p, 0))) (.ptr (some (r, 0))) (iv (k : Int)) H) fun u H' => u = .agg (minF mn (L.drop k)).cells ∧ H.n ≤ H'.n ∧ ∀ q, q < n0 → H'.get q = H.get q := by
  intro j
  induction j with
  | zero =>
    intro k H mn m hk hm g hp hr n1 n2 n3 n4 n5 n6
    refine slices_MinFunc_api_Tri_api_Tri.l1_tot hm fun m hm => ?_
    simp only [slices_MinFunc_api_Tri_api_Tri.l1_b]
    refine Tot.pure (len_gt g) ?_
    refine Tot.pure lssN ?_
    rw [decide_eq_false (by omega)]
    refine Tot.pure bF ?_
    simp only [Bool.false_eq_true, if_false]
    refine Tot.pure (show ldN 9 (.ptr (some (r, 0))) H = some (.agg mn.cells) by simp only [ldN, hr]; rfl) ?_
    refine Tot.pure (show stA 9 (.ptr (some (p, 0))) (.agg mn.cells) H = some (H.set p (.cells mn.cells ty_api_Tri false)) by simp only [stA, hp]; rfl) ?_
    refine Tot.pure (show ldN 9 (.ptr (some (p, 0))) _ = some (.agg mn.cells) by simp only [ldN, Heap.gsz rfl]; rfl) ?_
    refine Tot.ret ⟨?_, by simp, fun q hq => Heap.gtz (by omega)⟩
    rw [List.drop_of_length_le (by omega)]; rfl
  | succ j ih =>
    intro k H mn m hk hm g hp hr n1 n2 n3 n4 n5 n6
    have hl : k < L.length := by omega
    refine slices_MinFunc_api_Tri_api_Tri.l1_tot hm fun m hm => ?_
    simp only [slices_MinFunc_api_Tri_api_Tri.l1_b]
    simp only [show ∀ H : Heap, H.more 0 = H from fun _ => rfl]
    refine Tot.pure (len_gt g) ?_
    refine Tot.pure lssN ?_
    rw [decide_eq_true (by omega)]
    refine Tot.pure bT ?_
    simp only [if_true]
    obtain ⟨q, o, hi, hq, hx, hrd⟩ := g.idx hl
    refine Tot.pure hx ?_
    refine Tot.pure (hrd H rfl).1 ?_
    refine Tot.pure (show ldN 9 (.ptr (some (r, 0))) H = some (.agg mn.cells) by simp only [ldN, hr]; rfl) ?_
    refine Gv.bind callV_cmp ?_
    dsimp only
    refine Tot.pure (show arA .lss (iv (cmpT L[k] mn)) (iv 0) = some (.bool (decide (cmpT L[k] mn < 0))) from rfl) ?_
    rw [List.drop_eq_getElem_cons hl]
    simp only [minF]
    by_cases h : cmpT L[k] mn < 0
    · rw [decide_eq_true h, if_pos h]
      refine Tot.pure bT ?_
      simp only [if_true]
      refine Tot.pure hx ?_
      refine Tot.pure (hrd H rfl).1 ?_
      refine Tot.pure (show stA 9 (.ptr (some (r, 0))) (.agg L[k].cells) H = some (H.set r (.cells L[k].cells ty_api_Tri false)) by simp only [stA, hr]; rfl) ?_
      refine Tot.pure (incN (by omega)) ?_
      refine Tot.mono (ih (k + 1) (H.set r (.cells L[k].cells ty_api_Tri false)) L[k] m (by omega) hm (g.keep (by simp) fun a ha he => Heap.gtz (by have := n6 a he; omega)) (by rw [Heap.gtz n2]; exact hp) (Heap.gsz rfl) n1 n2 n3 (by simpa using n4) (by simpa using n5) n6) fun u H' ⟨e1, e2, e3⟩ => ⟨e1, by simpa using e2, fun a ha => by rw [e3 a ha, Heap.gtz (by omega)]⟩
    · rw [decide_eq_false h, if_neg h]
      refine Tot.pure bF ?_
      simp only [Bool.false_eq_true, if_false]
      refine Tot.pure (incN (by omega)) ?_
      exact ih (k + 1) H mn m (by omega) hm g hp hr n1 n2 n3 n4 n5 n6
theorem min_P {v : V} {a : U.Tr} {L : List U.Tr} {i : Option Nat} (hb : (a :: L).length < 1000000) (g : gT H v (a :: L) i) :
    Tot (fun n => f_slices_MinFunc_api_Tri_api_Tri n [v, .func (.func 24) [] []] H) fun u H' => u = .agg (minF a L).cells ∧ H.n ≤ H'.n ∧ ∀ q, q < H.n → H'.get q = H.get q := by
  refine slices_MinFunc_api_Tri_api_Tri_tot ?_
  simp only [slices_MinFunc_api_Tri_api_Tri_b]
  refine Tot.pure (len_gt g) ?_
  refine Tot.pure lss_P ?_
  rw [decide_eq_false (by simp; omega)]
  refine Tot.pure bF ?_
  simp only [Bool.false_eq_true, if_false]
  refine slices_MinFunc_api_Tri_api_Tri.p0_tot ?_
  simp only [slices_MinFunc_api_Tri_api_Tri.p0_b]
  obtain ⟨K, hK⟩ : ∃ K, K = H.push (.cells z9 ty_api_Tri false) := ⟨_, rfl⟩
  have Kn : K.n = H.n + 1 := by rw [hK]; simp
  have Kp : K.get H.n = .cells z9 ty_api_Tri false := by rw [hK, Heap.gpz rfl]
  have Kk : ∀ q, q < H.n → K.get q = H.get q := fun q hq => by rw [hK, Heap.gqz (by omega)]
  rw [← hK]; clear hK
  have gK : gT K v (a :: L) i := g.keep (by omega) fun k hk _ => Kk k hk
  obtain ⟨q, o, hi, hq, hx, hrd⟩ := gK.idx (k := 0) (by simp)
  refine Tot.pure hx ?_
  refine Tot.pure (hrd K rfl).1 ?_
  refine Tot.pure (show stA 9 (.ptr (some (K.n, 0))) (.agg a.cells) (K.push (.cells z9 ty_api_Tri false)) = some ((K.push (.cells z9 ty_api_Tri false)).set K.n (.cells a.cells ty_api_Tri false)) by simp only [stA, Heap.gpz rfl]; rfl) ?_
  refine Tot.mono (min_loop (n0 := H.n) hb L.length 1 ((K.push (.cells z9 ty_api_Tri false)).set K.n (.cells a.cells ty_api_Tri false)) a _ (by simp; omega) Big.id (gK.keep (by simp) fun k hk he => by rw [Heap.gtz (by omega), Heap.gqz (by omega)]) (by rw [Heap.gtz (by omega), Heap.gqz (by omega)]; exact Kp) (Heap.gsz rfl) (by omega) (by omega) (by omega) (by simp; omega) (by simp) fun k hk => g.lt hk)
    fun u H' ⟨e1, e2, e3⟩ => ⟨e1, by simp at e2; omega, fun k hk => by rw [e3 k hk, Heap.gtz (by omega), Heap.gqz (by omega)]; exact Kk k hk⟩
end N
end Go.AM
end
section
set_option linter.unusedVariables false
set_option linter.unusedSimpArgs false
set_option linter.unusedSimpArgs false
set_option linter.unusedVariables false
set_option maxRecDepth 100000
namespace Go.AM
namespace U
def vk (t : Tr) : Nat → Int
  | 0 => t.v0
  | 1 => t.v1
  | _ => t.v2
theorem cell_vk {t : Tr} : ∀ {k : Nat}, k < 3 → t.cells[k]? = some (iv (vk t k))
  | 0, _ => rfl
  | 1, _ => rfl
  | 2, _ => rfl
def restT (id : Int) (t : Tr) : Nat → List Tr
  | 0 => []
  | j + 1 => (if vk t (2 - j) = id then [rot (2 - j) t] else []) ++ restT id t j
def allT (id : Int) (L : List Tr) : List Tr := L.flatMap fun t => restT id t 3
theorem rest_le (id : Int) (t : Tr) : ∀ j, (restT id t j).length ≤ j
  | 0 => Nat.le_refl _
  | j + 1 => by
    have := rest_le id t j
    simp only [restT, List.length_append]
    split <;> simp <;> omega
theorem allT_le (id : Int) : ∀ L : List Tr, (allT id L).length ≤ 3 * L.length
  | [] => Nat.le_refl _
  | t :: L => by
    have h := allT_le id L
    have h2 := rest_le id t 3
    unfold allT at *
    rw [List.flatMap_cons, List.length_append, List.length_cons]; omega
def first (L : List Tr) (a b d : Int) : Option Nat := L.findIdx? fun s => decide (s.v1 = a) && (decide (s.x1 = b) && decide (s.y1 = d))
theorem nxt_first (all : List Tr) (t : Tr) : nxt all t = first all t.v2 t.x2 t.y2 := rfl
theorem first_app (L : List Tr) (t : Tr) (a b d : Int) : first (L ++ [t]) a b d = match first L a b d with
    | some j => some j
    | none => if t.v1 = a ∧ t.x1 = b ∧ t.y1 = d then some L.length else none := by
  unfold first
  rw [List.findIdx?_append]
  cases h : List.findIdx? (fun s : Tr => decide (s.v1 = a) && (decide (s.x1 = b) && decide (s.y1 = d))) L with
  | some j => rfl
  | none =>
    simp only [Option.none_or, List.findIdx?_cons, List.findIdx?_nil, Option.map_none]
    by_cases q : t.v1 = a ∧ t.x1 = b ∧ t.y1 = d
    · rw [if_pos q]
      obtain ⟨q1, q2, q3⟩ := q
      simp [q1, q2, q3]
    · rw [if_neg q]
      have : (decide (t.v1 = a) && (decide (t.x1 = b) && decide (t.y1 = d))) = false := by
        rw [Bool.eq_false_iff]; intro h; simp only [Bool.and_eq_true, decide_eq_true_eq] at h; exact q h
      simp [this]
end U
namespace N
open U
variable {H : Heap}
theorem ref_l1 {L : List U.Tr} {id : Int} {a : Nat} (ha : a < L.length) (hb : L.length < 1000) {m0 : Nat → Nat} {Q : V → Heap → Prop} : ∀ (j : Nat), j ≤ 3 → ∀ (H : Heap) (v : V) (acc : List U.Tr) (i : Option Nat) (m : Nat → Nat), Big m → gT H v acc i → acc.length + j < 900000 →
    (∀ (H' : Heap) (v' : V) (i' : Option Nat), gT H' v' (acc ++ restT id L[a] j) i' → Tot (fun n => ref18_At.l0 n (m0 n) (rowT L) (iv id) v' (iv ((a + 1 : Nat) : Int)) H') Q) →
    Tot (fun n => ref18_At.l1 n (m0 n) (m n) (rowT L) (iv id) v (iv (a : Int)) (iv ((3 - j : Nat) : Int)) H) Q := by
  intro j
  induction j with
  | zero =>
    intro _ H v acc i m hm g hl ih
    refine ref18_At.l1_tot hm fun m hm => ?_
    simp only [ref18_At.l1_b]
    refine Tot.pure (show arA .lss (iv ((3 - 0 : Nat) : Int)) (iv 3) = some (.bool false) from rfl) ?_
    refine Tot.pure bF ?_
    simp only [Bool.false_eq_true, if_false]
    refine Tot.pure (incN (by omega)) ?_
    exact ih H v i (by simpa [restT] using g)
  | succ j hj =>
    intro h3 H v acc i m hm g hl ih
    refine ref18_At.l1_tot hm fun m hm => ?_
    simp only [ref18_At.l1_b]
    have e0 : (3 - (j + 1) : Nat) = 2 - j := by omega
    have e1 : (2 - j) + 1 = 3 - j := by omega
    rw [e0]
    have k3 : 2 - j < 3 := by omega
    refine Tot.pure (show arA .lss (iv ((2 - j : Nat) : Int)) (iv ((3 : Nat) : Int)) = some (.bool (decide (2 - j < 3))) from lssN) ?_
    rw [decide_eq_true k3]
    refine Tot.pure bT ?_
    simp only [if_true]
    refine Tot.pure (rowG_idx ha) ?_
    obtain ⟨q1, q2⟩ := flat_at (f := Tr.cells) (z := 9) c9 ha
    refine Tot.pure (show faA 0 (.lptr ((L.flatMap Tr.cells).drop (a * 9))) = some (.lptr ((L.flatMap Tr.cells).drop (a * 9))) by simp only [faA]; rw [if_pos (by omega), List.drop_zero]) ?_
    refine Tot.pure (show idxP 3 1 (.lptr ((L.flatMap Tr.cells).drop (a * 9))) (iv ((2 - j : Nat) : Int)) = some (.lptr (((L.flatMap Tr.cells).drop (a * 9)).drop (2 - j))) by
      simp only [idxP]; rw [if_pos ⟨by omega, by omega, by rw [Int.toNat_natCast, List.length_drop, flat9]; omega⟩]; simp) ?_
    refine Tot.pure (show ld1 (.lptr (((L.flatMap Tr.cells).drop (a * 9)).drop (2 - j))) H = some (iv (vk L[a] (2 - j))) by
      have : (((L.flatMap Tr.cells).drop (a * 9)).drop (2 - j))[0]? = some (iv (vk L[a] (2 - j))) := by
        rw [List.getElem?_drop, ← cell_vk k3, ← q1, List.getElem?_take, if_pos (by omega)]; rfl
      simp only [ld1]; exact this) ?_
    refine Tot.pure eql_P ?_
    simp only [restT] at ih
    by_cases h : vk L[a] (2 - j) = id
    · rw [decide_eq_true h]
      rw [if_pos h] at ih
      refine Tot.pure bT ?_
      simp only [if_true]
      refine Tot.pure (rowG_idx ha) ?_
      refine Tot.pure (rowG_ld c9 ha) ?_
      refine Gv.bind (rfrom_P (2 - j) k3) ?_
      dsimp only
      refine Tot.pure bsl_one ?_
      obtain ⟨v', H', i', h1, h2, -, -, -⟩ := GT.app (t := rot (2 - j) L[a]) g (by omega)
      refine Tot.pure h1 ?_
      dsimp only
      refine Tot.pure (incN (by omega)) ?_
      rw [e1]
      refine hj (by omega) H' v' _ _ m hm h2 (by simp; omega) fun H2 v2 i2 g2 => ih H2 v2 i2 ?_
      rw [← List.append_assoc]; exact g2
    · rw [decide_eq_false h]
      rw [if_neg h] at ih
      refine Tot.pure bF ?_
      simp only [Bool.false_eq_true, if_false]
      refine Tot.pure (incN (by omega)) ?_
      rw [e1]
      exact hj (by omega) H v _ _ m hm g (by omega) fun H2 v2 i2 g2 => ih H2 v2 i2 (by rw [List.nil_append]; exact g2)
theorem ref_l0 {L : List U.Tr} {id : Int} (hb : L.length < 1000) : ∀ (j a : Nat) (H : Heap) (v : V) (i : Option Nat) (m : Nat → Nat), a + j = L.length → Big m → gT H v (allT id (L.take a)) i →
    Tot (fun n => ref18_At.l0 n (m n) (rowT L) (iv id) v (iv (a : Int)) H) fun u _ => u = rowT (allT id L) := by
  intro j
  induction j with
  | zero =>
    intro a H v i m ha hm g
    refine ref18_At.l0_tot hm fun m hm => ?_
    simp only [ref18_At.l0_b]
    refine Tot.pure rowG_len ?_
    refine Tot.pure lssN ?_
    rw [decide_eq_false (by omega)]
    refine Tot.pure bF ?_
    simp only [Bool.false_eq_true, if_false]
    rw [List.take_of_length_le (by omega)] at g
    obtain ⟨H', h⟩ := g.frz
    exact Tot.frz h rfl
  | succ j hj =>
    intro a H v i m ha hm g
    have hl : a < L.length := by omega
    refine ref18_At.l0_tot hm fun m hm => ?_
    simp only [ref18_At.l0_b]
    refine Tot.pure rowG_len ?_
    refine Tot.pure lssN ?_
    rw [decide_eq_true (by omega)]
    refine Tot.pure bT ?_
    simp only [if_true]
    have hle := allT_le id (L.take a)
    rw [List.length_take] at hle
    refine ref_l1 hl hb 3 (Nat.le_refl _) H v _ i _ Big.id g (by omega) fun H' v' i' g' => ?_
    refine hj (a + 1) H' v' i' m (by omega) hm ?_
    have e : allT id (L.take (a + 1)) = allT id (L.take a) ++ restT id L[a] 3 := by
      unfold allT; rw [List.take_add_one, List.getElem?_eq_getElem hl, List.flatMap_append]; simp
    rw [e]; exact g'
theorem at_P {L : List U.Tr} {id : Int} (hb : L.length < 1000) : Gv (fun n => f_ref18_At n [rowT L, iv id] H) (rowT (allT id L)) H := by
  refine ref18_At_tot (by simp only [List.all_cons, rowG_fro]; rfl) (by simp [V.frees, V.free, rowG_free cfree]) ?_
  simp only [ref18_At_b]
  refine Tot.pure (show bSl 9 ty_api_Tri z9 0 [] = some (.cells [] ty_api_Tri false) from rfl) ?_
  refine Tot.mono (ref_l0 hb L.length 0 _ _ (some 0) _ (by omega) Big.id (.inr ⟨0, rfl, rfl, by simp, Heap.gpz rfl⟩)) fun u _ h => ⟨by rw [h]; exact rowG_free cfree, trivial, h⟩
abbrev knV (a b d : Int) : V := .agg [iv a, iv b, iv d]
def SM (L : List U.Tr) (es : List ME) : Prop := ∀ a b d, ∃ r, findM P ty_api_Knot (knV a b d) es = some r ∧ match r with
  | none => first L a b d = none
  | some p => ∃ j : Nat, first L a b d = some j ∧ p.2.val = iv (j : Int)
theorem key_knot {a b d : Int} : keyV P 8 ty_api_Knot (knV a b d) = true := by kernel_rfl
theorem findM_knot {a b d : Int} {es : List ME} : findM P ty_api_Knot (knV a b d) es = findA (eqA P 8 ty_api_Knot (knV a b d)) es 0 := by
  unfold findM; rw [if_pos key_knot]
theorem SM.nil : SM [] [] := fun a b d => ⟨none, by rw [findM_knot]; rfl, rfl⟩
theorem findA_app {eq : V → Option Bool} {e : ME} : ∀ {es : List ME} {i : Nat} {r : Option (Nat × ME)}, findA eq es i = some r → findA eq (es ++ [e]) i = match r with
    | some p => some (some p)
    | none => findA eq [e] (i + es.length)
  | [], i, r, h => by
    simp only [findA] at h
    cases h; rfl
  | x :: es, i, r, h => by
    simp only [findA, List.cons_append] at h ⊢
    cases hx : eq x.key with
    | none => rw [hx] at h; simp at h
    | some b =>
      rw [hx] at h
      simp only [Option.bind_some] at h ⊢
      cases b with
      | true => simp only [if_true] at h ⊢; cases h; rfl
      | false =>
        simp only [Bool.false_eq_true, if_false] at h ⊢
        rw [findA_app h, List.length_cons]
        cases r with
        | some p => rfl
        | none => simp only [findA]; rw [show i + 1 + es.length = i + (es.length + 1) by omega]
theorem SM.old {L : List U.Tr} {es : List ME} {t : U.Tr} {j : Nat} (s : SM L es) (h : first L t.v1 t.x1 t.y1 = some j) : SM (L ++ [t]) es := by
  intro a b d
  obtain ⟨r, h1, h2⟩ := s a b d
  refine ⟨r, h1, ?_⟩
  cases r with
  | none =>
    simp only at h2 ⊢
    rw [first_app, h2]
    simp only
    rw [if_neg]
    rintro ⟨rfl, rfl, rfl⟩
    rw [h] at h2; cases h2
  | some p =>
    simp only at h2 ⊢
    obtain ⟨j, h3, h4⟩ := h2
    exact ⟨j, by rw [first_app, h3], h4⟩
theorem SM.new {L : List U.Tr} {es : List ME} {t : U.Tr} {c : Nat} (s : SM L es) (h : first L t.v1 t.x1 t.y1 = none) : SM (L ++ [t]) (es ++ [⟨knV t.v1 t.x1 t.y1, iv (L.length : Int), c⟩]) := by
  intro a b d
  obtain ⟨r, h1, h2⟩ := s a b d
  rw [findM_knot] at h1 ⊢
  rw [findA_app h1]
  cases r with
  | some p =>
    simp only at h2 ⊢
    obtain ⟨j, h3, h4⟩ := h2
    exact ⟨some p, rfl, j, by rw [first_app, h3], h4⟩
  | none =>
    simp only at h2 ⊢
    rw [first_app, h2]
    simp only [findA, eq_knot, Option.bind_some]
    by_cases q : a = t.v1 ∧ b = t.x1 ∧ d = t.y1
    · obtain ⟨rfl, rfl, rfl⟩ := q
      refine ⟨some (0 + es.length, ⟨knV t.v1 t.x1 t.y1, iv (L.length : Int), c⟩), by simp only [decide_true, Bool.and_self, if_true], ?_⟩
      exact ⟨L.length, by rw [if_pos ⟨rfl, rfl, rfl⟩], rfl⟩
    · have e : (decide (a = t.v1) && (decide (b = t.x1) && decide (d = t.y1))) = false := by
        rw [Bool.eq_false_iff]; intro h; simp only [Bool.and_eq_true, decide_eq_true_eq] at h; exact q h
      rw [e]
      refine ⟨none, by simp only [Bool.false_eq_true, if_false], ?_⟩
      simp only
      rw [if_neg]
      rintro ⟨rfl, rfl, rfl⟩
      exact q ⟨rfl, rfl, rfl⟩
theorem look_SM {L : List U.Tr} {es : List ME} {M c : Nat} (s : SM L es) (hM : H.get M = .map es c) {a b d : Int} : lookM P ty_api_Knot (iv 0) (.map (some M)) (knV a b d) true H = some (match first L a b d with
    | some j => .tuple [iv (j : Int), .bool true]
    | none => .tuple [iv 0, .bool false]) := by
  obtain ⟨r, h1, h2⟩ := s a b d
  simp only [lookM, entsOf, mapOf, hM, Option.bind_some, h1]
  cases r with
  | none => simp only at h2 ⊢; rw [h2]; rfl
  | some p =>
    simp only at h2 ⊢
    obtain ⟨j, h3, h4⟩ := h2
    rw [h3, h4]; rfl
theorem look_SM0 {L : List U.Tr} {es : List ME} {M c : Nat} (s : SM L es) (hM : H.get M = .map es c) {a b d : Int} : lookM P ty_api_Knot (iv 0) (.map (some M)) (knV a b d) false H = some (match first L a b d with
    | some j => iv (j : Int)
    | none => iv 0) := by
  obtain ⟨r, h1, h2⟩ := s a b d
  simp only [lookM, entsOf, mapOf, hM, Option.bind_some, h1]
  cases r with
  | none => simp only at h2 ⊢; rw [h2]; rfl
  | some p =>
    simp only at h2 ⊢
    obtain ⟨j, h3, h4⟩ := h2
    rw [h3, h4]; rfl
theorem upd_SM {L : List U.Tr} {es : List ME} {M c : Nat} (s : SM L es) (hM : H.get M = .map es c) {a b d : Int} {x : V} (h : first L a b d = none) : updM P ty_api_Knot (.map (some M)) (knV a b d) x H = some (H.set M (.map (es ++ [⟨knV a b d, x, c⟩]) (c + 1))) := by
  obtain ⟨r, h1, h2⟩ := s a b d
  simp only [updM, mapOf, hM, Option.bind_some, h1]
  cases r with
  | none => rfl
  | some p =>
    simp only at h2
    obtain ⟨j, h3, h4⟩ := h2
    rw [h] at h3; cases h3
end N
end Go.AM
end
section
set_option linter.unusedVariables false
set_option linter.unusedSimpArgs false
set_option linter.unusedSimpArgs false
set_option linter.unusedVariables false
set_option maxRecDepth 100000
namespace Go.AM
namespace N
open U
variable {H : Heap}
structure SV (H : Heap) (v : V) (acc : List U.Tr) (i : Option Nat) (es : List ME) (M : Nat) : Prop where
  g : gT H v acc i
  m : H.get M = .map es es.length
  s : SM acc es
  lt : M < H.n
  ne : i ≠ some M
theorem SV.keep {H' : Heap} {v : V} {acc : List U.Tr} {i : Option Nat} {es : List ME} {M : Nat} (h : SV H v acc i es M) (hn : H.n ≤ H'.n) (hk : ∀ k, k < H.n → H'.get k = H.get k) : SV H' v acc i es M :=
  ⟨h.g.keep hn fun k hk' _ => hk k hk', by rw [hk M h.lt]; exact h.m, h.s, Nat.lt_of_lt_of_le h.lt hn, h.ne⟩
theorem SV.app {v : V} {acc : List U.Tr} {i : Option Nat} {es : List ME} {M : Nat} {t : U.Tr} (h : SV H v acc i es M) (hL : acc.length < 1000000) (hs : SM (acc ++ [t]) es) :
    ∃ v' H' i', appA 9 72 ty_api_Tri v (.slice ⟨some (H.n, 0), 1, 9, false⟩) (H.push (.cells t.cells ty_api_Tri false)) = some (v', H') ∧ SV H' v' (acc ++ [t]) i' es M ∧ H.n ≤ H'.n ∧ (∀ k, i' = some k → H.n ≤ k) ∧ ∀ k, k < H.n → i ≠ some k → H'.get k = H.get k := by
  obtain ⟨v', H', j, h1, h2, h3, h4, h5⟩ := GT.app (t := t) h.g hL
  exact ⟨v', H', some j, h1, ⟨h2, by rw [h5 M h.lt h.ne]; exact h.m, hs, Nat.lt_of_lt_of_le h.lt h4, by intro e; cases e; exact absurd h3 (by have := h.lt; omega)⟩, h4, fun k e => by cases e; exact h3, h5⟩
abbrev z3 : List V := [iv 0, iv 0, iv 0]
theorem star_l1 {L : List U.Tr} {t : U.Tr} {id : Int} {v22 v23 v24 w24 : V} (hw : arA .add v24 (iv 1) = some w24) {M b : Nat} {m0 : Nat → Nat} {Q : V → Heap → Prop} : ∀ (j : Nat), j ≤ 3 → ∀ (H : Heap) (v : V) (acc : List U.Tr) (i : Option Nat) (es : List ME) (m : Nat → Nat), Big m → SV H v acc i es M → acc.length + j < 900000 →
    H.get b = .cells t.cells ty_api_Tri false → b < H.n → b ≠ M → i ≠ some b →
    (∀ (H' : Heap) (v' : V) (i' : Option Nat) (es' : List ME), SV H' v' (acc ++ restT id t j) i' es' M → Tot (fun n => unfold_star.l0 n (m0 n) (iv id) v' (.map (some M)) v22 v23 w24 H') Q) →
    Tot (fun n => unfold_star.l1 n (m0 n) (m n) (iv id) v (.map (some M)) (.ptr (some (b, 0))) v22 v23 v24 (iv ((3 - j : Nat) : Int)) H) Q := by
  intro j
  induction j with
  | zero =>
    intro _ H v acc i es m hm g hl hb hbn hbM hbi ih
    refine unfold_star.l1_tot hm fun m hm => ?_
    simp only [unfold_star.l1_b]
    refine Tot.pure (show arA .lss (iv ((3 - 0 : Nat) : Int)) (iv 3) = some (.bool false) from rfl) ?_
    refine Tot.pure bF ?_
    simp only [Bool.false_eq_true, if_false]
    refine Tot.pure hw ?_
    exact ih H v i es (by simpa [restT] using g)
  | succ j hj =>
    intro h3 H v acc i es m hm g hl hb hbn hbM hbi ih
    refine unfold_star.l1_tot hm fun m hm => ?_
    simp only [unfold_star.l1_b]
    have e0 : (3 - (j + 1) : Nat) = 2 - j := by omega
    have e1 : (2 - j) + 1 = 3 - j := by omega
    rw [e0]
    have k3 : 2 - j < 3 := by omega
    refine Tot.pure (show arA .lss (iv ((2 - j : Nat) : Int)) (iv ((3 : Nat) : Int)) = some (.bool (decide (2 - j < 3))) from lssN) ?_
    rw [decide_eq_true k3]
    refine Tot.pure bT ?_
    simp only [if_true]
    refine Tot.pure (show faA 0 (.ptr (some (b, 0))) = some (.ptr (some (b, 0))) from rfl) ?_
    refine Tot.pure (show idxP 3 1 (.ptr (some (b, 0))) (iv ((2 - j : Nat) : Int)) = some (.ptr (some (b, 2 - j))) by
      simp only [idxP]; rw [if_pos ⟨by omega, by omega⟩]; simp) ?_
    refine Tot.pure (show ld1 (.ptr (some (b, 2 - j))) H = some (iv (vk t (2 - j))) by simp only [ld1, hb]; exact cell_vk k3) ?_
    refine Tot.pure neq_P ?_
    simp only [restT] at ih
    by_cases h : vk t (2 - j) = id
    case neg =>
      rw [decide_eq_false h]
      rw [if_neg h] at ih
      refine Tot.pure bT ?_
      simp only [if_true]
      refine Tot.pure (incN (by omega)) ?_
      rw [e1]
      exact hj (by omega) H v _ _ _ m hm g (by omega) hb hbn hbM hbi fun H2 v2 i2 es2 g2 => ih H2 v2 i2 es2 (by rw [List.nil_append]; exact g2)
    rw [decide_eq_true h]
    rw [if_pos h] at ih
    refine Tot.pure bF ?_
    simp only [Bool.false_eq_true, if_false]
    refine Tot.pure (show ldN 9 (.ptr (some (b, 0))) H = some (.agg t.cells) by simp only [ldN, hb]; rfl) ?_
    refine Gv.bind (from_P (2 - j) k3) ?_
    dsimp only
    generalize rot (2 - j) t = x at *
    refine Tot.pure (show stA 9 (.ptr (some (H.n, 0))) (.agg x.cells) (H.push (.cells z9 ty_api_Tri false)) = some ((H.push (.cells z9 ty_api_Tri false)).set H.n (.cells x.cells ty_api_Tri false)) by simp only [stA, Heap.gpz rfl]; rfl) ?_
    obtain ⟨K, hK⟩ : ∃ K, K = (H.push (.cells z9 ty_api_Tri false)).set H.n (.cells x.cells ty_api_Tri false) := ⟨_, rfl⟩
    have Kx : K.get H.n = .cells x.cells ty_api_Tri false := by rw [hK, Heap.gsz rfl]
    have Kk : ∀ k, k < H.n → K.get k = H.get k := fun k hk => by rw [hK, Heap.gtz (by omega), Heap.gqz (by omega)]
    have Kn : K.n = H.n + 1 := by rw [hK]; simp
    rw [← hK]; clear hK
    refine Tot.pure (show faA 0 (.ptr (some (H.n, 0))) = some (.ptr (some (H.n, 0))) from rfl) ?_
    refine Tot.pure (show idxP 3 1 (.ptr (some (H.n, 0))) (iv 1) = some (.ptr (some (H.n, 1))) from rfl) ?_
    refine Tot.pure (show ld1 (.ptr (some (H.n, 1))) K = some (iv x.v1) by simp only [ld1, Kx]; rfl) ?_
    refine Tot.pure (show faA 3 (.ptr (some (H.n, 0))) = some (.ptr (some (H.n, 3))) from rfl) ?_
    refine Tot.pure (show idxP 3 2 (.ptr (some (H.n, 3))) (iv 1) = some (.ptr (some (H.n, 5))) from rfl) ?_
    refine Tot.pure (show ldN 2 (.ptr (some (H.n, 5))) K = some (.agg [iv x.x1, iv x.y1]) by simp only [ldN, Kx]; rfl) ?_
    refine Tot.pure (show flA _ _ _ = some (knV x.v1 x.x1 x.y1) from rfl) ?_
    refine Tot.pure (show stA 3 (.ptr (some (K.n, 0))) (knV x.v1 x.x1 x.y1) (K.push (.cells z3 ty_api_Knot false)) = some ((K.push (.cells z3 ty_api_Knot false)).set K.n (.cells [iv x.v1, iv x.x1, iv x.y1] ty_api_Knot false)) by simp only [stA, Heap.gpz rfl]; rfl) ?_
    obtain ⟨F, hF⟩ : ∃ F, F = (K.push (.cells z3 ty_api_Knot false)).set K.n (.cells [iv x.v1, iv x.x1, iv x.y1] ty_api_Knot false) := ⟨_, rfl⟩
    have Fq : F.get K.n = .cells [iv x.v1, iv x.x1, iv x.y1] ty_api_Knot false := by rw [hF, Heap.gsz rfl]
    have Fx : F.get H.n = .cells x.cells ty_api_Tri false := by rw [hF, Heap.gtz (by omega), Heap.gqz (by omega)]; exact Kx
    have Fk : ∀ k, k < H.n → F.get k = H.get k := fun k hk => by rw [hF, Heap.gtz (by omega), Heap.gqz (by omega)]; exact Kk k hk
    have Fn : F.n = H.n + 2 := by rw [hF]; simp [Kn]
    rw [← hF]; clear hF
    have gF : SV F v acc i es M := g.keep (by omega) Fk
    have ldk : ldN 3 (.ptr (some (K.n, 0))) F = some (knV x.v1 x.x1 x.y1) := by simp only [ldN, Fq]; rfl
    refine Tot.pure ldk ?_
    refine Tot.pure (look_SM gF.s gF.m) ?_
    cases hf : first acc x.v1 x.x1 x.y1 with
    | some q =>
      simp only
      refine Tot.pure (show extA (.tuple [iv (q : Int), .bool true]) 0 = some (iv (q : Int)) from rfl) ?_
      refine Tot.pure (show extA (.tuple [iv (q : Int), .bool true]) 1 = some (.bool true) from rfl) ?_
      refine Tot.pure (show unA .not (.bool true) = some (.bool false) from rfl) ?_
      refine Tot.pure bF ?_
      simp only [Bool.false_eq_true, if_false]
      refine Tot.pure (show ldN 9 (.ptr (some (H.n, 0))) F = some (.agg x.cells) by simp only [ldN, Fx]; rfl) ?_
      refine Tot.pure bsl_one ?_
      obtain ⟨v', H', i', h1, h2, h4, h6, h5⟩ := SV.app (t := x) gF (by omega) (gF.s.old hf)
      refine Tot.pure h1 ?_
      dsimp only
      refine Tot.pure (incN (by omega)) ?_
      rw [e1]
      exact hj (by omega) H' v' _ _ _ m hm h2 (by simp; omega) (by rw [h5 b (by omega) hbi, Fk b hbn]; exact hb) (by omega) hbM (fun e => by have := h6 b e; omega) fun H2 v2 i2 es2 g2 => ih H2 v2 i2 es2 (by rw [← List.append_assoc]; exact g2)
    | none =>
      simp only
      refine Tot.pure (show extA (.tuple [iv 0, .bool false]) 0 = some (iv 0) from rfl) ?_
      refine Tot.pure (show extA (.tuple [iv 0, .bool false]) 1 = some (.bool false) from rfl) ?_
      refine Tot.pure (show unA .not (.bool false) = some (.bool true) from rfl) ?_
      refine Tot.pure bT ?_
      simp only [if_true]
      refine Tot.pure ldk ?_
      refine Tot.pure (len_gt gF.g) ?_
      refine Tot.pure (upd_SM gF.s gF.m hf) ?_
      obtain ⟨D, hD⟩ : ∃ D, D = F.set M (.map (es ++ [⟨knV x.v1 x.x1 x.y1, iv (acc.length : Int), es.length⟩]) (es.length + 1)) := ⟨_, rfl⟩
      have Mlt := g.lt
      have Dn : D.n = F.n := by rw [hD]; simp
      have Dk : ∀ k, k ≠ M → D.get k = F.get k := fun k hk => by rw [hD, Heap.gtz hk]
      have gD : gT D v acc i := gF.g.keep (by omega) fun k hk e => Dk k fun e2 => gF.ne (by rw [e, e2])
      have mD : D.get M = .map (es ++ [⟨knV x.v1 x.x1 x.y1, iv (acc.length : Int), es.length⟩]) (es ++ [(⟨knV x.v1 x.x1 x.y1, iv (acc.length : Int), es.length⟩ : ME)]).length := by rw [hD, Heap.gsz rfl]; simp
      rw [← hD]; clear hD
      refine Tot.pure (show ldN 9 (.ptr (some (H.n, 0))) D = some (.agg x.cells) by simp only [ldN, Dk H.n (by omega), Fx]; rfl) ?_
      refine Tot.pure bsl_one ?_
      obtain ⟨v', H', jj, h1, h2, h3, h4, h5⟩ := GT.app (t := x) gD (by omega)
      refine Tot.pure h1 ?_
      dsimp only
      refine Tot.pure (incN (by omega)) ?_
      rw [e1]
      refine hj (by omega) H' v' _ _ _ m hm (show SV H' v' (acc ++ [x]) (some jj) (es ++ [⟨knV x.v1 x.x1 x.y1, iv (acc.length : Int), es.length⟩]) M from ⟨h2, by rw [h5 M (by omega) g.ne]; exact mD, gF.s.new hf, by omega, fun e => by cases e; omega⟩) (by simp; omega) (by rw [h5 b (by omega) hbi, Dk b hbM, Fk b hbn]; exact hb) (by omega) hbM (fun e => by cases e; omega) fun H2 v2 i2 es2 g2 => ih H2 v2 i2 es2 (by rw [← List.append_assoc]; exact g2)
theorem star_l0 {L : List U.Tr} {id : Int} (hb : L.length < 1000) {M : Nat} {Q : V → Heap → Prop} (ih : ∀ (H' : Heap) (v' : V) (i' : Option Nat) (es' : List ME), SV H' v' (allT id L) i' es' M → Tot (fun n => unfold_star.p2 n v' (.map (some M)) H') Q) :
    ∀ (j a : Nat) (H : Heap) (v : V) (i : Option Nat) (es : List ME) (m : Nat → Nat), a + j = L.length → Big m → SV H v (allT id (L.take a)) i es M →
    Tot (fun n => unfold_star.l0 n (m n) (iv id) v (.map (some M)) (rowT L) (iv (L.length : Int)) (iv (a : Int)) H) Q := by
  intro j
  induction j with
  | zero =>
    intro a H v i es m ha hm g
    refine unfold_star.l0_tot hm fun m hm => ?_
    simp only [unfold_star.l0_b]
    refine Tot.pure lssN ?_
    rw [decide_eq_false (by omega)]
    refine Tot.pure bF ?_
    simp only [Bool.false_eq_true, if_false]
    rw [List.take_of_length_le (by omega)] at g
    exact ih H v i es g
  | succ j hj =>
    intro a H v i es m ha hm g
    have hl : a < L.length := by omega
    refine unfold_star.l0_tot hm fun m hm => ?_
    simp only [unfold_star.l0_b]
    refine Tot.pure lssN ?_
    rw [decide_eq_true (by omega)]
    refine Tot.pure bT ?_
    simp only [if_true]
    refine Tot.pure (rowG_idx hl) ?_
    refine Tot.pure (rowG_ld c9 hl) ?_
    refine Tot.pure (show stA 9 (.ptr (some (H.n, 0))) (.agg L[a].cells) (H.push (.cells z9 ty_api_Tri false)) = some ((H.push (.cells z9 ty_api_Tri false)).set H.n (.cells L[a].cells ty_api_Tri false)) by simp only [stA, Heap.gpz rfl]; rfl) ?_
    have hle := allT_le id (L.take a)
    rw [List.length_take] at hle
    refine star_l1 (L := L) (t := L[a]) (w24 := iv ((a + 1 : Nat) : Int)) (incN (by omega)) 3 (Nat.le_refl _) _ v (allT id (L.take a)) i es _ Big.id (g.keep (by simp) fun k hk => by rw [Heap.gtz (by omega), Heap.gqz (by omega)]) (by omega) (Heap.gsz rfl) (by simp) (fun e => by have := g.lt; omega) (fun e => by have := g.g.lt e; omega) fun H' v' i' es' g' => ?_
    refine hj (a + 1) H' v' i' es' m (by omega) hm ?_
    have e : allT id (L.take (a + 1)) = allT id (L.take a) ++ restT id L[a] 3 := by
      unfold allT; rw [List.take_add_one, List.getElem?_eq_getElem hl, List.flatMap_append]; simp
    rw [e]; exact g'
end N
end Go.AM
end
section
set_option linter.unusedVariables false
set_option linter.unusedSimpArgs false
set_option linter.unusedSimpArgs false
set_option linter.unusedVariables false
set_option maxRecDepth 100000
namespace Go.AM
namespace U
def starW : List Tr → Option (List Tr)
  | [] => none
  | a :: L => chR (a :: L) (a :: L).length (minI (a :: L) 0 1 L) (a :: L).length 0 (minI (a :: L) 0 1 L) []
theorem least_at (a : Tr) (L : List Tr) : (a :: L)[minI (a :: L) 0 1 L]? = some (minF a L) ∧ ∀ i, i < minI (a :: L) 0 1 L → (a :: L)[i]? ≠ some (minF a L) := by
  refine min_first (a :: L) [a] L 0 a rfl rfl (fun i h => by omega) fun i y h => ?_
  rcases i with _ | i
  · simp at h; subst h; rw [cmpT_self]; omega
  · simp at h
theorem least_idx (a : Tr) (L : List Tr) : (a :: L).findIdx? (fun s => decide (minF a L = s)) = some (minI (a :: L) 0 1 L) := by
  obtain ⟨h1, h2⟩ := least_at a L
  have hlt : minI (a :: L) 0 1 L < (a :: L).length := by
    rcases Nat.lt_or_ge (minI (a :: L) 0 1 L) (a :: L).length with h | h
    · exact h
    · rw [List.getElem?_eq_none h] at h1; cases h1
  rw [List.findIdx?_eq_some_iff_getElem]
  refine ⟨hlt, ?_, fun j hj => ?_⟩
  · rw [List.getElem?_eq_getElem hlt] at h1
    simp only [Option.some.injEq] at h1
    simp [h1]
  · have := h2 j hj
    rw [List.getElem?_eq_getElem (by omega)] at this
    simp only [ne_eq, Option.some.injEq] at this
    simp only [Bool.not_eq_true, decide_eq_false_iff_not]
    exact fun e => this e.symm
end U
namespace N
open U
variable {H : Heap}
abbrev nilS : V := .slice ⟨none, 0, 0, false⟩
def outT : Option (List U.Tr) → V
  | none => .tuple [rowT [], .bool false]
  | some o => .tuple [rowT o, .bool true]
theorem nil_out {H : Heap} {Q : V → Heap → Prop} (q : ∀ H', Q (outT none) H') : Tot (fun _ => frzR (.tuple [nilS, .bool false]) H) Q := Tot.frz (show frzR (.tuple [nilS, .bool false]) H = some (outT none, H) from rfl) (q H)
theorem nxt_lt {all : List U.Tr} {t : U.Tr} {j : Nat} (h : nxt all t = some j) : j < all.length := by
  unfold nxt at h
  rw [List.findIdx?_eq_some_iff_getElem] at h
  exact h.1
theorem star_p4 {all out : List U.Tr} {v v16 : V} {i i2 : Option Nat} {es : List ME} {M f at_ : Nat} {last : U.Tr} (hv : gT H v all i) (g : gT H v16 out i2) (hM : H.get M = .map es es.length) (hs : SM all es) (hMl : M < H.n) (hlt : out.length < 1000000) (hl : out.getLast? = some last) (hn : nxt all last = some at_) :
    Tot (fun n => unfold_star.p4 n (.map (some M)) (iv (f : Int)) v16 H) fun u _ => u = outT (if at_ = f then some out else none) := by
  refine unfold_star.p4_tot ?_
  simp only [unfold_star.p4_b]
  have h0 : out ≠ [] := by intro e; rw [e] at hl; cases hl
  have hlen : 0 < out.length := List.length_pos_iff.2 h0
  refine Tot.pure (len_gt g) ?_
  refine Tot.pure (show arA .sub (iv (out.length : Int)) (iv 1) = some (iv ((out.length - 1 : Nat) : Int)) by simp (disch := omega) []; omega) ?_
  have hk : out.length - 1 < out.length := by omega
  obtain ⟨j, o, -, -, hx, hr⟩ := g.idx hk
  have he : out[out.length - 1] = last := by
    rw [List.getLast?_eq_getElem?, List.getElem?_eq_getElem hk] at hl
    exact Option.some.inj hl
  rw [he] at hr
  refine Tot.pure hx ?_
  refine Tot.pure (hr H rfl).1 ?_
  refine Tot.pure (show stA 9 (.ptr (some (H.n, 0))) (.agg last.cells) (H.push (.cells z9 ty_api_Tri false)) = some ((H.push (.cells z9 ty_api_Tri false)).set H.n (.cells last.cells ty_api_Tri false)) by simp only [stA, Heap.gpz rfl]; rfl) ?_
  obtain ⟨K, hK⟩ : ∃ K, K = (H.push (.cells z9 ty_api_Tri false)).set H.n (.cells last.cells ty_api_Tri false) := ⟨_, rfl⟩
  have Kx : K.get H.n = .cells last.cells ty_api_Tri false := by rw [hK, Heap.gsz rfl]
  have Kk : ∀ k, k < H.n → K.get k = H.get k := fun k hk => by rw [hK, Heap.gtz (by omega), Heap.gqz (by omega)]
  have Kn : K.n = H.n + 1 := by rw [hK]; simp
  rw [← hK]; clear hK
  refine Tot.pure (show faA 0 (.ptr (some (H.n, 0))) = some (.ptr (some (H.n, 0))) from rfl) ?_
  refine Tot.pure (show idxP 3 1 (.ptr (some (H.n, 0))) (iv 2) = some (.ptr (some (H.n, 2))) from rfl) ?_
  refine Tot.pure (show ld1 (.ptr (some (H.n, 2))) K = some (iv last.v2) by simp only [ld1, Kx]; rfl) ?_
  refine Tot.pure (show faA 3 (.ptr (some (H.n, 0))) = some (.ptr (some (H.n, 3))) from rfl) ?_
  refine Tot.pure (show idxP 3 2 (.ptr (some (H.n, 3))) (iv 2) = some (.ptr (some (H.n, 7))) from rfl) ?_
  refine Tot.pure (show ldN 2 (.ptr (some (H.n, 7))) K = some (.agg [iv last.x2, iv last.y2]) by simp only [ldN, Kx]; rfl) ?_
  refine Tot.pure (show flA _ _ _ = some (knV last.v2 last.x2 last.y2) from rfl) ?_
  refine Tot.pure (look_SM0 hs (by rw [Kk M hMl]; exact hM)) ?_
  rw [nxt_first] at hn
  rw [hn]
  simp only
  refine Tot.pure neq_P ?_
  by_cases h : at_ = f
  · rw [decide_eq_true (by omega), if_pos h]
    refine Tot.pure bF ?_
    simp only [Bool.false_eq_true, if_false]
    have gK : gT K v16 out i2 := g.keep (by omega) fun k hk _ => Kk k hk
    obtain ⟨H', e⟩ := gK.frzT (b := true)
    exact Tot.frz e rfl
  · rw [decide_eq_false (by omega), if_neg h]
    refine Tot.pure bT ?_
    simp only [if_true]
    exact nil_out fun _ => rfl
theorem star_l3 {all : List U.Tr} {v : V} {i : Option Nat} {es : List ME} {M f : Nat} (hs : SM all es) (hb : all.length < 100000) :
    ∀ (r n at_ : Nat) (H : Heap) (v16 : V) (out : List U.Tr) (i2 : Option Nat) (m : Nat → Nat), n + r = all.length → out.length = n → Big m → gT H v all i → H.get M = .map es es.length → M < H.n → gT H v16 out i2 → i ≠ i2 ∨ i = none → i2 ≠ some M → (∀ k, i2 = some k → i ≠ some k) → at_ < all.length →
      (0 < n → ∃ last, out.getLast? = some last ∧ nxt all last = some at_) → (0 < n ∨ 0 < r) →
      Tot (fun k => unfold_star.l3 k (m k) v (.map (some M)) (iv (f : Int)) v16 (iv (at_ : Int)) H) fun u _ => u = outT (chP all all.length f r n at_ out) := by
  intro r
  induction r with
  | zero =>
    intro n at_ H v16 out i2 m hn ho hm hv hM hMl g _ _ _ hat hlast h0
    refine unfold_star.l3_tot hm fun m hm => ?_
    simp only [unfold_star.l3_b]
    refine Tot.pure (len_gt g) ?_
    refine Tot.pure (len_gt hv) ?_
    refine Tot.pure lssN ?_
    rw [decide_eq_false (by omega)]
    refine Tot.pure bF ?_
    simp only [Bool.false_eq_true, if_false]
    obtain ⟨last, l1, l2⟩ := hlast (by omega)
    simp only [chP]
    exact star_p4 hv g hM hs hMl (by omega) l1 l2
  | succ r ih =>
    intro n at_ H v16 out i2 m hn ho hm hv hM hMl g d1 d2 d3 hat hlast h0
    refine unfold_star.l3_tot hm fun m hm => ?_
    simp only [unfold_star.l3_b]
    refine Tot.pure (len_gt g) ?_
    refine Tot.pure (len_gt hv) ?_
    refine Tot.pure lssN ?_
    rw [decide_eq_true (by omega)]
    refine Tot.pure bT ?_
    simp only [if_true]
    obtain ⟨q, o, hi, hq, hx, hr⟩ := hv.idx hat
    refine Tot.pure hx ?_
    refine Tot.pure (hr H rfl).1 ?_
    refine Tot.pure bsl_one ?_
    obtain ⟨v', H', j, h1, h2, h3, h4, h5⟩ := GT.app (t := all[at_]) g (by omega)
    refine Tot.pure h1 ?_
    dsimp only
    simp only [show ∀ H : Heap, H.more 0 = H from fun _ => rfl]
    have hq2 : H'.get q = H.get q := h5 q hq fun e => d3 q e hi
    refine Tot.pure hx ?_
    refine Tot.pure (show faA 0 (.ptr (some (q, o))) = some (.ptr (some (q, o))) from rfl) ?_
    refine Tot.pure (show idxP 3 1 (.ptr (some (q, o))) (iv 2) = some (.ptr (some (q, o + 2))) from rfl) ?_
    refine Tot.pure (hr H' hq2).2.1 ?_
    refine Tot.pure hx ?_
    refine Tot.pure (show faA 3 (.ptr (some (q, o))) = some (.ptr (some (q, o + 3))) from rfl) ?_
    refine Tot.pure (show idxP 3 2 (.ptr (some (q, o + 3))) (iv 2) = some (.ptr (some (q, o + 7))) from rfl) ?_
    refine Tot.pure (hr H' hq2).2.2.1 ?_
    refine Tot.pure (show flA _ _ _ = some (knV all[at_].v2 all[at_].x2 all[at_].y2) from rfl) ?_
    have hM' : H'.get M = .map es es.length := by rw [h5 M hMl d2]; exact hM
    refine Tot.pure (look_SM hs hM') ?_
    simp only [chP, List.getElem?_eq_getElem hat, nxt_first]
    cases hf : first all all[at_].v2 all[at_].x2 all[at_].y2 with
    | none =>
      simp only
      refine Tot.pure (show extA (.tuple [iv 0, .bool false]) 0 = some (iv 0) from rfl) ?_
      refine Tot.pure (show extA (.tuple [iv 0, .bool false]) 1 = some (.bool false) from rfl) ?_
      refine Tot.pure (show unA .not (.bool false) = some (.bool true) from rfl) ?_
      refine Tot.pure bT ?_
      simp only [if_true]
      exact nil_out fun _ => rfl
    | some jn =>
      have hjl : jn < all.length := nxt_lt (t := all[at_]) (by rw [nxt_first]; exact hf)
      simp only
      refine Tot.pure (show extA (.tuple [iv (jn : Int), .bool true]) 0 = some (iv (jn : Int)) from rfl) ?_
      refine Tot.pure (show extA (.tuple [iv (jn : Int), .bool true]) 1 = some (.bool true) from rfl) ?_
      refine Tot.pure (show unA .not (.bool true) = some (.bool false) from rfl) ?_
      refine Tot.pure bF ?_
      simp only [Bool.false_eq_true, if_false]
      refine Tot.pure eql_P ?_
      have hv' : gT H' v all i := hv.keep h4 fun k hk e => h5 k hk fun e2 => d3 k e2 e
      have go : Tot (fun k => unfold_star.l3 k (m k) v (.map (some M)) (iv (f : Int)) v' (iv (jn : Int)) H') fun u _ => u = outT (chP all all.length f r (n + 1) jn (out ++ [all[at_]])) :=
        ih (n + 1) jn H' v' (out ++ [all[at_]]) (some j) m (by omega) (by simp [ho]) hm hv' hM' (by omega) h2 (by
          rcases d1 with d1 | d1
          · left; intro e; have := hv.lt e; omega
          · exact .inr d1) (fun e => by cases e; omega) (fun k e e2 => by cases e; have := hv.lt e2; omega) hjl (fun _ => ⟨all[at_], by simp, by rw [nxt_first]; exact hf⟩) (.inl (by omega))
      by_cases h : jn = f
      · rw [decide_eq_true (by omega)]
        refine Tot.pure bT ?_
        simp only [if_true]
        refine Tot.pure (GT.len h2) ?_
        refine Tot.pure (len_gt hv') ?_
        refine Tot.pure lssN ?_
        by_cases h6 : n + 1 < all.length
        · rw [decide_eq_true (by simp; omega), if_pos ⟨h, h6⟩]
          refine Tot.pure bT ?_
          simp only [if_true]
          exact nil_out fun _ => rfl
        · rw [decide_eq_false (by simp; omega), if_neg (by omega)]
          refine Tot.pure bF ?_
          simp only [Bool.false_eq_true, if_false]
          exact go
      · rw [decide_eq_false (by omega), if_neg (by omega)]
        refine Tot.pure bF ?_
        simp only [Bool.false_eq_true, if_false]
        exact go
theorem star_P {L : List U.Tr} {id : Int} (hb : L.length < 1000) : Gv (fun n => f_unfold_star n [rowT L, iv id] H) (outT (starW (allT id L))) H := by
  refine unfold_star_tot (by simp only [List.all_cons, rowG_fro]; rfl) (by simp [V.frees, V.free, rowG_free cfree]) ?_
  simp only [unfold_star_b]
  refine Tot.pure rowG_len ?_
  have fr : ∀ o, (outT o).free = true := by
    intro o; cases o <;> simp [outT, V.free, V.frees, rowG_free cfree]
  refine Tot.mono (star_l0 (M := 0) hb (Q := fun u _ => u = outT (starW (allT id L))) ?_ L.length 0 _ _ none [] _ (by omega) Big.id ?_) fun u _ h => ⟨by rw [h]; exact fr _, trivial, h⟩
  · intro K v i es h
    have hle := allT_le id L
    refine unfold_star.p2_tot ?_
    simp only [unfold_star.p2_b]
    refine Tot.pure (len_gt h.g) ?_
    refine Tot.pure eql_P ?_
    generalize allT id L = all at *
    match all with
    | [] =>
      rw [decide_eq_true (by simp)]
      refine Tot.pure bT ?_
      simp only [if_true]
      exact nil_out fun _ => rfl
    | a :: xs =>
      rw [decide_eq_false (by simp; omega)]
      refine Tot.pure bF ?_
      simp only [Bool.false_eq_true, if_false]
      refine Tot.bind (min_P (by omega) h.g) ?_
      rintro u K1 ⟨rfl, n1, k1⟩
      dsimp only
      have h1 := h.keep n1 k1
      refine Tot.bind (index_P (by omega) h1.g) ?_
      rintro u K2 ⟨x2, rfl⟩
      dsimp only
      have h2 : SV K2 v (a :: xs) i es 0 := h1.keep x2.n fun k hk => x2.get k hk (fun e => e)
      rw [least_idx]
      simp only
      obtain ⟨q1, q2⟩ := least_at a xs
      have hlt : minI (a :: xs) 0 1 xs < (a :: xs).length := by
        rcases Nat.lt_or_ge (minI (a :: xs) 0 1 xs) (a :: xs).length with h | h
        · exact h
        · rw [List.getElem?_eq_none h] at q1; cases q1
      refine Tot.mono (star_l3 (f := minI (a :: xs) 0 1 xs) h2.s (by omega) (a :: xs).length 0 (minI (a :: xs) 0 1 xs) K2 nilS [] none _ (by omega) rfl Big.id h2.g h2.m h2.lt (.inl ⟨rfl, rfl, 0, rfl⟩) (by
        left; intro e; rcases h2.g with ⟨-, e2, -⟩ | ⟨j, e2, -⟩
        · cases e2
        · rw [e2] at e; cases e) (by intro e; cases e) (fun k e => by cases e) hlt (fun h => absurd h (by omega)) (.inr (by simp))) fun u _ hu => ?_
      rw [hu, chP_R _ _ _ _ (by omega) (by simp)]
      rfl
  · exact ⟨.inl ⟨rfl, rfl, 0, rfl⟩, Heap.gpz rfl, SM.nil, by simp, by intro e; cases e⟩
end N
end Go.AM
end
