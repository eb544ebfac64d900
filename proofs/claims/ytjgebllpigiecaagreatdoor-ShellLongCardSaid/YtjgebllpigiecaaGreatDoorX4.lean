/- Merged by program from: NmA AmSpec AmSim AmKeep AmArg2 AmLaw AmFT LgA LgB LgC LoLC AmStr LoLR0. -/
import Derived.KernelRfl
import Derived.IntWalk
import Derived.WideShapes
import Derived.Test.YtjgebllpigiecaaGreatDoorX3
section
set_option linter.unusedVariables false
set_option linter.unusedSimpArgs false
namespace Go.AM
def nth (l : List Nat) (i : Nat) : Nat := l.getD i 0
def val (b : Nat) : List Nat → Nat
  | [] => 0
  | x :: l => x + b * val b l
def Lim (b : Nat) (l : List Nat) : Prop := ∀ x, x ∈ l → x < b
def trimZ (l : List Nat) : List Nat := (l.reverse.dropWhile (· == 0)).reverse
theorem trimZ_zero {l : List Nat} : trimZ (l ++ [0]) = trimZ l := by simp [trimZ]
theorem trimZ_last {l : List Nat} {x : Nat} (h : x ≠ 0) : trimZ (l ++ [x]) = l ++ [x] := by simp [trimZ, h]
theorem Lim.nil {b : Nat} : Lim b [] := by intro x h; cases h
theorem Lim.cons {b x : Nat} {l : List Nat} : Lim b (x :: l) ↔ x < b ∧ Lim b l := by simp [Lim]
theorem Lim.one {b x : Nat} : Lim b [x] ↔ x < b := by simp [Lim]
theorem Lim.take {b n : Nat} {l : List Nat} (h : Lim b l) : Lim b (l.take n) := fun x hx => h x (List.mem_of_mem_take hx)
theorem Lim.drop {b n : Nat} {l : List Nat} (h : Lim b l) : Lim b (l.drop n) := fun x hx => h x (List.mem_of_mem_drop hx)
theorem Lim.nth {b i : Nat} {l : List Nat} (h : Lim b l) (hb : 0 < b) : nth l i < b := by
  rw [AM.nth, List.getD_eq_getElem?_getD]
  cases e : l[i]? with
  | none => simpa using hb
  | some x => exact h x (List.mem_of_getElem? e)
theorem Lim.set {b i x : Nat} {l : List Nat} (h : Lim b l) (hx : x < b) : Lim b (l.set i x) := by
  intro y hy
  rcases List.mem_or_eq_of_mem_set hy with h1 | h1
  · exact h y h1
  · omega
theorem snoc_cases {α : Type} (l : List α) : l = [] ∨ ∃ l' x, l = l' ++ [x] := by
  rcases List.eq_nil_or_concat l with h | ⟨l', x, h⟩
  · exact .inl h
  · exact .inr ⟨l', x, by simpa using h⟩
theorem trimZ_len_le : ∀ (n : Nat) {l : List Nat}, l.length = n → (trimZ l).length ≤ l.length
  | 0, l, h => by have := List.eq_nil_of_length_eq_zero h; subst this; simp [trimZ]
  | n + 1, l, h => by
    rcases snoc_cases l with rfl | ⟨l', x, rfl⟩
    · simp at h
    · by_cases hx : x = 0
      · subst hx; rw [trimZ_zero]; have := trimZ_len_le n (l := l') (by simpa using h); simp; omega
      · rw [trimZ_last hx]; simp
theorem trimZ_take : ∀ (n : Nat) {l : List Nat}, l.length = n → trimZ l = l.take (trimZ l).length
  | 0, l, h => by have := List.eq_nil_of_length_eq_zero h; subst this; simp [trimZ]
  | n + 1, l, h => by
    rcases snoc_cases l with rfl | ⟨l', x, rfl⟩
    · simp at h
    · by_cases hx : x = 0
      · subst hx; rw [trimZ_zero]
        have h1 := trimZ_len_le n (l := l') (by simpa using h)
        have h2 := trimZ_take n (l := l') (by simpa using h)
        rw [List.take_append_of_le_length h1]; exact h2
      · rw [trimZ_last hx, List.take_length]
theorem Lim.trimZ {b : Nat} {l : List Nat} (h : Lim b l) : Lim b (trimZ l) := by rw [trimZ_take _ rfl]; exact h.take
def Trimmed (l : List Nat) : Prop := trimZ l = l
theorem Trimmed.last {l : List Nat} {x : Nat} (h : Trimmed (l ++ [x])) : x ≠ 0 := by
  intro e; subst e
  unfold Trimmed at h
  rw [trimZ_zero] at h
  have h1 := trimZ_len_le _ (l := l) rfl
  rw [h] at h1; simp at h1; omega
end Go.AM
end
section
set_option linter.unusedVariables false
set_option linter.unusedSimpArgs false
namespace Go.AM
theorem Tot.yes {c : Prop} [Decidable c] {a b : Nat → Option R} {Q : V → Heap → Prop} (h : c) (ha : Tot a Q) : Tot (fun n => if c then a n else b n) Q := Tot.ite (fun _ => ha) fun k => (k h).elim
theorem Tot.no {c : Prop} [Decidable c] {a b : Nat → Option R} {Q : V → Heap → Prop} (h : ¬ c) (hb : Tot b Q) : Tot (fun n => if c then a n else b n) Q := Tot.ite (fun k => (h k).elim) fun _ => hb
structure Ch (X : Nat → Prop) (H H' : Heap) : Prop where
  n : H.n ≤ H'.n
  get : ∀ i, i < H.n → ¬ X i → H'.get i = H.get i
abbrev Ext0 (H H' : Heap) : Prop := Ch (fun _ => False) H H'
theorem Ch.refl {X : Nat → Prop} {H : Heap} : Ch X H H := ⟨Nat.le_refl _, fun _ _ _ => rfl⟩
theorem Ch.trans {X Y : Nat → Prop} {H H' H'' : Heap} (h : Ch X H H') (k : Ch Y H' H'') (hXY : ∀ i, i < H.n → Y i → X i) : Ch X H H'' :=
  ⟨Nat.le_trans h.n k.n, fun i hi hx => (k.get i (Nat.lt_of_lt_of_le hi h.n) fun y => hx (hXY i hi y)).trans (h.get i hi hx)⟩
theorem Ch.t {X : Nat → Prop} {H H' H'' : Heap} (h : Ch X H H') (k : Ext0 H' H'') : Ch X H H'' := h.trans k fun _ _ f => f.elim
theorem Ch.mono {X Y : Nat → Prop} {H H' : Heap} (h : Ch X H H') (hXY : ∀ i, i < H.n → X i → Y i) : Ch Y H H' := ⟨h.n, fun i hi hy => h.get i hi fun x => hy (hXY i hi x)⟩
theorem Ch.ext {X : Nat → Prop} {H H' : Heap} (h : Ch X H H') (hX : ∀ i, i < H.n → ¬ X i) : Ext0 H H' := h.mono fun i hi x => (hX i hi x).elim
theorem Ch.push {X : Nat → Prop} {H : Heap} {o : O} : Ch X H (H.push o) := ⟨by simp, fun i hi _ => by rw [Heap.get_push, if_neg (by omega)]⟩
theorem Ch.set {X : Nat → Prop} {H : Heap} {i : Nat} {o : O} (hi : X i) : Ch X H (H.set i o) := ⟨by simp, fun j hj hx => by rw [Heap.get_set, if_neg (fun e => hx (by rw [e]; exact hi))]⟩
theorem Ch.more {X : Nat → Prop} {H : Heap} {m : Nat} : Ch X H (H.more m) := ⟨by simp, fun i hi _ => rfl⟩
theorem Heap.gqz {H : Heap} {i : Nat} {o : O} (h : i ≠ H.n) : (H.push o).get i = H.get i := by rw [Heap.get_push, if_neg h]
theorem Heap.gpz {H : Heap} {i : Nat} {o : O} (h : i = H.n) : (H.push o).get i = o := by rw [Heap.get_push, if_pos h]
theorem Heap.gtz {H : Heap} {i j : Nat} {o : O} (h : i ≠ j) : (H.set j o).get i = H.get i := by rw [Heap.get_set, if_neg h]
theorem Heap.gsz {H : Heap} {i j : Nat} {o : O} (h : i = j) : (H.set j o).get i = o := by rw [Heap.get_set, if_pos h]
abbrev nums (k : IntKind) (l : List Nat) : List V := l.map fun (x : Nat) => V.int k x
structure Row (H : Heap) (k : IntKind) (s : Sl) (l : List Nat) : Prop where
  len : s.len = l.length
  low : ∀ b o, s.ad = some (b, o) → b < H.n ∧ s.esz = 1
  mem : l ≠ [] → ∃ b o cs e ro, s.ad = some (b, o) ∧ H.get b = .cells cs e ro ∧ o + l.length ≤ cs.length ∧ (cs.drop o).take l.length = nums k l
def Sl.has (s : Sl) (i : Nat) : Prop := ∃ o, s.ad = some (i, o)
def Fr (n : Nat) (s : Sl) : Prop := ∀ i, s.has i → n ≤ i
def at_ (s : Sl) (i : Nat) : V := match s.ad with
  | some (b, o) => .ptr (some (b, o + i))
  | none => .dead
theorem Row.ch {X : Nat → Prop} {H H' : Heap} {k : IntKind} {s : Sl} {l : List Nat} (h : Row H k s l) (e : Ch X H H') (hX : ∀ i, s.has i → ¬ X i) : Row H' k s l := by
  refine ⟨h.len, fun b o hs => ⟨Nat.lt_of_lt_of_le (h.low b o hs).1 e.n, (h.low b o hs).2⟩, fun hl => ?_⟩
  obtain ⟨b, o, cs, e', ro, h1, h2, h3, h4⟩ := h.mem hl
  exact ⟨b, o, cs, e', ro, h1, by rw [e.get b (h.low b o h1).1 (hX b ⟨o, h1⟩)]; exact h2, h3, h4⟩
theorem Row.ext {H H' : Heap} {k : IntKind} {s : Sl} {l : List Nat} (h : Row H k s l) (e : Ext0 H H') : Row H' k s l := h.ch e fun _ _ f => f
theorem Row.lt {H : Heap} {k : IntKind} {s : Sl} {l : List Nat} (h : Row H k s l) {i : Nat} (hs : s.has i) : i < H.n := by
  obtain ⟨o, hs⟩ := hs; exact (h.low i o hs).1
theorem Row.nil {H : Heap} {k : IntKind} {z : Nat} {f : Bool} : Row H k ⟨none, 0, z, f⟩ [] := ⟨rfl, fun _ _ h => (by cases h), fun h => (h rfl).elim⟩
theorem Row.new {H : Heap} {k : IntKind} {l : List Nat} {b e : Nat} {ro f : Bool} (hb : b < H.n) (hg : H.get b = .cells (nums k l) e ro) : Row H k ⟨some (b, 0), l.length, 1, f⟩ l :=
  ⟨rfl, fun c o h => by (cases h; exact ⟨hb, rfl⟩), fun _ => ⟨b, 0, nums k l, e, ro, rfl, hg, by simp, by rw [List.drop_zero, List.take_of_length_le (by simp)]⟩⟩
theorem Row.lenSl {H : Heap} {k : IntKind} {s : Sl} {l : List Nat} (h : Row H k s l) : lenSl (.slice s) = some (.int .i64 (l.length : Int)) := by
  simp [AM.lenSl, h.len]
theorem Row.get {H : Heap} {k : IntKind} {s : Sl} {l : List Nat} (h : Row H k s l) {i : Nat} (hi : i < l.length) : ld1 (at_ s i) H = some (.int k (nth l i : Nat)) := by
  have hl : l ≠ [] := by intro e; subst e; simp at hi
  obtain ⟨b, o, cs, e', ro, a1, a2, a3, a4⟩ := h.mem hl
  simp only [at_, a1, ld1, a2]
  have h5 : ((cs.drop o).take l.length)[i]? = (nums k l)[i]? := by rw [a4]
  rw [List.getElem?_take, if_pos hi, List.getElem?_drop] at h5
  rw [h5]
  simp [nums, nth, List.getElem?_eq_getElem hi, List.getD_eq_getElem?_getD]
theorem Row.rd {H : Heap} {k : IntKind} {s : Sl} {l : List Nat} (h : Row H k s l) : rdS s H = some (nums k l) := by
  by_cases hl : l = []
  · subst hl
    have := h.len
    simp at this
    unfold rdS
    split <;> simp [this, nums]
  · obtain ⟨b, o, cs, e', ro, a1, a2, a3, a4⟩ := h.mem hl
    have h2 := (h.low b o a1).2
    have hn : ¬ s.len = 0 := by rw [h.len]; simpa using hl
    unfold rdS
    rw [a1]
    simp only [if_neg hn, a2, h2, Nat.mul_one]
    rw [h.len, if_pos a3, a4]
theorem Row.src {H : Heap} {k : IntKind} {s : Sl} {l : List Nat} (h : Row H k s l) : srcA 1 (.slice s) H = some (l.length, nums k l) := by
  have : s.ad.isNone = true ∨ s.esz = 1 := by
    cases hs : s.ad with
    | none => exact .inl rfl
    | some p => exact .inr (h.low p.1 p.2 (by rw [hs])).2
  simp only [srcA, if_pos this, h.rd, Option.map_some, h.len]
def subS (s : Sl) (lo hi : Nat) : Sl := ⟨s.ad.map fun (b, o) => (b, o + lo), hi - lo, 1, false⟩
theorem Row.sub {H : Heap} {k : IntKind} {s : Sl} {l : List Nat} (h : Row H k s l) {lo hi : Nat} (h1 : lo ≤ hi) (h2 : hi ≤ l.length) : Row H k (subS s lo hi) ((l.drop lo).take (hi - lo)) := by
  refine ⟨by simp [subS]; omega, ?_, ?_⟩
  · intro b o hs
    unfold subS at hs ⊢
    cases ha : s.ad with
    | none => rw [ha] at hs; simp at hs
    | some p => rw [ha] at hs; simp at hs; exact ⟨by have := (h.low p.1 p.2 (by rw [ha])).1; omega, rfl⟩
  · intro hl
    have hne : l ≠ [] := by intro e; subst e; simp at hl
    obtain ⟨b, o, cs, e', ro, a1, a2, a3, a4⟩ := h.mem hne
    refine ⟨b, o + lo, cs, e', ro, by simp [subS, a1], a2, by simp; omega, ?_⟩
    have hlen : ((l.drop lo).take (hi - lo)).length = hi - lo := by simp; omega
    rw [hlen, ← List.drop_drop]
    have : ((cs.drop o).take l.length).drop lo = (nums k l).drop lo := by rw [a4]
    rw [List.drop_take] at this
    have h6 : (((cs.drop o).drop lo).take (l.length - lo)).take (hi - lo) = ((nums k l).drop lo).take (hi - lo) := by rw [this]
    rw [List.take_take, show min (hi - lo) (l.length - lo) = hi - lo by omega] at h6
    rw [h6]; simp [nums, List.map_drop, List.map_take]
theorem Row.slice {H : Heap} {k : IntKind} {s : Sl} {l : List Nat} (h : Row H k s l) {lo hi : Option V} {a b : Nat} (hlo : bndA 0 lo = some a) (hhi : bndA s.len hi = some b) (h1 : a ≤ b) (h2 : b ≤ l.length) :
    slSl 1 (.slice s) lo hi = some (.slice (subS s a b)) := by
  have : s.ad.isNone = true ∨ s.esz = 1 := by
    cases hs : s.ad with
    | none => exact .inl rfl
    | some p => exact .inr (h.low p.1 p.2 (by rw [hs])).2
  have h3 : b ≤ s.len := by rw [h.len]; exact h2
  simp only [slSl, hlo, hhi, Option.bind_some]
  rw [if_pos ⟨h1, h3, this⟩]
  simp [subS]
theorem bndA_int {d : Nat} {q : IntKind} {i : Int} (h : 0 ≤ i) : bndA d (some (.int q i)) = some i.toNat := by simp [bndA, h]
theorem bndA_none {d : Nat} : bndA d none = some d := rfl
theorem Fr.nil {n z l : Nat} {f : Bool} : Fr n ⟨none, l, z, f⟩ := fun i hi => by unfold Sl.has at hi; simp at hi
def Own (H : Heap) (k : IntKind) (e : Nat) (s : Sl) (l : List Nat) : Prop :=
  (s = ⟨none, 0, 0, false⟩ ∧ l = []) ∨ ∃ b, s = ⟨some (b, 0), l.length, 1, false⟩ ∧ b < H.n ∧ H.get b = .cells (nums k l) e false
theorem Own.row {H : Heap} {k : IntKind} {e : Nat} {s : Sl} {l : List Nat} (h : Own H k e s l) : Row H k s l := by
  rcases h with ⟨rfl, rfl⟩ | ⟨b, rfl, h1, h2⟩
  · exact Row.nil
  · exact Row.new h1 h2
theorem Own.ch {X : Nat → Prop} {H H' : Heap} {k : IntKind} {e : Nat} {s : Sl} {l : List Nat} (h : Own H k e s l) (c : Ch X H H') (hX : ∀ i, s.has i → ¬ X i) : Own H' k e s l := by
  rcases h with h | ⟨b, rfl, h1, h2⟩
  · exact .inl h
  · exact .inr ⟨b, rfl, Nat.lt_of_lt_of_le h1 c.n, by rw [c.get b h1 (hX b ⟨0, rfl⟩)]; exact h2⟩
theorem Own.ext {H H' : Heap} {k : IntKind} {e : Nat} {s : Sl} {l : List Nat} (h : Own H k e s l) (c : Ext0 H H') : Own H' k e s l := h.ch c fun _ _ f => f
theorem rowA_nums {k : IntKind} : ∀ n, rowA [.int k 0] n = nums k (List.replicate n 0)
  | 0 => rfl
  | n + 1 => by
    have := rowA_nums (k := k) n
    simp only [rowA, this, nums, List.replicate_succ, List.map_cons, List.cons_append, List.nil_append]
    rfl
theorem Own.new {H : Heap} {k : IntKind} {e : Nat} {l : List Nat} : Own (H.push (.cells (nums k l) e false)) k e ⟨some (H.n, 0), l.length, 1, false⟩ l :=
  .inr ⟨H.n, rfl, by simp, Heap.gpz rfl⟩
theorem nums_rep {k : IntKind} {n : Nat} : nums k (List.replicate n 0) = List.replicate n (.int k 0) := by simp [nums]
theorem Own.make {H : Heap} {k : IntKind} {e n : Nat} : Own (H.push (.cells (List.replicate n (.int k 0)) e false)) k e ⟨some (H.n, 0), n, 1, false⟩ (List.replicate n 0) :=
  .inr ⟨H.n, by simp, by simp, by rw [nums_rep]; exact Heap.gpz rfl⟩
structure Mut (H : Heap) (k : IntKind) (e b : Nat) (p l q : List Nat) (s : Sl) : Prop where
  ad : s.ad = some (b, p.length)
  len : s.len = l.length
  esz : s.esz = 1
  lt : b < H.n
  get : H.get b = .cells (nums k (p ++ l ++ q)) e false
theorem Mut.row {H : Heap} {k : IntKind} {e b : Nat} {p l q : List Nat} {s : Sl} (h : Mut H k e b p l q s) : Row H k s l :=
  ⟨h.len, fun c o hs => by rw [h.ad] at hs; cases hs; exact ⟨h.lt, h.esz⟩, fun _ => ⟨b, p.length, _, e, false, h.ad, h.get, by simp <;> omega, by
    simp only [nums, List.map_append, List.append_assoc]
    rw [List.drop_left' (by simp)]
    rw [List.take_left' (by simp)]⟩⟩
theorem Mut.has {H : Heap} {k : IntKind} {e b : Nat} {p l q : List Nat} {s : Sl} (h : Mut H k e b p l q s) {i : Nat} : s.has i ↔ i = b := by
  unfold Sl.has; rw [h.ad]; constructor
  · rintro ⟨o, h⟩; simp at h; exact h.1.symm
  · rintro rfl; exact ⟨_, rfl⟩
theorem Mut.ch {X : Nat → Prop} {H H' : Heap} {k : IntKind} {e b : Nat} {p l q : List Nat} {s : Sl} (h : Mut H k e b p l q s) (c : Ch X H H') (hX : ¬ X b) : Mut H' k e b p l q s :=
  ⟨h.ad, h.len, h.esz, Nat.lt_of_lt_of_le h.lt c.n, by rw [c.get b h.lt hX]; exact h.get⟩
theorem Mut.ext {H H' : Heap} {k : IntKind} {e b : Nat} {p l q : List Nat} {s : Sl} (h : Mut H k e b p l q s) (c : Ext0 H H') : Mut H' k e b p l q s := h.ch c fun f => f
theorem Mut.own {H : Heap} {k : IntKind} {e b : Nat} {l : List Nat} {s : Sl} (h : Mut H k e b [] l [] s) (hf : s.full = false) : Own H k e s l := by
  refine .inr ⟨b, ?_, h.lt, by simpa using h.get⟩
  cases s with
  | mk a n z f =>
    have h1 := h.ad; have h2 := h.len; have h3 := h.esz
    simp at h1 h2 h3 hf
    subst h1 h2 h3 hf; rfl
theorem Mut.make {H : Heap} {k : IntKind} {e n : Nat} : Mut (H.push (.cells (List.replicate n (.int k 0)) e false)) k e H.n [] (List.replicate n 0) [] ⟨some (H.n, 0), n, 1, false⟩ :=
  ⟨rfl, by simp, rfl, by simp, by rw [Heap.gpz rfl]; simp⟩
theorem Mut.part {H : Heap} {k : IntKind} {e b : Nat} {l p m q : List Nat} {s : Sl} (h : Mut H k e b [] l [] s) (he : l = p ++ m ++ q) : Mut H k e b p m q (subS s p.length (p.length + m.length)) :=
  ⟨by simp [subS, h.ad], by simp [subS], rfl, h.lt, by rw [h.get, he]; simp⟩
theorem Mut.pre {H : Heap} {k : IntKind} {e b : Nat} {l l1 l2 q : List Nat} {s t : Sl} (h : Mut H k e b [] l q s) (he : l = l1 ++ l2) (h1 : t.ad = s.ad) (h2 : t.esz = 1) (h3 : t.len = l1.length) : Mut H k e b [] l1 (l2 ++ q) t :=
  ⟨by rw [h1, h.ad], h3, h2, h.lt, by rw [h.get, he]; simp⟩
theorem lset_one {cs : List V} {o : Nat} {x : V} : lset cs o [x] = cs.set o x := rfl
theorem Mut.st {H : Heap} {k : IntKind} {e b : Nat} {p l q : List Nat} {s : Sl} (h : Mut H k e b p l q s) {i x : Nat} {xi : Int} (hi : i < l.length) (hx : xi = (x : Int)) :
    ∃ H', stA 1 (at_ s i) (.int k xi) H = some H' ∧ Mut H' k e b p (l.set i x) q s ∧ Ch (· = b) H H' := by
  subst hx
  refine ⟨H.set b (.cells (nums k (p ++ l.set i x ++ q)) e false), ?_, ⟨h.ad, by simp [h.len], h.esz, by simp [h.lt], by rw [Heap.gsz rfl]⟩, Ch.set rfl⟩
  have hc : V.cells (.int k (x : Int)) = [.int k x] := rfl
  simp only [at_, h.ad, stA, h.get, hc]
  rw [if_pos ⟨rfl, by simp; omega, by simp [V.one]⟩, lset_one]
  congr 3
  simp only [nums, ← List.map_set (f := fun (x : Nat) => V.int k x)]
  congr 1
  rw [List.append_assoc, List.append_assoc, List.set_append_right _ _ (by omega), show p.length + i - p.length = i by omega, List.set_append_left _ _ hi]
theorem Tot.st {H : Heap} {k : IntKind} {e b : Nat} {p l q : List Nat} {s : Sl} (h : Mut H k e b p l q s) {i x : Nat} {xi : Int} (hi : i < l.length) (hx : xi = (x : Int)) {K : Nat → Heap → Option R} {Q : V → Heap → Prop}
    (hk : ∀ H', Mut H' k e b p (l.set i x) q s → Ch (· = b) H H' → Tot (fun n => K n H') Q) : Tot (fun n => bnd (stA 1 (at_ s i) (.int k xi) H) (K n)) Q := by
  obtain ⟨H', h1, h2, h3⟩ := h.st hi hx
  simp only [h1, bnd_some]
  exact hk H' h2 h3
theorem mkSl_nums {by_ e : Nat} {k q q' : IntKind} {l c : Int} (h : 0 ≤ l ∧ l ≤ c ∧ c < 2147483648 ∧ by_ ≤ 4096) :
    mkSl 1 by_ e [.int k 0] (.int q l) (.int q' c) = some (.cells (List.replicate l.toNat (.int k 0)) e false, l.toNat) := by
  simp only [mkSl]
  rw [if_pos ⟨h.1, h.2.1, h.2.2.1, h.2.2.2, rfl, rfl⟩, rowA_nums, nums_rep]
theorem mkSl_zero {by_ e : Nat} {k q q' : IntKind} {c : Int} (h : 0 ≤ c ∧ c < 2147483648 ∧ by_ ≤ 4096) :
    mkSl 1 by_ e [.int k 0] (.int q 0) (.int q' c) = some (.cells (nums k []) e false, 0) := by
  rw [mkSl_nums (by omega)]; rfl
end Go.AM
end
section
set_option linter.unusedVariables false
set_option linter.unusedSimpArgs false
namespace Go.AM
theorem wrap_i64 {n : Int} (h : -9223372036854775808 ≤ n ∧ n ≤ 9223372036854775807) : IntKind.i64.wrap n = n := IntWalk.i64_in n h
theorem wrap_u64 {n : Int} (h : 0 ≤ n ∧ n ≤ 18446744073709551615) : IntKind.u64.wrap n = n := IntWalk.u64_in n h
theorem wrap_u32 {n : Int} (h : 0 ≤ n ∧ n ≤ 4294967295) : IntKind.u32.wrap n = n := IntWalk.u32_in n h
theorem wrap_u8 {n : Int} (h : 0 ≤ n ∧ n ≤ 255) : IntKind.u8.wrap n = n := IntWalk.u8_in n h
theorem wrap_u64m (n : Int) : IntKind.u64.wrap n = n % 18446744073709551616 := rfl
theorem ar_add {k : IntKind} {a b : Int} : arA .add (.int k a) (.int k b) = some (.int k (k.wrap (a + b))) := by simp [arA, intA]
theorem ar_sub {k : IntKind} {a b : Int} : arA .sub (.int k a) (.int k b) = some (.int k (k.wrap (a - b))) := by simp [arA, intA]
theorem ar_mul {k : IntKind} {a b : Int} : arA .mul (.int k a) (.int k b) = some (.int k (k.wrap (a * b))) := by simp [arA, intA]
theorem ar_quo {k : IntKind} {a b : Int} (h : 0 ≤ a ∧ 1 ≤ b) : arA .quo (.int k a) (.int k b) = some (.int k (k.wrap (a / b))) := by
  have : b ≠ 0 := by omega
  simp [arA, intA, this, Int.tdiv_eq_ediv_of_nonneg h.1]
theorem ar_rem {k : IntKind} {a b : Int} (h : 0 ≤ a ∧ 1 ≤ b) : arA .rem (.int k a) (.int k b) = some (.int k (a % b)) := by
  have : b ≠ 0 := by omega
  simp [arA, intA, this, Int.tmod_eq_emod_of_nonneg h.1]
theorem ar_lss {k : IntKind} {a b : Int} : arA .lss (.int k a) (.int k b) = some (.bool (decide (a < b))) := by simp [arA, intA]
theorem ar_leq {k : IntKind} {a b : Int} : arA .leq (.int k a) (.int k b) = some (.bool (decide (a ≤ b))) := by simp [arA, intA]
theorem ar_gtr {k : IntKind} {a b : Int} : arA .gtr (.int k a) (.int k b) = some (.bool (decide (a > b))) := by simp [arA, intA]
theorem ar_geq {k : IntKind} {a b : Int} : arA .geq (.int k a) (.int k b) = some (.bool (decide (a ≥ b))) := by simp [arA, intA]
theorem ar_eql {k : IntKind} {a b : Int} : arA .eql (.int k a) (.int k b) = some (.bool (decide (a = b))) := by
  have : (a == b) = decide (a = b) := by by_cases h : a = b <;> simp [h]
  simp [arA, intA, this]
theorem ar_neq {k : IntKind} {a b : Int} : arA .neq (.int k a) (.int k b) = some (.bool (decide (a ≠ b))) := by
  have : (a != b) = decide (a ≠ b) := by by_cases h : a = b <;> simp [h]
  simp [arA, intA, this]
theorem shr_u64 {q : IntKind} {a : Int} (h : 0 ≤ a) : shA .shr (.int .u64 a) (.int q 32) = some (.int .u64 (a / 4294967296)) := by
  simp [shA, shiftA, IntKind.bits, Int.fdiv_eq_ediv_of_nonneg]
theorem shr_u64_63 {q : IntKind} {a : Int} (h : 0 ≤ a) : shA .shr (.int .u64 a) (.int q 63) = some (.int .u64 (a / 9223372036854775808)) := by
  simp [shA, shiftA, IntKind.bits, Int.fdiv_eq_ediv_of_nonneg]
theorem wrap_u64_pos (z : Int) : 0 ≤ IntKind.u64.wrap z := by rw [wrap_u64m]; exact Int.emod_nonneg _ (by decide)
theorem shr_u64w {q : IntKind} {a : Int} : shA .shr (.int .u64 (IntKind.u64.wrap a)) (.int q 32) = some (.int .u64 (IntKind.u64.wrap a / 4294967296)) := shr_u64 (wrap_u64_pos _)
theorem shr_u64_63w {q : IntKind} {a : Int} : shA .shr (.int .u64 (IntKind.u64.wrap a)) (.int q 63) = some (.int .u64 (IntKind.u64.wrap a / 9223372036854775808)) := shr_u64_63 (wrap_u64_pos _)
theorem asB_bool {b : Bool} : asB (.bool b) = some b := (Eq.refl _).trans (Eq.refl _)
theorem cv_int {k k' : IntKind} {n : Int} : cvInt k (.int k' n) = some (.int k (k.wrap n)) := (Eq.refl _).trans (Eq.refl _)
theorem ext_tuple {vs : List V} {i : Nat} : extA (.tuple vs) i = vs[i]? := (Eq.refl _).trans (Eq.refl _)
theorem lenSl_mk {a : Option (Nat × Nat)} {l z : Nat} {f : Bool} : lenSl (.slice ⟨a, l, z, f⟩) = some (.int .i64 (l : Int)) := (Eq.refl _).trans (Eq.refl _)
theorem faA_mk {b o off : Nat} : faA off (.ptr (some (b, o))) = some (.ptr (some (b, o + off))) := (Eq.refl _).trans (Eq.refl _)
attribute [simp] ar_add ar_sub ar_mul ar_quo ar_rem ar_lss ar_leq ar_gtr ar_geq ar_eql ar_neq shr_u64 shr_u64_63 shr_u64w shr_u64_63w asB_bool cv_int ext_tuple lenSl_mk faA_mk
theorem more_zero {H : Heap} : H.more 0 = H := (Eq.refl _).trans (Eq.refl _)
attribute [simp] more_zero mkSl_nums
attribute [simp high] mkSl_zero
attribute [simp] wrap_i64 wrap_u64 wrap_u32 wrap_u8 bndA_int bndA_none
theorem one_bool {b : Bool} : V.one (.bool b) = true := (Eq.refl _).trans (Eq.refl _)
theorem one_int {k : IntKind} {n : Int} : V.one (.int k n) = true := (Eq.refl _).trans (Eq.refl _)
theorem one_slice {s : Sl} : V.one (.slice s) = true := (Eq.refl _).trans (Eq.refl _)
theorem one_str {s : List UInt8} : V.one (.str s) = true := (Eq.refl _).trans (Eq.refl _)
theorem cells_bool {b : Bool} : V.cells (.bool b) = [.bool b] := (Eq.refl _).trans (Eq.refl _)
theorem cells_int {k : IntKind} {n : Int} : V.cells (.int k n) = [.int k n] := (Eq.refl _).trans (Eq.refl _)
theorem cells_slice {s : Sl} : V.cells (.slice s) = [.slice s] := (Eq.refl _).trans (Eq.refl _)
theorem cells_agg {l : List V} : V.cells (.agg l) = l := (Eq.refl _).trans (Eq.refl _)
theorem boxA_agg {e : Nat} {cs : List V} (h : cs.all V.one = true) : boxA e (.agg cs) = some (.cells cs e false) := by simp only [boxA, cells_agg, h, if_true]
theorem un_not {b : Bool} : unA .not (.bool b) = some (.bool !b) := (Eq.refl _).trans (Eq.refl _)
theorem un_neg {k : IntKind} {n : Int} : unA .neg (.int k n) = some (.int k (k.wrap (0 - n))) := (Eq.refl _).trans (Eq.refl _)
theorem chk_bool {b : Bool} : chk (some (.bool b)) (.bool b) = some () := by simp [chk, V.beq]
theorem chk_int {k : IntKind} {n : Int} : chk (some (.int k n)) (.int k n) = some () := by simp [chk, V.beq]
theorem chk_slice {s : Sl} : chk (some (.slice s)) (.slice s) = some () := by simp [chk, V.beq]
theorem beqs_self : ∀ (l : List V), (∀ v, v ∈ l → V.beq v v = true) → V.beqs l l = true
  | [], _ => by simp [V.beqs]
  | v :: l, h => by simp [V.beqs, h v (by simp), beqs_self l fun u hu => h u (by simp [hu])]
theorem ld1_push_ne {H : Heap} {i o : Nat} {ob : O} (h : i ≠ H.n) : ld1 (.ptr (some (i, o))) (H.push ob) = ld1 (.ptr (some (i, o))) H := by simp only [ld1, Heap.gqz h]
theorem ld1_push_eq {H : Heap} {i o e : Nat} {cs : List V} {r : Bool} (h : i = H.n) : ld1 (.ptr (some (i, o))) (H.push (.cells cs e r)) = cs[o]? := by simp only [ld1, Heap.gpz h]
theorem ldN_push_ne {H : Heap} {n i o : Nat} {ob : O} (h : i ≠ H.n) : ldN n (.ptr (some (i, o))) (H.push ob) = ldN n (.ptr (some (i, o))) H := by simp only [ldN, Heap.gqz h]
theorem ldN_push_eq {H : Heap} {n i o e : Nat} {cs : List V} {r : Bool} (h : i = H.n) (hn : o + n ≤ cs.length) : ldN n (.ptr (some (i, o))) (H.push (.cells cs e r)) = some (.agg ((cs.drop o).take n)) := by simp only [ldN, Heap.gpz h, if_pos hn]
theorem Ch.ld1 {X : Nat → Prop} {H H' : Heap} (c : Ch X H H') {i o : Nat} (h : i < H.n) (hx : ¬ X i) : ld1 (.ptr (some (i, o))) H' = ld1 (.ptr (some (i, o))) H := by simp only [AM.ld1, c.get i h hx]
theorem Ch.ldN {X : Nat → Prop} {H H' : Heap} (c : Ch X H H') {n i o : Nat} (h : i < H.n) (hx : ¬ X i) : ldN n (.ptr (some (i, o))) H' = ldN n (.ptr (some (i, o))) H := by simp only [AM.ldN, c.get i h hx]
theorem Ch.l1 {H H' : Heap} (c : Ext0 H H') {i o : Nat} (h : i < H.n) : AM.ld1 (.ptr (some (i, o))) H' = AM.ld1 (.ptr (some (i, o))) H := c.ld1 h fun f => f
theorem Ch.g {H H' : Heap} (c : Ext0 H H') {i : Nat} (h : i < H.n) : H'.get i = H.get i := c.get i h fun f => f
attribute [simp] one_bool one_int one_slice one_str cells_bool cells_int cells_slice cells_agg boxA_agg un_not un_neg chk_bool chk_int chk_slice ld1_push_ne ld1_push_eq ldN_push_ne ldN_push_eq flA flE fillA lset Heap.gqz Heap.gpz
end Go.AM
end
section
set_option linter.unusedVariables false
set_option linter.unusedSimpArgs false
set_option linter.unusedSimpArgs false
namespace Go.AM
structure Keep (lo : Nat) (H H' : Heap) : Prop where
  n : H.n ≤ H'.n
  get : ∀ i, lo ≤ i → i < H.n → H'.get i = H.get i
theorem Keep.refl {lo : Nat} {H : Heap} : Keep lo H H := ⟨Nat.le_refl _, fun _ _ _ => rfl⟩
theorem Keep.call {lo : Nat} {H H' H'' : Heap} (h : Keep lo H H') (c : Ext0 H' H'') : Keep lo H H'' :=
  ⟨Nat.le_trans h.n c.n, fun i h1 h2 => (c.get i (Nat.lt_of_lt_of_le h2 h.n) fun f => f).trans (h.get i h1 h2)⟩
theorem Keep.push {lo : Nat} {H H' : Heap} {o : O} (h : Keep lo H H') : Keep lo H (H'.push o) := h.call Ch.push
theorem Keep.more {lo m : Nat} {H H' : Heap} (h : Keep lo H H') : Keep lo H (H'.more m) := h.call Ch.more
theorem Keep.set {lo j : Nat} {H H' : Heap} {o : O} (h : Keep lo H H') (hj : j < lo ∨ H.n ≤ j) : Keep lo H (H'.set j o) :=
  ⟨by simpa using h.n, fun i h1 h2 => by rw [Heap.gtz (by omega)]; exact h.get i h1 h2⟩
theorem Keep.ext {H H' : Heap} (h : Keep 0 H H') : Ext0 H H' := ⟨h.n, fun i hi _ => h.get i (Nat.zero_le _) hi⟩
theorem Row.keep {lo : Nat} {H H' : Heap} {k : IntKind} {s : Sl} {l : List Nat} (h : Row H k s l) (f : Fr lo s) (c : Keep lo H H') : Row H' k s l := by
  refine ⟨h.len, fun b o hs => ⟨Nat.lt_of_lt_of_le (h.low b o hs).1 c.n, (h.low b o hs).2⟩, fun hl => ?_⟩
  obtain ⟨b, o, cs, e', ro, h1, h2, h3, h4⟩ := h.mem hl
  exact ⟨b, o, cs, e', ro, h1, by rw [c.get b (f b ⟨o, h1⟩) (h.low b o h1).1]; exact h2, h3, h4⟩
theorem Fr.zero {s : Sl} : Fr 0 s := fun _ _ => Nat.zero_le _
theorem Fr.mono {m n : Nat} {s : Sl} (h : Fr n s) (hm : m ≤ n) : Fr m s := fun i hi => Nat.le_trans hm (h i hi)
theorem gmz {H : Heap} {m j : Nat} : (H.more m).get j = H.get j := (Eq.refl _).trans (Eq.refl _)
theorem lhz {i o : Nat} {H : Heap} : ld1 (.ptr (some (i, o))) H = (match H.get i with | .cells cs _ _ => cs[o]? | _ => none) := (Eq.refl _).trans (Eq.refl _)
theorem chk_agg {l : List V} (h : ∀ v, v ∈ l → V.beq v v = true) : chk (some (.agg l)) (.agg l) = some () := by simp [chk, V.beq, beqs_self l h]
theorem beq_bool {b : Bool} : V.beq (.bool b) (.bool b) = true := by simp [V.beq]
theorem beq_int {k : IntKind} {n : Int} : V.beq (.int k n) (.int k n) = true := by simp [V.beq]
theorem beq_slice {s : Sl} : V.beq (.slice s) (.slice s) = true := by simp [V.beq]
theorem gs {a : V} {l : List V} {i : Nat} : (a :: l)[i + 1]? = l[i]? := by simp
theorem chk_i {b : Bool} {s : Sl} : chk (some (.agg [.bool b, .slice s])) (.agg [.bool b, .slice s]) = some () := chk_agg (by simp [V.beq])
theorem chk_r {b : Bool} {s t : Sl} : chk (some (.agg [.bool b, .slice s, .slice t])) (.agg [.bool b, .slice s, .slice t]) = some () := chk_agg (by simp [V.beq])
theorem chk_i' {k : IntKind} {b : Int} {s : Sl} : chk (some (.agg [.int k b, .slice s])) (.agg [.int k b, .slice s]) = some () := chk_agg (by simp [V.beq])
theorem chk_r' {k l : IntKind} {b c : Int} {s t : Sl} : chk (some (.agg [.int k b, .slice s, .int l c, .slice t])) (.agg [.int k b, .slice s, .int l c, .slice t]) = some () := chk_agg (by simp [V.beq])
attribute [simp] chk_i chk_r chk_i' chk_r'
attribute [simp] beq_bool beq_int beq_slice
theorem Tot.pure {α : Type} {x : Option α} {a : α} {k : Nat → α → Option R} {Q : V → Heap → Prop} (h : x = some a) (hk : Tot (fun n => k n a) Q) : Tot (fun n => bnd x (k n)) Q := by
  subst h; exact hk
theorem Tot.chk {x : Option Unit} {k : Nat → Unit → Option R} {Q : V → Heap → Prop} (h : x = some ()) (hk : Tot (fun n => k n ()) Q) : Tot (fun n => bnd x (k n)) Q := by
  subst h; exact hk
theorem Keep.auto {lo : Nat} {H H' : Heap} (h : Keep lo H H' := by (repeat (first | exact Keep.refl | refine Keep.call ?_ (by assumption) | refine Keep.push ?_ | refine Keep.more ?_ | refine Keep.set ?_ (by first | omega | (simp only [npz, nsz, nmz] <;> omega) | fail)))) : Keep lo H H' := h
theorem Tot.autoP {α : Type} {x : Option α} {a : α} {k : Nat → α → Option R} {Q : V → Heap → Prop} (hk : Tot (fun n => k n a) Q) (h : x = some a := by simp (disch := first | omega | (simp only [npz, nsz, nmz] <;> omega) | fail) [lhz, lgz, sgz, boxA, gz, gs, Heap.gqz, Heap.gpz, Heap.gtz, Heap.gsz, gmz, npz, nsz, nmz]; try exact rfl) : Tot (fun n => bnd x (k n)) Q := Tot.pure h hk
theorem Tot.autoC {x : Option Unit} {k : Nat → Unit → Option R} {Q : V → Heap → Prop} (hk : Tot (fun n => k n ()) Q) (h : x = some () := by simp (disch := first | omega | (simp only [npz, nsz, nmz] <;> omega) | fail) [lhz, lgz, sgz, boxA, gz, gs, Heap.gqz, Heap.gpz, Heap.gtz, Heap.gsz, gmz, npz, nsz, nmz]; done) : Tot (fun n => bnd x (k n)) Q := Tot.chk h hk
end Go.AM
end
section
set_option linter.unusedVariables false
set_option linter.unusedSimpArgs false
set_option linter.unusedSimpArgs false
namespace Go.AM
open Go.RowKit (Below)
section
variable {P : Program} {B n0 N : Nat} {w0 w1 w w' w'' : World} {μ0 μ μ' μ'' ν : Mu} {H0 H H' H'' : Heap} {T : Type} {enc : TypeId × Value → T}
theorem got_one {k : Nat} {t : TypeId} {v : V} {x : Value} (hr : Rel B w0 μ H w) (ho : ∀ j M, μ j = some M → (H.get j).own = false) (h1 : VRel μ v x) (h2 : v.one = true) (h3 : P.cellsOf t = 1) (h4 : WT P k t [v] H) : Got P B w0 μ H w k t [x] :=
  ⟨μ, H, [v], Grows.refl, hr, ho, by simp only [VRels]; exact ⟨x, [], rfl, h1, rfl⟩, by simp [h2], by simp [h3], h4⟩
theorem cells_spec {base n : Nat} {a : Addr} {xs : List Value} (h : w.cells? base a n = some xs) : xs.length = n ∧ ∀ (i : Nat), i < n → w.cell? (a.add i) = xs[i]? := by
  unfold World.cells? at h
  split at h
  · obtain ⟨h1, h2⟩ := mapM_some h
    simp at h1
    refine ⟨h1.symm, fun i hi => ?_⟩
    obtain ⟨y, h3, h4⟩ := h2 i i (by simp [hi])
    rw [h3, h4]
  · simp at h
theorem cell_spot {a : Addr} {x : Value} (h : w.cell? a = some x) : ∃ c e fr, w.heap[a.block]? = some (.cells c e fr) ∧ a.spot = none ∧ c[a.off]? = some x := by
  unfold World.cell? at h
  split at h
  · rename_i c e fr hb
    split at h
    · simp at h
    · rename_i hs; exact ⟨c, e, fr, hb, by simpa using hs, h⟩
  · simp at h
theorem flatten_get {α : Type} {k : Nat} {xss : List (List α)} {i j : Nat} {xs : List α} (hl : ∀ (i : Nat) (u : List α), xss[i]? = some u → u.length = k) (hi : xss[i]? = some xs) (hj : j < k) : xss.flatten[i * k + j]? = xs[j]? := by
  have := flatten_chunk hl hi
  rw [← this, List.getElem?_take, if_pos hj, List.getElem?_drop]
theorem build_list {A : Type} : ∀ (n : Nat) {Q : Nat → A → Prop}, (∀ i, i < n → ∃ x, Q i x) → ∃ l : List A, l.length = n ∧ ∀ (i : Nat) (x : A), l[i]? = some x → Q i x
  | 0, Q, _ => ⟨[], rfl, by simp⟩
  | n + 1, Q, h => by
    obtain ⟨x, hx⟩ := h 0 (by omega)
    obtain ⟨l, hl, hq⟩ := build_list n (Q := fun i x => Q (i + 1) x) fun i hi => h (i + 1) (by omega)
    refine ⟨x :: l, by simp [hl], ?_⟩
    intro i y hy
    cases i with
    | zero => simp at hy; subst hy; exact hx
    | succ i => simp at hy; exact hq i y hy
theorem chunk_whole {α : Type} {k : Nat} {cs : List α} : ∀ {xss : List (List α)} {off : Nat}, off + xss.length * k = cs.length → (∀ (i : Nat) (u : List α), xss[i]? = some u → u = (cs.drop (off + i * k)).take k) → xss.flatten = cs.drop off
  | [], off, h, _ => by simp at h; simp [h]
  | u :: xss, off, h, hu => by
    have h0 := hu 0 u (by simp)
    simp only [Nat.zero_mul, Nat.add_zero] at h0
    have ih := chunk_whole (k := k) (cs := cs) (xss := xss) (off := off + k) (by simp [Nat.succ_mul] at h; omega) fun i v hv => by
      have := hu (i + 1) v (by simpa using hv)
      rw [this, Nat.succ_mul]
      congr 2
      omega
    simp only [List.flatten_cons, ih, h0]
    rw [← List.drop_drop]
    exact List.take_append_drop _ _
theorem add_off (a : Addr) (i : Nat) (hs : a.spot = none) : a.add i = ⟨a.block, a.off + i, none⟩ := by
  cases a with
  | mk b o s =>
    simp only at hs; subst hs
    unfold Addr.add
    split
    · rename_i h; subst h; rfl
    · rfl
theorem got_slice {k fuel len cap : Nat} {t e : TypeId} {a : Addr} (hr : Rel B w0 μ H w) (ho : ∀ j M, μ j = some M → (H.get j).own = false)
    (hu : P.underlying t = some (.slice e)) (hp1 : P.cellsOf t = 1) (hp2 : 0 < P.cellsOf e) (hlc : len ≤ cap) (hcm : cap ≤ maxLen)
    (hstep : ∀ (x : {xs : List Value // ∃ d ps, DataW.trod enc P w 0 (fun _ => true) true fuel e xs = some (d, ps)}) (μ : Mu) (H : Heap), Rel B w0 μ H w → (∀ j M, μ j = some M → (H.get j).own = false) → Got P B w0 μ H w k e x.1)
    (hE : ∀ i, i < cap → ∃ xs, w.cells? 0 (a.add (i * P.cellsOf e)) (P.cellsOf e) = some xs ∧ ∃ d ps, DataW.trod enc P w 0 (fun _ => true) true fuel e xs = some (d, ps)) :
    Got P B w0 μ H w (k + 1) t [.slice (some a) len cap] := by
  by_cases hc0 : cap = 0
  · subst hc0
    have hl0 : len = 0 := by omega
    subst hl0
    have hfr : μ H.n = none := hr.fresh (Nat.le_refl _)
    refine ⟨μ.put H.n ⟨0, 0, 0⟩, H.push .none, [.slice ⟨some (H.n, 0), 0, P.cellsOf e, false⟩], ⟨Mu.le_put hfr, by simp, fun i hi => by rw [Heap.get_push, if_neg (by omega)]⟩,
      hr.lay (by simp [O.live]) rfl ho trivial, ?_, ?_, rfl, by simp [hp1], ?_⟩
    · intro j M e1
      rw [Heap.get_push]
      simp only [Mu.put] at e1
      split at e1
      · rename_i hj; rw [if_pos hj]; rfl
      · rename_i hj; rw [if_neg hj]; exact ho j M e1
    · simp only [VRels, VRel]
      exact ⟨_, _, rfl, ⟨⟨0, 0, 0⟩, a, 0, by simp [Mu.put], rfl, Nat.le_refl _, by simp, .inl rfl⟩, rfl⟩
    · unfold WT
      simp only [hu]
      exact .inr ⟨H.n, 0, false, rfl, by simp, by omega, by simp⟩
  · obtain ⟨las, hl, hq⟩ := build_list (A := {xs : List Value // ∃ d ps, DataW.trod enc P w 0 (fun _ => true) true fuel e xs = some (d, ps)}) len
      (Q := fun i x => w.cells? 0 (a.add (i * P.cellsOf e)) (P.cellsOf e) = some x.1) fun i hi => by
        obtain ⟨xs, h1, h2⟩ := hE i (by omega)
        exact ⟨⟨xs, h2⟩, h1⟩
    obtain ⟨μ1, H1, vss, g1, r1, o1, l1, v1, n1, t1⟩ := got_list (P := P) (fuel := k) (w := w) (w0 := w0) (B := B) (fun _ => e) (fun x => x.1) hstep las μ H hr ho
    have hget : ∀ (i : Nat) (u : List V), vss[i]? = some u → u.length = P.cellsOf e ∧ WT P k e u H1 := by
      intro i u h2
      have hi : i < las.length := by rw [← l1]; exact (List.getElem?_eq_some_iff.mp h2).1
      exact t1 i _ u (List.getElem?_eq_getElem hi) h2
    have hfl := flatten_len fun i u hi => (hget i u hi).1
    rw [l1, hl] at hfl
    have hlast : ∃ c e' fr, w.heap[a.block]? = some (.cells c e' fr) ∧ a.spot = none ∧ a.off + cap * P.cellsOf e ≤ c.size := by
      obtain ⟨xs, h1, _⟩ := hE (cap - 1) (by omega)
      obtain ⟨hx1, hx2⟩ := cells_spec h1
      have h3 := hx2 (P.cellsOf e - 1) (by omega)
      have h4 : xs[P.cellsOf e - 1]? = some (xs[P.cellsOf e - 1]'(by omega)) := List.getElem?_eq_getElem _
      rw [h4] at h3
      obtain ⟨c, e', fr, k1, k2, k3⟩ := cell_spot h3
      have hs : a.spot = none := by
        obtain ⟨ys, j1, _⟩ := hE 0 (by omega)
        obtain ⟨jx1, jx2⟩ := cells_spec j1
        have j3 := jx2 0 hp2
        have j4 : ys[0]? = some (ys[0]'(by omega)) := List.getElem?_eq_getElem _
        rw [j4] at j3
        obtain ⟨_, _, _, _, m2, _⟩ := cell_spot j3
        simpa [Addr.add] using m2
      rw [add_off a _ hs, add_off _ _ rfl] at k1 k3
      simp only at k1 k3
      have k4 := (Array.getElem?_eq_some_iff.mp k3).1
      refine ⟨c, e', fr, k1, hs, ?_⟩
      have : cap * P.cellsOf e = (cap - 1) * P.cellsOf e + P.cellsOf e := by
        rw [← Nat.succ_mul]; congr 1; omega
      omega
    obtain ⟨c, e', fr, hb, hs, hsz⟩ := hlast
    have hfr : μ1 H1.n = none := r1.fresh (Nat.le_refl _)
    have hle := Mu.le_put (L := ⟨a.block, a.off, c.size⟩) hfr
    have hmul : len * P.cellsOf e ≤ cap * P.cellsOf e := Nat.mul_le_mul_right _ hlc
    refine ⟨μ1.put H1.n ⟨a.block, a.off, c.size⟩, H1.push (.cells vss.flatten e true), [.slice ⟨some (H1.n, 0), len, P.cellsOf e, false⟩],
      g1.trans ⟨hle, by simp, fun i hi => by rw [Heap.get_push, if_neg (by omega)]⟩,
      r1.lay (fun _ => (Array.getElem?_eq_some_iff.mp hb).1) rfl o1 ?_, ?_, ?_, rfl, by simp [hp1], ?_⟩
    · refine ⟨c, e', fr, hb, rfl, by simp only [hfl]; omega, ?_, by simp⟩
      intro j v hv
      have hj : j < len * P.cellsOf e := by rw [← hfl]; exact (List.getElem?_eq_some_iff.mp hv).1
      refine ⟨?_, ?_⟩
      · have := List.all_eq_true.mp n1 v (List.mem_of_getElem? hv)
        exact this
      · obtain ⟨x, hx, hv'⟩ := VRels.get v1 j v hv
        refine ⟨x, ?_, VRel.mono hle _ _ hv'⟩
        have hdm : j / P.cellsOf e < len := (Nat.div_lt_iff_lt_mul hp2).mpr hj
        have hja : las[j / P.cellsOf e]? = some (las[j / P.cellsOf e]'(by omega)) := List.getElem?_eq_getElem _
        have hq1 := hq _ _ hja
        obtain ⟨hx1, hx2⟩ := cells_spec hq1
        have hmod : j % P.cellsOf e < P.cellsOf e := Nat.mod_lt _ hp2
        have h3 := hx2 _ hmod
        have hlens : ∀ (i : Nat) (u : List Value), (las.map fun x => x.1)[i]? = some u → u.length = P.cellsOf e := by
          intro i u hi
          rw [List.getElem?_map] at hi
          cases ha : las[i]? with
          | none => rw [ha] at hi; simp at hi
          | some y => rw [ha] at hi; simp at hi; rw [← hi]; exact (cells_spec (hq i y ha)).1
        have h4 := flatten_get (xss := las.map fun x => x.1) (i := j / P.cellsOf e) (j := j % P.cellsOf e) (k := P.cellsOf e) hlens (by rw [List.getElem?_map, hja]; rfl) hmod
        have hjj : j / P.cellsOf e * P.cellsOf e + j % P.cellsOf e = j := by rw [Nat.mul_comm]; exact Nat.div_add_mod _ _
        rw [hjj, hx] at h4
        rw [← h4, add_off a _ hs, add_off _ _ rfl] at h3
        obtain ⟨c', e'', fr', k1, k2, k3⟩ := cell_spot h3
        simp only at k1 k3
        rw [hb] at k1
        cases k1
        rw [show a.off + j / P.cellsOf e * P.cellsOf e + j % P.cellsOf e = a.off + j by omega] at k3
        exact k3
    · intro j M e1
      rw [Heap.get_push]
      simp only [Mu.put] at e1
      split at e1
      · rename_i hj; rw [if_pos hj]; rfl
      · rename_i hj; rw [if_neg hj]; exact o1 j M e1
    · simp only [VRels, VRel]
      refine ⟨_, _, rfl, ⟨⟨a.block, a.off, c.size⟩, a, cap, by simp [Mu.put], rfl, hlc, by simp, .inr ⟨?_, by simpa using hsz⟩⟩, rfl⟩
      cases a with
      | mk b o s => simp at hs; subst hs; simp
    · unfold WT
      simp only [hu]
      refine .inr ⟨H1.n, len, false, rfl, by simp, by omega, fun _ => ⟨e, vss.flatten, by rw [Heap.get_push, if_pos rfl], hfl, fun j hj => ?_⟩⟩
      have h2 : vss[j]? = some vss[j] := List.getElem?_eq_getElem (by omega)
      rw [flatten_chunk (fun i u hi => (hget i u hi).1) h2]
      exact (hget j _ h2).2.mono (by simp) fun i hi => by rw [Heap.get_push, if_neg (by omega)]
theorem got : ∀ (k : Nat) (t : TypeId), plainT P k t = true → ∀ (fuel : Nat) (cs : List Value) (d : DataW T) (ps : List MemPlace),
    DataW.trod enc P w 0 (fun _ => true) true fuel t cs = some (d, ps) → ∀ (μ : Mu) (H : Heap), Rel B w0 μ H w → (∀ j M, μ j = some M → (H.get j).own = false) → Got P B w0 μ H w k t cs
  | 0, t, hp, _, _, _, _, _, _, _, _, _ => by simp [plainT] at hp
  | k + 1, t, hp, 0, cs, d, ps, h, μ, H, hr, ho => by simp [DataW.trod] at h
  | k + 1, t, hp, fuel + 1, cs, d, ps, h, μ, H, hr, ho => by
    unfold plainT at hp
    unfold DataW.trod at h
    split at hp
    · rename_i hu
      simp only [hu] at h
      split at h
      all_goals first
        | (rename_i heq; cases heq; done)
        | (simp at h; done)
        | skip
      rename_i b _
      exact got_one hr ho (v := .bool b) (by simp only [VRel]) rfl (by simpa using hp) (by unfold WT; simp [hu])
    · rename_i q hu
      simp only [hu] at h
      split at h
      all_goals first
        | (rename_i heq; cases heq; done)
        | (simp at h; done)
        | skip
      rename_i q' k' n heq
      cases heq
      split at h
      · rename_i hc
        obtain ⟨rfl, hw⟩ := hc
        exact got_one hr ho (v := .int k' n) (by simp only [VRel]) rfl (by simpa using hp) (by unfold WT; simp [hu]; exact hw)
      · simp at h
    · rename_i hu
      simp only [hu] at h
      split at h
      all_goals first
        | (rename_i heq; cases heq; done)
        | (simp at h; done)
        | skip
      rename_i s _
      split at h
      · rename_i hc
        exact got_one hr ho (v := .str s.data.toList) (by simp only [VRel]) rfl (by simpa using hp) (by unfold WT; simp only [hu]; exact ⟨_, rfl, by simpa using hc⟩)
      · simp at h
    · rename_i e hu
      simp only [Bool.and_eq_true, decide_eq_true_eq] at hp
      obtain ⟨⟨hp1, hp2⟩, hp3⟩ := hp
      simp only [hu] at h
      split at h
      all_goals first
        | (rename_i heq; cases heq; done)
        | (simp at h; done)
        | skip
      · exact got_one hr ho (v := .slice ⟨none, 0, 0, false⟩) (by simp only [VRel]; exact ⟨trivial, trivial⟩) rfl hp1 (by unfold WT; simp [hu])
      · rename_i e' a len cap heq
        cases heq
        split at h
        · rename_i hc
          obtain ⟨_, hlc, hcm⟩ := hc
          cases hes : (List.range len).mapM fun i => (w.cells? 0 (a.add (i * P.cellsOf e)) (P.cellsOf e)).bind (DataW.trod enc P w 0 (fun _ => true) true fuel e) with
          | none => rw [hes] at h; simp at h
          | some elems =>
            rw [hes] at h
            simp only [Option.bind_some, if_true] at h
            cases hrs : (List.range (cap - len)).mapM fun j => (w.cells? 0 (a.add ((len + j) * P.cellsOf e)) (P.cellsOf e)).bind (DataW.trod enc P w 0 (fun _ => true) true fuel e) with
            | none => rw [hrs] at h; simp at h
            | some rest =>
              clear h
              have hE : ∀ i, i < cap → ∃ xs, w.cells? 0 (a.add (i * P.cellsOf e)) (P.cellsOf e) = some xs ∧ ∃ d ps, DataW.trod enc P w 0 (fun _ => true) true fuel e xs = some (d, ps) := by
                intro i hi
                by_cases hil : i < len
                · obtain ⟨y, h1, _⟩ := (mapM_some hes).2 i i (by simp [hil])
                  cases hx : w.cells? 0 (a.add (i * P.cellsOf e)) (P.cellsOf e) with
                  | none => rw [hx] at h1; simp at h1
                  | some xs => rw [hx] at h1; exact ⟨xs, rfl, y.1, y.2, h1⟩
                · obtain ⟨y, h1, _⟩ := (mapM_some hrs).2 (i - len) (i - len) (by rw [List.getElem?_range (by omega)])
                  rw [show len + (i - len) = i by omega] at h1
                  cases hx : w.cells? 0 (a.add (i * P.cellsOf e)) (P.cellsOf e) with
                  | none => rw [hx] at h1; simp at h1
                  | some xs => rw [hx] at h1; exact ⟨xs, rfl, y.1, y.2, h1⟩
              exact got_slice hr ho hu hp1 hp2 hlc hcm (fun x μ H r o => got k e hp3 fuel x.1 _ _ x.2.choose_spec.choose_spec μ H r o) hE
        · simp at h
    · rename_i fs hu
      simp only [Bool.and_eq_true, List.all_eq_true] at hp
      obtain ⟨hp1, hp2⟩ := hp
      simp only [hu] at h
      split at h
      · rename_i hlen
        cases hm : fs.toList.mapM fun f => DataW.trod enc P w 0 (fun _ => true) true fuel f.type ((cs.drop f.offset).take (P.cellsOf f.type)) with
        | none => rw [hm] at h; simp at h
        | some xs =>
          clear h
          obtain ⟨_, hm2⟩ := mapM_some hm
          obtain ⟨las, hl, hq⟩ := build_list (A := {p : Field × List Value // plainT P k p.1.type = true ∧ ∃ d ps, DataW.trod enc P w 0 (fun _ => true) true fuel p.1.type p.2 = some (d, ps)}) fs.toList.length
            (Q := fun i x => fs.toList[i]? = some x.1.1 ∧ x.1.2 = (cs.drop x.1.1.offset).take (P.cellsOf x.1.1.type)) fun i hi => by
              have hf : fs.toList[i]? = some fs.toList[i] := List.getElem?_eq_getElem hi
              obtain ⟨y, h1, _⟩ := hm2 i _ hf
              exact ⟨⟨(fs.toList[i], (cs.drop fs.toList[i].offset).take (P.cellsOf fs.toList[i].type)), hp2 _ (List.getElem_mem hi), y.1, y.2, h1⟩, hf, rfl⟩
          obtain ⟨μ1, H1, vss, g1, r1, o1, l1, v1, n1, t1⟩ := got_list (P := P) (fuel := k) (w := w) (w0 := w0) (B := B) (fun x => x.1.1.type) (fun x => x.1.2) (fun x μ H r o => got k x.1.1.type x.2.1 fuel x.1.2 _ _ x.2.2.choose_spec.choose_spec μ H r o) las μ H hr ho
          have hlen' : vss.length = fs.toList.length := by rw [l1, hl]
          have hget : ∀ (i : Nat) (f : Field) (u : List V), fs.toList[i]? = some f → vss[i]? = some u → u.length = P.cellsOf f.type ∧ WT P k f.type u H1 := by
            intro i f u h1 h2
            have hi : i < las.length := by rw [hl]; exact (List.getElem?_eq_some_iff.mp h1).1
            have ha := List.getElem?_eq_getElem hi
            have hq1 := hq i _ ha
            have := t1 i _ u ha h2
            rw [h1] at hq1
            have hff : f = las[i].1.1 := by simpa using hq1.1
            rw [hff]; exact this
          obtain ⟨q1, q2, q3⟩ := tiles_chunk hp1 hlen' fun i f u h1 h2 => (hget i f u h1 h2).1
          have hcs : (las.map fun x => x.1.2).flatten = cs := by
            have he : (las.map fun x => x.1.2) = fs.toList.map fun f => (cs.drop f.offset).take (P.cellsOf f.type) := by
              apply List.ext_getElem?
              intro i
              simp only [List.getElem?_map]
              cases ha : las[i]? with
              | none =>
                have : fs.toList[i]? = none := by rw [List.getElem?_eq_none_iff] at ha ⊢; omega
                rw [this]; rfl
              | some x =>
                obtain ⟨h1, h2⟩ := hq i x ha
                rw [h1]; simp [h2]
            rw [he, (tiles_whole hlen hp1).2]; rfl
          rw [hcs] at v1
          refine ⟨μ1, H1, vss.flatten, g1, r1, o1, v1, n1, by simpa using q2, ?_⟩
          unfold WT
          simp only [hu]
          refine ⟨by simpa using q2, fun f hf => ?_⟩
          obtain ⟨i, hi, rfl⟩ := List.getElem_of_mem hf
          have h1 : fs.toList[i]? = some fs.toList[i] := List.getElem?_eq_getElem hi
          have h2 : vss[i]? = some vss[i] := List.getElem?_eq_getElem (by omega)
          have := (q3 i _ _ h1 h2).2
          simp only [Nat.sub_zero] at this
          rw [this]
          exact (hget i _ _ h1 h2).2
      · simp at h
    · rename_i n e hu
      simp only [Bool.and_eq_true, decide_eq_true_eq] at hp
      obtain ⟨hp1, hp2⟩ := hp
      simp only [hu] at h
      split at h
      · rename_i hlen
        cases hm : (List.range n).mapM fun i => DataW.trod enc P w 0 (fun _ => true) true fuel e ((cs.drop (i * P.cellsOf e)).take (P.cellsOf e)) with
        | none => rw [hm] at h; simp at h
        | some xs =>
          clear h
          obtain ⟨_, hm2⟩ := mapM_some hm
          obtain ⟨las, hl, hq⟩ := build_list (A := {p : List Value // ∃ d ps, DataW.trod enc P w 0 (fun _ => true) true fuel e p = some (d, ps)}) n
            (Q := fun i x => x.1 = (cs.drop (i * P.cellsOf e)).take (P.cellsOf e)) fun i hi => by
              obtain ⟨y, h1, _⟩ := hm2 i i (by simp [hi])
              exact ⟨⟨_, y.1, y.2, h1⟩, rfl⟩
          obtain ⟨μ1, H1, vss, g1, r1, o1, l1, v1, n1, t1⟩ := got_list (P := P) (fuel := k) (w := w) (w0 := w0) (B := B) (fun _ => e) (fun x => x.1) (fun x μ H r o => got k e hp2 fuel x.1 _ _ x.2.choose_spec.choose_spec μ H r o) las μ H hr ho
          have hget : ∀ (i : Nat) (u : List V), vss[i]? = some u → u.length = P.cellsOf e ∧ WT P k e u H1 := by
            intro i u h2
            have hi : i < las.length := by rw [← l1]; exact (List.getElem?_eq_some_iff.mp h2).1
            exact t1 i _ u (List.getElem?_eq_getElem hi) h2
          have hcs : (las.map fun x => x.1).flatten = cs := by
            have := chunk_whole (cs := cs) (k := P.cellsOf e) (xss := las.map fun x => x.1) (off := 0) (by simp [hl, hp1, hlen]) fun i u hi => by
              rw [List.getElem?_map] at hi
              cases ha : las[i]? with
              | none => rw [ha] at hi; simp at hi
              | some x => rw [ha] at hi; simp at hi; rw [← hi, hq i x ha]; simp
            simpa using this
          rw [hcs] at v1
          have hfl := flatten_len fun i u hi => (hget i u hi).1
          rw [l1, hl, hp1] at hfl
          refine ⟨μ1, H1, vss.flatten, g1, r1, o1, v1, n1, hfl, ?_⟩
          unfold WT
          simp only [hu]
          refine ⟨hfl, fun i hi => ?_⟩
          have h2 : vss[i]? = some vss[i] := List.getElem?_eq_getElem (by omega)
          rw [flatten_chunk (fun i u hi => (hget i u hi).1) h2]
          exact (hget i _ h2).2
      · simp at h
    · simp at hp
end
end Go.AM
end
section
set_option linter.unusedVariables false
set_option linter.unusedSimpArgs false
set_option linter.unusedSimpArgs false
namespace Go.AM
open Go.RowKit (Below)
def argV (P : Program) (t : TypeId) (vs : List V) : V := match P.underlying t with
  | some (.struct _) | some (.array _ _) => .agg vs
  | _ => vs.headD .dead
def WTs (P : Program) (k : Nat) (H : Heap) : List TypeId → List V → Prop
  | [], vs => vs = []
  | t :: ts, vs => ∃ cs us, vs = argV P t cs :: us ∧ WT P k t cs H ∧ WTs P k H ts us
theorem WTs.mono {P : Program} {k : Nat} {H H' : Heap} (hn : H.n ≤ H'.n) (hg : ∀ i, i < H.n → H'.get i = H.get i) : ∀ (ts : List TypeId) (vs : List V), WTs P k H ts vs → WTs P k H' ts vs
  | [], _, h => h
  | t :: ts, vs, ⟨cs, us, e, h, r⟩ => ⟨cs, us, e, WT.mono hn hg k t cs h, WTs.mono hn hg ts us r⟩
section
variable {P : Program} {B : Nat} {w0 w : World} {μ : Mu} {H : Heap} {T : Type} {enc : TypeId × Value → T}
theorem argV_rel {k b : Nat} {t : TypeId} {v : Value} {vs : List V} (h : VRels μ vs v.cells.toList) (hv : Value.okWide P w .any b t v) (hp : plainT P k t = true) : VRel μ (argV P t vs) v := by
  unfold argV
  cases k with
  | zero => simp [plainT] at hp
  | succ k =>
    unfold plainT at hp
    have key : ∀ x, v = x → x.cells = #[x] → VRel μ (vs.headD .dead) v := by
      intro x e1 e2
      subst e1
      rw [e2] at h
      cases vs with
      | nil => simp [VRel]
      | cons u us =>
        simp only [VRels] at h
        obtain ⟨y, ys, e, a, _⟩ := h
        simp at e
        rw [e.1]; exact a
    split at hp
    · rename_i hu; simp only [hu]
      obtain ⟨x, rfl⟩ := WideShapes.okWide_bool hu hv
      exact key _ rfl rfl
    · rename_i q hu; simp only [hu]
      obtain ⟨x, rfl⟩ := WideShapes.okWide_int hu hv
      exact key _ rfl rfl
    · rename_i hu; simp only [hu]
      obtain ⟨x, rfl⟩ := WideShapes.okWide_string hu hv
      exact key _ rfl rfl
    · rename_i e hu; simp only [hu]
      obtain ⟨a, l, c, rfl⟩ := WideShapes.okWide_slice hu hv
      exact key _ rfl rfl
    · rename_i fs hu
      simp only [hu]
      unfold Value.okWide at hv
      simp only [hu] at hv
      obtain ⟨cs, rfl, _⟩ := hv
      simp only [VRel]
      exact ⟨cs, rfl, by simpa [Value.cells] using h⟩
    · rename_i n e hu
      simp only [hu]
      unfold Value.okWide at hv
      simp only [hu] at hv
      obtain ⟨cs, rfl, _⟩ := hv
      simp only [VRel]
      exact ⟨cs, rfl, by simpa [Value.cells] using h⟩
    · cases hp
theorem got_all {k : Nat} : ∀ (ts : List TypeId) (vs : List Value) (ds : List (DataW T)) (ps : List MemPlace) (μ : Mu) (H : Heap),
    ts.all (fun t => plainT P k t) = true → DataW.TrodAll enc P w 0 (fun _ => true) true ts vs ds ps → (∀ (j : Nat) t v, ts[j]? = some t → vs[j]? = some v → ∃ b, Value.okWide P w .any b t v) →
    Rel B w0 μ H w → (∀ j M, μ j = some M → (H.get j).own = false) →
    ∃ μ' H' us, Grows μ H μ' H' ∧ Rel B w0 μ' H' w ∧ (∀ j M, μ' j = some M → (H'.get j).own = false) ∧ VRels μ' us vs ∧ WTs P k H' ts us
  | [], vs, ds, ps, μ, H, _, h, _, hr, ho => by
    cases vs with
    | nil => exact ⟨μ, H, [], Grows.refl, hr, ho, rfl, rfl⟩
    | cons v vs => simp [DataW.TrodAll] at h
  | t :: ts, vs, ds, ps, μ, H, hp, h, hv, hr, ho => by
    cases vs with
    | nil => simp [DataW.TrodAll] at h
    | cons v vs =>
      cases ds with
      | nil => simp [DataW.TrodAll] at h
      | cons d ds =>
        obtain ⟨p, q, ⟨fuel, h1⟩, h2, _⟩ := h
        simp only [List.all_cons, Bool.and_eq_true] at hp
        obtain ⟨μ1, H1, us, g1, r1, o1, v1, n1, l1, t1⟩ := got k t hp.1 fuel _ _ _ h1 μ H hr ho
        obtain ⟨μ2, H2, us2, g2, r2, o2, v2, t2⟩ := got_all ts vs ds q μ1 H1 hp.2 h2 (fun j t v a b => hv (j + 1) t v (by simpa using a) (by simpa using b)) r1 o1
        obtain ⟨b, hw⟩ := hv 0 t v (by simp) (by simp)
        refine ⟨μ2, H2, argV P t us :: us2, g1.trans g2, r2, o2, ?_, us, us2, rfl, WT.mono g2.n g2.get _ _ _ t1, t2⟩
        simp only [VRels]
        exact ⟨v, vs, rfl, VRel.mono g2.le _ _ (argV_rel v1 hw hp.1), v2⟩
theorem Rel.start (w : World) : Rel w.heap.size w ⟨fun _ => none, fun _ => none⟩ ⟨0, .nil⟩ w :=
  ⟨Below.refl _ _, Nat.le_refl _, fun i L h => (by cases h), fun i L h => (by cases h), fun i j L M h => (by cases h), fun i _ => by simp [Heap.get, T.get], fun b vs h => (by cases h), fun b vs h => (by cases h), fun i L h => (by cases h)⟩
theorem law_calls {C : Cfg} (ok : C.Ok) {f : FuncId} {k : Nat} {ts : List TypeId} {args : Array Value} {ds : List (DataW T)} {ps : List MemPlace} {W : World}
    (hp : ts.all (fun t => plainT C.P k t) = true) (hA : DataW.TrodAll enc C.P W 0 (fun _ => true) true ts args.toList ds ps)
    (hv : ∀ (j : Nat) t v, ts[j]? = some t → args.toList[j]? = some v → ∃ b, Value.okWide C.P W .any b t v)
    (hent : (callFunc f args).run C.P W = .ok (.enter f args) W)
    (hlaw : ∀ (H : Heap) (us : List V), WTs C.P k H ts us → ∃ n H', callA C n f us H = some (.bool true, H')) (hy : f < yB := by decide) :
    Calls C.P f args W (fun e W' => e = .returned (.bool true) ∧ Below W.heap.size W W') := by
  obtain ⟨μ, H, us, _, hr, _, hvs, hwt⟩ := got_all (P := C.P) (B := W.heap.size) (w0 := W) (w := W) ts args.toList ds ps _ _ hp hA hv (Rel.start W) (by intro j M h; cases h)
  obtain ⟨n, H', hc⟩ := hlaw H us hwt
  have := (callA_sound ok n f us H _ H' hc W.heap.size 0 W W μ args hr (Nat.zero_le _) hvs).1 hy
  rw [hent] at this
  simp only [Gives] at this
  refine this.mono fun e w' ⟨x, he, μ', s, hx⟩ => ?_
  simp only [VRel] at hx
  subst hx
  exact ⟨he, s.rel.below⟩
end
end Go.AM
end
section
set_option linter.unusedVariables false
set_option linter.unusedSimpArgs false
set_option linter.unusedSimpArgs false
set_option linter.unusedVariables false
namespace Go.AM
open Go.RowKit (Below)
def FT (P : Program) : Nat → TypeId → List V → Prop
  | 0, _, _ => False
  | fuel + 1, t, cs => match P.underlying t with
    | some .bool => ∃ b, cs = [.bool b]
    | some (.int k) => ∃ n, cs = [.int k n] ∧ (Lit.int k n).wf = true
    | some .string => ∃ s : List UInt8, cs = [.str s] ∧ s.length ≤ maxLen
    | some (.slice e) => ∃ len z xs, cs = [.list len z xs] ∧ len ≤ maxLen ∧ (len = 0 → z = 0 ∧ xs = []) ∧ (len ≠ 0 → z = P.cellsOf e) ∧ xs.length = len * P.cellsOf e ∧ ∀ j, j < len → FT P fuel e ((xs.drop (j * P.cellsOf e)).take (P.cellsOf e))
    | some (.struct fs) => cs.length = P.cellsOf t ∧ ∀ f ∈ fs.toList, FT P fuel f.type ((cs.drop f.offset).take (P.cellsOf f.type))
    | some (.array n e) => cs.length = P.cellsOf t ∧ ∀ i, i < n → FT P fuel e ((cs.drop (i * P.cellsOf e)).take (P.cellsOf e))
    | _ => False
def sdep (P : Program) : Nat → TypeId → Nat
  | 0, _ => 0
  | fuel + 1, t => match P.underlying t with
    | some (.slice e) => sdep P fuel e + 1
    | some (.struct fs) => (fs.toList.map fun f => sdep P fuel f.type).foldr max 1
    | some (.array _ e) => max 1 (sdep P fuel e)
    | _ => 1
theorem frzL_app {f : V → Option (V × List Nat)} : ∀ {a b a' b' : List V} {i j : List Nat}, frzL f a = some (a', i) → frzL f b = some (b', j) → frzL f (a ++ b) = some (a' ++ b', i ++ j)
  | [], b, a', b', i, j, h1, h2 => by simp only [frzL, Option.some.injEq, Prod.mk.injEq] at h1; obtain ⟨rfl, rfl⟩ := h1; exact h2
  | v :: a, b, a', b', i, j, h1, h2 => by
    simp only [frzL] at h1
    cases hv : f v with
    | none => rw [hv] at h1; cases h1
    | some p =>
      rw [hv] at h1
      cases ha : frzL f a with
      | none => rw [ha] at h1; cases h1
      | some q =>
        rw [ha] at h1
        simp only [Option.some.injEq, Prod.mk.injEq] at h1
        obtain ⟨rfl, rfl⟩ := h1
        have := frzL_app (a := a) (b := b) ha h2
        simp only [List.cons_append, frzL, hv, this, List.append_assoc]
theorem frzL_flat {f : V → Option (V × List Nat)} {A : Type} (part : A → List V) (R : A → List V → Prop) : ∀ (l : List A), (∀ a ∈ l, ∃ u i, frzL f (part a) = some (u, i) ∧ R a u) →
    ∃ (us : List (List V)) (ids : List Nat), frzL f (l.map part).flatten = some (us.flatten, ids) ∧ us.length = l.length ∧ ∀ (i : Nat) (a : A) (u : List V), l[i]? = some a → us[i]? = some u → R a u
  | [], _ => ⟨[], [], rfl, rfl, fun i a u h => by simp at h⟩
  | a :: l, h => by
    obtain ⟨u, i, h1, h2⟩ := h a (by simp)
    obtain ⟨us, ids, k1, k2, k3⟩ := frzL_flat part R l fun b hb => h b (by simp [hb])
    refine ⟨u :: us, i ++ ids, ?_, by simp [k2], ?_⟩
    · simp only [List.map_cons, List.flatten_cons]; exact frzL_app h1 k1
    · intro j b w hb hw
      cases j with
      | zero => simp at hb hw; subst hb hw; exact h2
      | succ j => simp at hb hw; exact k3 j b w hb hw
theorem foldr_le {l : List Nat} {d : Nat} (h : l.foldr max 1 ≤ d) : 1 ≤ d ∧ ∀ x ∈ l, x ≤ d := by
  induction l with
  | nil => exact ⟨by simpa using h, fun x hx => by simp at hx⟩
  | cons y l ih =>
    simp only [List.foldr_cons] at h
    obtain ⟨a, b⟩ := ih (by omega)
    refine ⟨a, fun x hx => ?_⟩
    rcases List.mem_cons.1 hx with rfl | hx
    · omega
    · exact b x hx
section
variable {P : Program}
theorem FT.len : ∀ {k : Nat} {t : TypeId} {cs : List V}, plainT P k t = true → FT P k t cs → cs.length = P.cellsOf t
  | 0, t, cs, hp, h => by simp [plainT] at hp
  | k + 1, t, cs, hp, h => by
    unfold plainT at hp
    unfold FT at h
    split at h
    · rename_i hu; simp only [hu, decide_eq_true_eq] at hp; obtain ⟨b, rfl⟩ := h; simp [hp]
    · rename_i hu; simp only [hu, decide_eq_true_eq] at hp; obtain ⟨b, rfl, -⟩ := h; simp [hp]
    · rename_i hu; simp only [hu, decide_eq_true_eq] at hp; obtain ⟨b, rfl, -⟩ := h; simp [hp]
    · rename_i hu; simp only [hu, Bool.and_eq_true, decide_eq_true_eq] at hp; obtain ⟨a, b, c, rfl, -⟩ := h; simp [hp.1.1]
    · exact h.1
    · exact h.1
    · exact h.elim
theorem chunks_len {α : Type} {m n : Nat} {cs : List α} (h : cs.length = n * m) : ((List.range n).map fun i => (cs.drop (i * m)).take m).flatten = cs := by
  induction n generalizing cs with
  | zero => simp at h; simp [h]
  | succ n ih =>
    rw [List.range_succ_eq_map, List.map_cons, List.flatten_cons, List.map_map]
    have e : ((fun i => (cs.drop (i * m)).take m) ∘ Nat.succ) = fun i => ((cs.drop m).drop (i * m)).take m := by
      funext i
      simp only [Function.comp, List.drop_drop]
      rw [show m + i * m = i.succ * m by rw [Nat.succ_mul]; omega]
    rw [e, ih (by rw [List.length_drop, h, Nat.succ_mul]; omega)]
    simp
theorem WT.frz {H : Heap} : ∀ {k : Nat} {t : TypeId} {cs : List V} {d : Nat}, plainT P k t = true → WT P k t cs H → sdep P k t ≤ d → ∃ us ids, frzL (frzV H d) cs = some (us, ids) ∧ FT P k t us
  | 0, t, cs, d, hp, h, hd => by simp [plainT] at hp
  | k + 1, t, cs, d, hp, h, hd => by
    unfold plainT at hp
    unfold WT at h
    unfold sdep at hd
    split at h
    · rename_i hu
      simp only [hu] at hd
      obtain ⟨b, rfl⟩ := h
      obtain ⟨d', rfl⟩ : ∃ d', d = d' + 1 := ⟨d - 1, by omega⟩
      exact ⟨_, [], frzL_fro1 rfl, by unfold FT; simp only [hu]; exact ⟨b, rfl⟩⟩
    · rename_i q hu
      simp only [hu] at hd
      obtain ⟨b, rfl, w⟩ := h
      obtain ⟨d', rfl⟩ : ∃ d', d = d' + 1 := ⟨d - 1, by omega⟩
      exact ⟨_, [], frzL_fro1 rfl, by unfold FT; simp only [hu]; exact ⟨b, rfl, w⟩⟩
    · rename_i hu
      simp only [hu] at hd
      obtain ⟨b, rfl, w⟩ := h
      obtain ⟨d', rfl⟩ : ∃ d', d = d' + 1 := ⟨d - 1, by omega⟩
      exact ⟨_, [], frzL_fro1 rfl, by unfold FT; simp only [hu]; exact ⟨b, rfl, w⟩⟩
    · rename_i e hu
      simp only [hu] at hd hp
      simp only [Bool.and_eq_true, decide_eq_true_eq] at hp
      obtain ⟨d', rfl⟩ : ∃ d', d = d' + 1 := ⟨d - 1, by omega⟩
      have hnil : ∀ (s : Sl), s.len = 0 → frzL (frzV H (d' + 1)) [.slice s] = some ([.list 0 0 []], []) := by
        intro s hs
        simp only [frzL, frzV, hs, if_true, List.append_nil]
      have hft : FT P (k + 1) t [.list 0 0 []] := by
        unfold FT; simp only [hu]
        exact ⟨0, 0, [], rfl, Nat.zero_le _, fun _ => ⟨rfl, rfl⟩, fun h => (h rfl).elim, by simp, fun j hj => by omega⟩
      rcases h with rfl | ⟨i, len, full, rfl, h1, h2, h3⟩
      · exact ⟨_, _, hnil _ rfl, hft⟩
      · by_cases h0 : len = 0
        · subst h0; exact ⟨_, _, hnil _ rfl, hft⟩
        · obtain ⟨el, xs, g, hl, hx⟩ := h3 h0
          have := frzL_flat (f := frzV H d') (fun i => (xs.drop (i * P.cellsOf e)).take (P.cellsOf e)) (fun _ u => FT P k e u) (List.range len) fun j hj => by
            obtain ⟨us, ids, a, b⟩ := WT.frz (d := d') hp.2 (hx j (List.mem_range.1 hj)) (by omega)
            exact ⟨us, ids, a, b⟩
          obtain ⟨us, ids, a1, a2, a3⟩ := this
          rw [chunks_len hl] at a1
          rw [List.length_range] at a2
          have hul : ∀ (i : Nat) (u : List V), us[i]? = some u → u.length = P.cellsOf e := by
            intro i u hi
            have hi2 : i < us.length := by
              rcases Nat.lt_or_ge i us.length with h | h
              · exact h
              · rw [List.getElem?_eq_none h] at hi; cases hi
            exact FT.len hp.2 (a3 i i u (by simp [List.getElem?_range (show i < len by omega)]) hi)
          refine ⟨[.list len (P.cellsOf e) us.flatten], i :: ids, ?_, ?_⟩
          · have ht : (xs.drop 0).take (len * P.cellsOf e) = xs := by rw [List.drop_zero, ← hl, List.take_length]
            have hf : frzV H (d' + 1) (.slice ⟨some (i, 0), len, P.cellsOf e, full⟩) = some (.list len (P.cellsOf e) us.flatten, i :: ids) := by
              unfold frzV
              simp only [if_neg h0, g, ht, a1, Nat.zero_add]
              rw [if_pos (by omega)]
            simp only [frzL, hf, List.append_nil]
          · unfold FT; simp only [hu]
            refine ⟨len, _, _, rfl, h2, fun h => (h0 h).elim, fun _ => rfl, by rw [flatten_len hul, a2], fun j hj => ?_⟩
            have hj2 : j < us.length := by omega
            have hg : us[j]? = some us[j] := by simp [hj2]
            rw [flatten_chunk hul hg]
            exact a3 j j us[j] (by simp [List.getElem?_range (show j < len by omega)]) hg
    · rename_i fs hu
      simp only [hu] at hd hp
      simp only [Bool.and_eq_true, List.all_eq_true] at hp
      obtain ⟨hd1, hd2⟩ := foldr_le hd
      obtain ⟨h1, h2⟩ := h
      have hw := (tiles_whole h1 hp.1).2
      rw [List.drop_zero] at hw
      have := frzL_flat (f := frzV H d) (fun f : Field => (cs.drop f.offset).take (P.cellsOf f.type)) (fun f u => FT P k f.type u) fs.toList fun f hf => by
        obtain ⟨us, ids, a, b⟩ := WT.frz (d := d) (hp.2 f hf) (h2 f hf) (hd2 _ (List.mem_map.2 ⟨f, hf, rfl⟩))
        exact ⟨us, ids, a, b⟩
      obtain ⟨us, ids, a1, a2, a3⟩ := this
      rw [hw] at a1
      have hs : ∀ (i : Nat) (f : Field) (u : List V), fs.toList[i]? = some f → us[i]? = some u → u.length = P.cellsOf f.type := fun i f u x y => FT.len (hp.2 f (List.mem_of_getElem? x)) (a3 i f u x y)
      obtain ⟨_, t2, t3⟩ := tiles_chunk hp.1 a2 hs
      refine ⟨us.flatten, ids, a1, ?_⟩
      unfold FT; simp only [hu]
      refine ⟨by rw [t2]; simp, fun f hf => ?_⟩
      obtain ⟨i, hi⟩ := List.getElem?_of_mem hf
      have hi2 : i < us.length := by
        rw [a2]
        rcases Nat.lt_or_ge i fs.toList.length with h | h
        · exact h
        · rw [List.getElem?_eq_none h] at hi; cases hi
      have hg : us[i]? = some us[i] := by simp [hi2]
      have := (t3 i f us[i] hi hg).2
      rw [Nat.sub_zero] at this
      rw [this]
      exact a3 i f us[i] hi hg
    · rename_i n e hu
      simp only [hu] at hd hp
      simp only [Bool.and_eq_true, decide_eq_true_eq] at hp
      obtain ⟨h1, h2⟩ := h
      have := frzL_flat (f := frzV H d) (fun i => (cs.drop (i * P.cellsOf e)).take (P.cellsOf e)) (fun _ u => FT P k e u) (List.range n) fun j hj => by
        obtain ⟨us, ids, a, b⟩ := WT.frz (d := d) hp.2 (h2 j (List.mem_range.1 hj)) (by omega)
        exact ⟨us, ids, a, b⟩
      obtain ⟨us, ids, a1, a2, a3⟩ := this
      rw [chunks_len (by rw [h1, hp.1])] at a1
      rw [List.length_range] at a2
      have hul : ∀ (i : Nat) (u : List V), us[i]? = some u → u.length = P.cellsOf e := by
        intro i u hi
        have hi2 : i < us.length := by
          rcases Nat.lt_or_ge i us.length with h | h
          · exact h
          · rw [List.getElem?_eq_none h] at hi; cases hi
        exact FT.len hp.2 (a3 i i u (by simp [List.getElem?_range (show i < n by omega)]) hi)
      refine ⟨us.flatten, ids, a1, ?_⟩
      unfold FT; simp only [hu]
      refine ⟨by rw [flatten_len hul, a2, hp.1], fun j hj => ?_⟩
      have hg : us[j]? = some us[j] := by simp [show j < us.length by omega]
      rw [flatten_chunk hul hg]
      exact a3 j j us[j] (by simp [List.getElem?_range (show j < n by omega)]) hg
    · exact h.elim
theorem frees_app {a b : List V} : V.frees (a ++ b) = (V.frees a && V.frees b) := by
  induction a with
  | nil => simp [V.frees]
  | cons x a ih => simp [V.frees, ih, Bool.and_assoc]
theorem chunks_all {α : Type} {p : List α → Prop} (hn : p []) (hadd : ∀ a b, p a → p b → p (a ++ b)) {n m : Nat} {cs : List α} (h : cs.length = n * m) (hc : ∀ j, j < n → p ((cs.drop (j * m)).take m)) : p cs := by
  have : ∀ l : List (List α), (∀ x ∈ l, p x) → p l.flatten := by
    intro l
    induction l with
    | nil => intro _; exact hn
    | cons x l ih => intro hx; simp only [List.flatten_cons]; exact hadd _ _ (hx x (by simp)) (ih fun y hy => hx y (by simp [hy]))
  rw [← chunks_len h]
  refine this _ fun x hx => ?_
  obtain ⟨j, hj, rfl⟩ := List.mem_map.1 hx
  exact hc j (List.mem_range.1 hj)
theorem FT.fro : ∀ {k : Nat} {t : TypeId} {cs : List V}, plainT P k t = true → FT P k t cs → cs.all V.fro1 = true ∧ V.frees cs = true
  | 0, t, cs, hp, h => by simp [plainT] at hp
  | k + 1, t, cs, hp, h => by
    have add : ∀ a b : List V, (a.all V.fro1 = true ∧ V.frees a = true) → (b.all V.fro1 = true ∧ V.frees b = true) → ((a ++ b).all V.fro1 = true ∧ V.frees (a ++ b) = true) := by
      intro a b ⟨a1, a2⟩ ⟨b1, b2⟩
      exact ⟨by rw [List.all_append, a1, b1]; rfl, by rw [frees_app, a2, b2]; rfl⟩
    unfold plainT at hp
    unfold FT at h
    split at h
    · obtain ⟨b, rfl⟩ := h; exact ⟨rfl, rfl⟩
    · obtain ⟨b, rfl, -⟩ := h; exact ⟨rfl, rfl⟩
    · obtain ⟨b, rfl, -⟩ := h; exact ⟨rfl, rfl⟩
    · rename_i e hu
      simp only [hu, Bool.and_eq_true, decide_eq_true_eq] at hp
      obtain ⟨len, z, xs, rfl, -, -, -, h4, h5⟩ := h
      have := chunks_all (p := fun xs : List V => xs.all V.fro1 = true ∧ V.frees xs = true) ⟨rfl, rfl⟩ add h4 fun j hj => FT.fro hp.2 (h5 j hj)
      exact ⟨rfl, by simp only [V.frees, V.free, this.2, Bool.and_true]⟩
    · rename_i fs hu
      simp only [hu, Bool.and_eq_true, List.all_eq_true] at hp
      obtain ⟨h1, h2⟩ := h
      have hw := (tiles_whole h1 hp.1).2
      rw [List.drop_zero] at hw
      rw [← hw]
      have : ∀ l : List Field, (∀ f ∈ l, f ∈ fs.toList) → ((l.map fun f => (cs.drop f.offset).take (P.cellsOf f.type)).flatten.all V.fro1 = true ∧ V.frees (l.map fun f => (cs.drop f.offset).take (P.cellsOf f.type)).flatten = true) := by
        intro l
        induction l with
        | nil => intro _; exact ⟨rfl, rfl⟩
        | cons x l ih =>
          intro hx
          simp only [List.map_cons, List.flatten_cons]
          exact add _ _ (FT.fro (hp.2 x (hx x (by simp))) (h2 x (hx x (by simp)))) (ih fun y hy => hx y (by simp [hy]))
      exact this fs.toList fun f hf => hf
    · rename_i n e hu
      simp only [hu, Bool.and_eq_true, decide_eq_true_eq] at hp
      obtain ⟨h1, h2⟩ := h
      exact chunks_all (p := fun xs : List V => xs.all V.fro1 = true ∧ V.frees xs = true) ⟨rfl, rfl⟩ add (n := n) (m := P.cellsOf e) (by rw [h1, hp.1]) fun j hj => FT.fro hp.2 (h2 j hj)
    · exact h.elim
end
theorem enter_run {P : Program} {f : FuncId} {xs : Array Value} {w : World} (h : hasBody P f = true) : (callFunc f xs).run P w = .ok (.enter f xs) w := by
  unfold hasBody at h
  split at h
  · rename_i fn hfn
    simp only [Bool.and_eq_true, Bool.not_eq_true'] at h
    obtain ⟨h1, h2⟩ := h
    obtain ⟨c, hc⟩ := Option.isSome_iff_exists.1 h1
    have hne : ¬ fn.name = "runtime.NumGoroutine" := by simpa using h2
    simp [callFunc, hfn, hc, hne]
  · cases h
def FTs (P : Program) (k : Nat) : List TypeId → List V → Prop
  | [], vs => vs = []
  | t :: ts, vs => ∃ cs us, vs = argV P t cs :: us ∧ FT P k t cs ∧ FTs P k ts us
theorem argV_frz {P : Program} {k : Nat} {t : TypeId} {cs us : List V} {H : Heap} {ids : List Nat} (hp : plainT P k t = true) (hc : cs.length = P.cellsOf t) (h : frzL (frzV H 5) cs = some (us, ids)) (h6 : frzL (frzV H 6) cs = some (us, ids)) :
    ∃ ids, frzV H 6 (argV P t cs) = some (argV P t us, ids) := by
  have one : P.cellsOf t = 1 → ∃ ids, frzV H 6 (cs.headD .dead) = some (us.headD .dead, ids) := by
    intro h1
    match cs, h1 ▸ hc with
    | [v], _ =>
      simp only [frzL] at h6
      cases hv : frzV H 6 v with
      | none => rw [hv] at h6; cases h6
      | some p =>
        rw [hv] at h6
        simp only [Option.some.injEq, Prod.mk.injEq] at h6
        obtain ⟨rfl, -⟩ := h6
        exact ⟨p.2, by simp [hv]⟩
  have agg : ∃ ids, frzV H 6 (.agg cs) = some (.agg us, ids) := ⟨ids, by unfold frzV; simp only [h]⟩
  unfold argV
  cases k with
  | zero => simp [plainT] at hp
  | succ k =>
    unfold plainT at hp
    split at hp
    · rename_i hu; simp only [hu]; exact one (by simpa using hp)
    · rename_i hu; simp only [hu]; exact one (by simpa using hp)
    · rename_i hu; simp only [hu]; exact one (by simpa using hp)
    · rename_i e hu; simp only [hu]; simp only [Bool.and_eq_true, decide_eq_true_eq] at hp; exact one hp.1.1
    · rename_i fs hu; simp only [hu]; exact agg
    · rename_i fs hu; simp only [hu]; exact agg
    · cases hp
theorem WT.len {P : Program} {H : Heap} {k : Nat} {t : TypeId} {cs : List V} (hp : plainT P k t = true) (h : WT P k t cs H) : cs.length = P.cellsOf t := by
  cases k with
  | zero => simp [plainT] at hp
  | succ k =>
    unfold plainT at hp
    unfold WT at h
    split at h
    · rename_i hu; simp only [hu, decide_eq_true_eq] at hp; obtain ⟨b, rfl⟩ := h; simp [hp]
    · rename_i hu; simp only [hu, decide_eq_true_eq] at hp; obtain ⟨b, rfl, -⟩ := h; simp [hp]
    · rename_i hu; simp only [hu, decide_eq_true_eq] at hp; obtain ⟨b, rfl, -⟩ := h; simp [hp]
    · rename_i hu; simp only [hu, Bool.and_eq_true, decide_eq_true_eq] at hp
      rcases h with rfl | ⟨i, len, full, rfl, -⟩ <;> simp [hp.1.1]
    · exact h.1
    · exact h.1
    · exact h.elim
theorem frzL_more {H : Heap} : ∀ (d : Nat), (∀ v r, frzV H d v = some r → frzV H (d + 1) v = some r) := by
  intro d
  induction d with
  | zero => intro v r h; simp [frzV] at h
  | succ d ih =>
    have hl : ∀ cs r, frzL (frzV H d) cs = some r → frzL (frzV H (d + 1)) cs = some r := by
      intro cs
      induction cs with
      | nil => intro r h; exact h
      | cons v cs ihc =>
        intro r h
        simp only [frzL] at h ⊢
        cases hv : frzV H d v with
        | none => rw [hv] at h; cases h
        | some p =>
          rw [hv] at h
          cases hc : frzL (frzV H d) cs with
          | none => rw [hc] at h; cases h
          | some q =>
            rw [hc] at h
            rw [ih _ _ hv, ihc _ hc]
            exact h
    intro v r h
    unfold frzV at h ⊢
    split at h
    · rename_i s
      split at h
      · rename_i h0; rw [if_pos h0]; exact h
      · rename_i h0
        rw [if_neg h0]
        split at h
        · cases h
        · rename_i i o had
          split at h
          · rename_i cs e r hg
            try simp only [had]
            try simp only [hg]
            split at h
            · rename_i hle
              rw [if_pos hle]
              split at h
              · rename_i p hp
                rw [hl _ _ hp]; exact h
              · cases h
            · cases h
          · cases h
    · split at h
      · rename_i p hp; rw [hl _ _ hp]; exact h
      · cases h
    · split at h
      · rename_i p hp; rw [hl _ _ hp]; exact h
      · cases h
    · exact h
theorem frzL_more1 {H : Heap} {d : Nat} : ∀ {cs : List V} {r : List V × List Nat}, frzL (frzV H d) cs = some r → frzL (frzV H (d + 1)) cs = some r
  | [], r, h => h
  | v :: cs, r, h => by
    simp only [frzL] at h ⊢
    cases hv : frzV H d v with
    | none => rw [hv] at h; cases h
    | some p =>
      rw [hv] at h
      cases hc : frzL (frzV H d) cs with
      | none => rw [hc] at h; cases h
      | some q =>
        rw [hc] at h
        rw [frzL_more d _ _ hv, frzL_more1 hc]
        exact h
theorem argV_fro {P : Program} {k : Nat} {t : TypeId} {cs : List V} (hp : plainT P k t = true) (h : cs.all V.fro1 = true ∧ V.frees cs = true) (hc : cs.length = P.cellsOf t) : (argV P t cs).fro = true ∧ (argV P t cs).free = true := by
  have one : P.cellsOf t = 1 → (cs.headD .dead).fro = true ∧ (cs.headD .dead).free = true := by
    intro h1
    match cs, h1 ▸ hc with
    | [v], _ =>
      obtain ⟨a, b⟩ := h
      simp only [List.all_cons, List.all_nil, Bool.and_true] at a
      simp only [V.frees, Bool.and_true] at b
      refine ⟨?_, by simpa using b⟩
      cases v <;> simp_all [V.fro, V.fro1]
  have agg : (V.agg cs).fro = true ∧ (V.agg cs).free = true := ⟨by simpa [V.fro] using h.1, by simpa [V.free] using h.2⟩
  unfold argV
  cases k with
  | zero => simp [plainT] at hp
  | succ k =>
    unfold plainT at hp
    split at hp
    · rename_i hu; simp only [hu]; exact one (by simpa using hp)
    · rename_i hu; simp only [hu]; exact one (by simpa using hp)
    · rename_i hu; simp only [hu]; exact one (by simpa using hp)
    · rename_i e hu; simp only [hu]; simp only [Bool.and_eq_true, decide_eq_true_eq] at hp; exact one hp.1.1
    · rename_i fs hu; simp only [hu]; exact agg
    · rename_i fs hu; simp only [hu]; exact agg
    · cases hp
theorem WTs.frz {P : Program} {k : Nat} {H : Heap} : ∀ {ts : List TypeId} {us : List V}, ts.all (fun t => plainT P k t && decide (sdep P k t ≤ 5)) = true → WTs P k H ts us →
    ∃ us' ids, frzL (frzV H 6) us = some (us', ids) ∧ FTs P k ts us' ∧ us'.all V.fro = true ∧ V.frees us' = true
  | [], us, _, h => by cases h; exact ⟨[], [], rfl, rfl, rfl, rfl⟩
  | t :: ts, us, hp, ⟨cs, us2, e, h, r⟩ => by
    subst e
    simp only [List.all_cons, Bool.and_eq_true, decide_eq_true_eq] at hp
    obtain ⟨v, ids, a, b⟩ := WT.frz (d := 5) hp.1.1 h hp.1.2
    obtain ⟨vs, ids2, c1, c2, c3, c4⟩ := WTs.frz (ts := ts) (by simpa using hp.2) r
    obtain ⟨ids3, e3⟩ := argV_frz hp.1.1 (WT.len hp.1.1 h) a (frzL_more1 a)
    have f1 := argV_fro hp.1.1 (FT.fro hp.1.1 b) (FT.len hp.1.1 b)
    refine ⟨argV P t v :: vs, ids3 ++ ids2, by simp only [frzL, e3, c1], ⟨_, _, rfl, b, c2⟩, by simp only [List.all_cons, f1.1, c3, Bool.and_self], by simp only [V.frees, f1.2, c4, Bool.and_self]⟩
theorem law_pure {f : Nat → List V → Heap → Option R} {kk : Nat → List V → Option R} (he : ∀ n a H, f (n + 1) a H = pureA a H (kk n)) {P : Program} {k : Nat} {ts : List TypeId} (hp : ts.all (fun t => plainT P k t && decide (sdep P k t ≤ 5)) = true)
    (hlaw : ∀ (H : Heap) (us : List V), FTs P k ts us → us.all V.fro = true → V.frees us = true → Tot (fun n => f n us H) fun v _ => v = .bool true) {H : Heap} {us : List V} (h : WTs P k H ts us) : ∃ n H', f n us H = some (.bool true, H') := by
  obtain ⟨us', ids, h1, h2, h3, h4⟩ := WTs.frz hp h
  obtain ⟨v, G, rfl, n0, hn⟩ := hlaw (killL ids H) us' h2 h3 h4
  refine ⟨n0 + 1, G, ?_⟩
  have := hn (n0 + 1) (by omega)
  simp only [he] at this ⊢
  unfold pureA at this ⊢
  rw [frzAs_fro h3] at this
  have e : frzAs us H = some (us', killL ids H) := by unfold frzAs; rw [h1]
  rw [e]
  exact this
end Go.AM
end
section
set_option linter.unusedVariables false
set_option linter.unusedSimpArgs false
set_option linter.unusedSimpArgs false
set_option linter.unusedVariables false
set_option maxRecDepth 100000
namespace Go.AM
abbrev Gv (f : Nat → Option R) (u : V) (H : Heap) : Prop := Tot f fun v H' => H' = H ∧ v = u
theorem Gv.bind {f : Nat → Option R} {u : V} {H : Heap} {k : Nat → R → Option R} {Q : V → Heap → Prop} (hf : Gv f u H) (hk : Tot (fun n => k n (u, H)) Q) : Tot (fun n => bnd (f n) (k n)) Q :=
  Tot.bind hf fun v H' ⟨h1, h2⟩ => by subst h1 h2; exact hk
abbrev iv (n : Int) : V := .int .i64 n
abbrev rep (b : UInt8) (k : Nat) : V := .str (List.replicate k b)
theorem indexByte_rep {b : UInt8} {k : Nat} : Lib.indexByte (List.replicate (k + 1) b) b = 0 := by
  rw [List.replicate_succ]; unfold Lib.indexByte; simp
theorem countByte_rep {b : UInt8} {k : Nat} : Lib.countByte (List.replicate k b) b = k := by
  unfold Lib.countByte; exact List.count_replicate_self
theorem countByte_other {b c : UInt8} {k : Nat} (h : c ≠ b) : Lib.countByte (List.replicate k b) c = 0 := by
  unfold Lib.countByte; rw [List.count_replicate, if_neg]; simpa using fun e => h e.symm
namespace N
variable {H : Heap}
theorem bT : asB (.bool true) = some true := rfl
theorem bF : asB (.bool false) = some false := rfl
theorem lss_P {a b : Int} : arA .lss (iv a) (iv b) = some (.bool (decide (a < b))) := rfl
theorem gtr_P {a b : Int} : arA .gtr (iv a) (iv b) = some (.bool (decide (a > b))) := rfl
theorem geq_P {a b : Int} : arA .geq (iv a) (iv b) = some (.bool (decide (a ≥ b))) := rfl
theorem eql_P {a b : Int} : arA .eql (iv a) (iv b) = some (.bool (decide (a = b))) := rfl
theorem lssN {a b : Nat} : arA .lss (iv (a : Int)) (iv (b : Int)) = some (.bool (decide (a < b))) := by
  rw [lss_P]; congr 2; exact decide_eq_decide.2 (by omega)
theorem incN {a : Nat} (h : a < 4000000000) : arA .add (iv (a : Int)) (iv 1) = some (iv ((a + 1 : Nat) : Int)) := by
  simp (disch := omega) []
theorem decN {a : Nat} (h : a < 4000000000) : arA .sub (iv ((a + 1 : Nat) : Int)) (iv 1) = some (iv (a : Int)) := by
  simp (disch := omega) []
theorem eqS {a b : List UInt8} : arA .eql (.str a) (.str b) = some (.bool (decide (a = b))) := by
  have e : (a == b) = decide (a = b) := by by_cases h : a = b <;> simp [h]
  simp [arA, strA, e]
theorem len_rep {b : UInt8} {k : Nat} : lenStr (rep b k) = some (iv (k : Int)) := by simp [lenStr]
theorem ix_rep {b : UInt8} {i k : Nat} (h : i < k) : ixStr (rep b k) (iv (i : Int)) = some (.int .u8 b.toNat) := by
  simp [ixStr, h]
theorem sl_lo {b : UInt8} {i k : Nat} (h : i ≤ k) : slStr (rep b k) (some (iv (i : Int))) none = some (rep b (k - i)) := by
  simp [slStr, bndA, h]
theorem sl_hi {b : UInt8} {i k : Nat} (h : i ≤ k) : slStr (rep b k) none (some (iv (i : Int))) = some (rep b i) := by
  simp [slStr, bndA, h]
theorem rep1 {b : UInt8} : rep b 1 = .str [b] := rfl
theorem rep0 {b : UInt8} : rep b 0 = .str [] := rfl
theorem cnt_P {s : List UInt8} {c : UInt8} : Gv (fun n => f_internal_bytealg_CountString n [.str s, .int .u8 c.toNat] H) (iv (Lib.countByte s c : Nat)) H :=
  internal_bytealg_CountString_ext ⟨_, _, ⟨rfl, rfl⟩, 0, fun n _ => by simp [extCnt]⟩
theorem idx_P {s : List UInt8} {c : UInt8} : Gv (fun n => f_internal_bytealg_IndexByteString n [.str s, .int .u8 c.toNat] H) (iv (Lib.indexByte s c)) H :=
  internal_bytealg_IndexByteString_ext ⟨_, _, ⟨rfl, rfl⟩, 0, fun n _ => by simp [extIdx]⟩
theorem IndexByte_P {s : List UInt8} {c : UInt8} : Gv (fun n => f_internal_stringslite_IndexByte n [.str s, .int .u8 c.toNat] H) (iv (Lib.indexByte s c)) H := by
  refine internal_stringslite_IndexByte_tot ?_
  simp only [internal_stringslite_IndexByte_b]
  refine Gv.bind idx_P ?_
  exact Tot.ret ⟨rfl, rfl⟩
theorem Index_P {b : UInt8} {k : Nat} : Gv (fun n => f_strings_Index n [rep b (k + 1), .str [b]] H) (iv 0) H := by
  refine strings_Index_tot ?_
  simp only [strings_Index_b]
  refine Gv.bind (u := iv 0) ?_ (Tot.ret ⟨rfl, rfl⟩)
  refine internal_stringslite_Index_tot ?_
  simp only [internal_stringslite_Index_b]
  refine Tot.pure (show lenStr (.str [b]) = some (iv 1) from rfl) ?_
  refine Tot.pure (show arA .eql (iv 1) (iv 0) = some (.bool false) from rfl) ?_
  refine Tot.pure bF ?_
  simp only [Bool.false_eq_true, if_false]
  refine Tot.pure eqS ?_
  by_cases h : [b] = List.replicate (k + 1) b
  · rw [decide_eq_true h]
    refine Tot.pure bT ?_
    simp only [if_true]
    exact Tot.ret ⟨rfl, rfl⟩
  · rw [decide_eq_false h]
    refine Tot.pure bF ?_
    simp only [Bool.false_eq_true, if_false]
    refine Tot.pure (show arA .eql (iv 1) (iv 1) = some (.bool true) from rfl) ?_
    refine Tot.pure bT ?_
    simp only [if_true]
    refine Tot.pure (show ixStr (.str [b]) (iv 0) = some (.int .u8 b.toNat) from rfl) ?_
    refine Gv.bind IndexByte_P ?_
    rw [indexByte_rep]
    exact Tot.ret ⟨rfl, rfl⟩
theorem Count_P {s : List UInt8} {b : UInt8} : Gv (fun n => f_strings_Count n [.str s, .str [b]] H) (iv (Lib.countByte s b : Nat)) H := by
  refine strings_Count_tot ?_
  simp only [strings_Count_b]
  refine Tot.pure (show lenStr (.str [b]) = some (iv 1) from rfl) ?_
  refine Tot.pure (show arA .eql (iv 1) (iv 0) = some (.bool false) from rfl) ?_
  refine Tot.pure bF ?_
  simp only [Bool.false_eq_true, if_false]
  refine Tot.pure (show lenStr (.str [b]) = some (iv 1) from rfl) ?_
  refine Tot.pure (show arA .eql (iv 1) (iv 1) = some (.bool true) from rfl) ?_
  refine Tot.pure bT ?_
  simp only [if_true]
  refine Tot.pure (show ixStr (.str [b]) (iv 0) = some (.int .u8 b.toNat) from rfl) ?_
  refine Gv.bind cnt_P ?_
  exact Tot.ret ⟨rfl, rfl⟩
theorem HasSuffix_P {a b : UInt8} {k : Nat} (hk : k < 3000000) : Gv (fun n => f_internal_stringslite_HasSuffix n [rep a (k + 1), .str [b]] H) (.bool (decide (a = b))) H := by
  refine internal_stringslite_HasSuffix_tot ?_
  simp only [internal_stringslite_HasSuffix_b]
  refine Tot.pure len_rep ?_
  refine Tot.pure (show lenStr (.str [b]) = some (iv 1) from rfl) ?_
  refine Tot.pure geq_P ?_
  rw [decide_eq_true (by omega)]
  refine Tot.pure bT ?_
  simp only [if_true]
  refine Tot.pure len_rep ?_
  refine Tot.pure (show lenStr (.str [b]) = some (iv 1) from rfl) ?_
  refine Tot.pure (decN (by omega)) ?_
  refine Tot.pure (sl_lo (by omega)) ?_
  rw [show k + 1 - k = 1 by omega, rep1]
  refine Tot.pure eqS ?_
  exact Tot.ret ⟨rfl, by congr 1; exact decide_eq_decide.2 (by simp)⟩
theorem TrimSuffix_P {a b : UInt8} {k : Nat} (hk : k < 3000000) : Gv (fun n => f_strings_TrimSuffix n [rep a (k + 1), .str [b]] H) (rep a (if a = b then k else k + 1)) H := by
  refine strings_TrimSuffix_tot ?_
  simp only [strings_TrimSuffix_b]
  refine Gv.bind (u := rep a (if a = b then k else k + 1)) ?_ (Tot.ret ⟨rfl, rfl⟩)
  refine internal_stringslite_TrimSuffix_tot ?_
  simp only [internal_stringslite_TrimSuffix_b]
  refine Gv.bind (HasSuffix_P hk) ?_
  by_cases h : a = b
  · rw [decide_eq_true h, if_pos h]
    refine Tot.pure bT ?_
    simp only [if_true]
    refine Tot.pure len_rep ?_
    refine Tot.pure (show lenStr (.str [b]) = some (iv 1) from rfl) ?_
    refine Tot.pure (decN (by omega)) ?_
    refine Tot.pure (sl_hi (by omega)) ?_
    exact Tot.ret ⟨rfl, rfl⟩
  · rw [decide_eq_false h, if_neg h]
    refine Tot.pure bF ?_
    simp only [Bool.false_eq_true, if_false]
    exact Tot.ret ⟨rfl, rfl⟩
theorem rowA_one {v : V} : ∀ k : Nat, rowA [v] k = List.replicate k v
  | 0 => rfl
  | k + 1 => by rw [rowA, rowA_one k, List.replicate_succ]; rfl
theorem mk_rep {n b : Nat} {e : TypeId} {v : V} (hn : n < 2147483648) (hb : b ≤ 4096) (hv : v.one = true) : mkSl 1 b e [v] (iv (n : Int)) (iv (n : Int)) = some (.cells (List.replicate n v) e false, n) := by
  simp only [mkSl, rowA_one]
  rw [if_pos ⟨by omega, Int.le_refl _, by omega, hb, rfl, by simp [hv]⟩]
  simp
theorem idx_own {p o n i : Nat} {f : Bool} (h : i < n) : idxS 1 (.slice ⟨some (p, o), n, 1, f⟩) (iv (i : Int)) = some (.ptr (some (p, o + i * 1))) := by
  simp only [idxS]
  rw [if_pos ⟨by omega, by omega, by trivial⟩, Int.toNat_natCast]
theorem st1 {p o : Nat} {x : V} {cs : List V} {e : TypeId} (hg : H.get p = .cells cs e false) (ho : o < cs.length) (hx : x.cells = [x]) (h1 : x.one = true) : stA 1 (.ptr (some (p, o))) x H = some (H.set p (.cells (lset cs o [x]) e false)) := by
  simp only [stA, hg, hx]
  rw [if_pos ⟨rfl, by omega, by simp [h1]⟩]
theorem lset_one {cs : List V} {o : Nat} {x : V} (h : o < cs.length) : lset cs o [x] = cs.set o x := by
  unfold lset
  rw [List.set_eq_take_append_cons_drop, if_pos h]
  simp
theorem cutAll {p n : Nat} : slSl 1 (.slice ⟨some (p, 0), n, 1, false⟩) none (some (iv (n : Int))) = some (.slice ⟨some (p, 0), n, 1, false⟩) := by
  simp [slSl, bndA]
theorem split_l1 {a N : Nat} {b : UInt8} (hN : N < 3000000) : ∀ (d i : Nat) (H : Heap) (mm : Nat → Nat), i + d = N → Big mm → H.get a = .cells (List.replicate (N + 1) (.str [])) ty_string false → a < H.n →
    Tot (fun n => strings_genSplit.l1 n (mm n) (rep b d) (.str [b]) (iv 0) (iv (N : Int)) (.slice ⟨some (a, 0), N + 1, 1, false⟩) (iv (i : Int)) H) fun v H' => v = .slice ⟨some (a, 0), N + 1, 1, false⟩ ∧ H'.get a = .cells (List.replicate (N + 1) (.str [])) ty_string false ∧ H'.n = H.n := by
  intro d
  induction d with
  | zero =>
    intro i H mm hi hmm g ha
    refine strings_genSplit.l1_tot hmm fun mm hmm => ?_
    simp only [strings_genSplit.l1_b]
    refine Tot.pure lssN ?_
    rw [decide_eq_false (by omega)]
    refine Tot.pure bF ?_
    simp only [Bool.false_eq_true, if_false]
    refine strings_genSplit.p2_tot ?_
    simp only [strings_genSplit.p2_b]
    refine Tot.pure (idx_own (by omega)) ?_
    rw [rep0]
    refine Tot.pure (st1 g (by simp; omega) rfl rfl) ?_
    have e : lset (List.replicate (N + 1) (V.str [])) (0 + i * 1) [.str []] = List.replicate (N + 1) (.str []) := by
      rw [lset_one (by simp; omega), List.set_replicate_self]
    rw [e]
    refine Tot.pure (incN (by omega)) ?_
    obtain rfl : i = N := by omega
    refine Tot.pure cutAll ?_
    exact Tot.ret ⟨rfl, Heap.gsz rfl, by simp⟩
  | succ d hd =>
    intro i H mm hi hmm g ha
    refine strings_genSplit.l1_tot hmm fun mm hmm => ?_
    simp only [strings_genSplit.l1_b]
    refine Tot.pure lssN ?_
    rw [decide_eq_true (by omega)]
    refine Tot.pure bT ?_
    simp only [if_true]
    refine Gv.bind Index_P ?_
    refine Tot.pure (show arA .lss (iv 0) (iv 0) = some (.bool false) from rfl) ?_
    refine Tot.pure bF ?_
    simp only [Bool.false_eq_true, if_false]
    refine Tot.pure (show arA .add (iv 0) (iv 0) = some (iv ((0 : Nat) : Int)) from rfl) ?_
    refine Tot.pure (sl_hi (i := 0) (by omega)) ?_
    refine Tot.pure (idx_own (by omega)) ?_
    rw [rep0]
    refine Tot.pure (st1 g (by simp; omega) rfl rfl) ?_
    have e : lset (List.replicate (N + 1) (V.str [])) (0 + i * 1) [.str []] = List.replicate (N + 1) (.str []) := by
      rw [lset_one (by simp; omega), List.set_replicate_self]
    rw [e]
    refine Tot.pure (show lenStr (.str [b]) = some (iv 1) from rfl) ?_
    refine Tot.pure (show arA .add (iv 0) (iv 1) = some (iv ((1 : Nat) : Int)) from rfl) ?_
    refine Tot.pure (sl_lo (i := 1) (by omega)) ?_
    rw [show d + 1 - 1 = d by omega]
    refine Tot.pure (incN (by omega)) ?_
    refine Tot.mono (hd (i + 1) _ mm (by omega) hmm (Heap.gsz rfl) (by simpa using ha)) ?_
    rintro v H' ⟨h1, h2, h3⟩
    exact ⟨h1, h2, by rw [h3]; simp⟩
theorem split_lines {N : Nat} {b : UInt8} (hN : N < 3000000) : Tot (fun n => f_strings_Split n [rep b N, .str [b]] H) fun v H' => v = .slice ⟨some (H.n, 0), N + 1, 1, false⟩ ∧ H'.get H.n = .cells (List.replicate (N + 1) (.str [])) ty_string false ∧ H'.n = H.n + 1 := by
  refine strings_Split_tot ?_
  simp only [strings_Split_b]
  refine Tot.bind (Q' := fun v H' => v = .slice ⟨some (H.n, 0), N + 1, 1, false⟩ ∧ H'.get H.n = .cells (List.replicate (N + 1) (.str [])) ty_string false ∧ H'.n = H.n + 1) ?_ fun v H' h => Tot.ret h
  refine strings_genSplit_tot ?_
  simp only [strings_genSplit_b]
  refine Tot.pure (show arA .eql (iv (-1)) (iv 0) = some (.bool false) from rfl) ?_
  refine Tot.pure bF ?_
  simp only [Bool.false_eq_true, if_false]
  refine Tot.pure (show arA .eql (.str [b]) (.str []) = some (.bool false) from by rw [eqS]; rfl) ?_
  refine Tot.pure bF ?_
  simp only [Bool.false_eq_true, if_false]
  refine Tot.pure (show arA .lss (iv (-1)) (iv 0) = some (.bool true) from rfl) ?_
  refine Tot.pure bT ?_
  simp only [if_true]
  refine Gv.bind Count_P ?_
  rw [countByte_rep]
  refine Tot.pure (incN (by omega)) ?_
  refine strings_genSplit.p0_tot ?_
  simp only [strings_genSplit.p0_b]
  refine Tot.pure len_rep ?_
  refine Tot.pure (incN (by omega)) ?_
  refine Tot.pure (show mmA false [iv ((N + 1 : Nat) : Int), iv ((N + 1 : Nat) : Int)] = some (iv ((N + 1 : Nat) : Int)) by simp [mmA, mm2]) ?_
  refine Tot.pure (mk_rep (by omega) (by decide) rfl) ?_
  refine Tot.pure (decN (by omega)) ?_
  refine Tot.mono (split_l1 hN N 0 _ _ (by omega) Big.id (Heap.gpz rfl) (by simp)) ?_
  rintro v H' ⟨h1, h2, h3⟩
  exact ⟨h1, h2, by rw [h3]; simp⟩
theorem split_one {M : Nat} {a b : UInt8} (hab : b ≠ a) (hM : M < 3000000) : Tot (fun n => f_strings_Split n [rep a M, .str [b]] H) fun v H' => v = .slice ⟨some (H.n, 0), 1, 1, false⟩ ∧ H'.get H.n = .cells [rep a M] ty_string false ∧ H'.n = H.n + 1 := by
  refine strings_Split_tot ?_
  simp only [strings_Split_b]
  refine Tot.bind (Q' := fun v H' => v = .slice ⟨some (H.n, 0), 1, 1, false⟩ ∧ H'.get H.n = .cells [rep a M] ty_string false ∧ H'.n = H.n + 1) ?_ fun v H' h => Tot.ret h
  refine strings_genSplit_tot ?_
  simp only [strings_genSplit_b]
  refine Tot.pure (show arA .eql (iv (-1)) (iv 0) = some (.bool false) from rfl) ?_
  refine Tot.pure bF ?_
  simp only [Bool.false_eq_true, if_false]
  refine Tot.pure (show arA .eql (.str [b]) (.str []) = some (.bool false) from by rw [eqS]; rfl) ?_
  refine Tot.pure bF ?_
  simp only [Bool.false_eq_true, if_false]
  refine Tot.pure (show arA .lss (iv (-1)) (iv 0) = some (.bool true) from rfl) ?_
  refine Tot.pure bT ?_
  simp only [if_true]
  refine Gv.bind Count_P ?_
  rw [countByte_other hab]
  refine Tot.pure (show arA .add (iv ((0 : Nat) : Int)) (iv 1) = some (iv ((1 : Nat) : Int)) from rfl) ?_
  refine strings_genSplit.p0_tot ?_
  simp only [strings_genSplit.p0_b]
  refine Tot.pure len_rep ?_
  refine Tot.pure (incN (by omega)) ?_
  refine Tot.pure (show mmA false [iv ((1 : Nat) : Int), iv ((M + 1 : Nat) : Int)] = some (iv ((1 : Nat) : Int)) by simp [mmA, mm2]; omega) ?_
  refine Tot.pure (mk_rep (n := 1) (by omega) (by decide) rfl) ?_
  refine Tot.pure (show arA .sub (iv ((1 : Nat) : Int)) (iv 1) = some (iv 0) from rfl) ?_
  refine strings_genSplit.l1_tot Big.id fun mm hmm => ?_
  simp only [strings_genSplit.l1_b]
  refine Tot.pure (show arA .lss (iv 0) (iv 0) = some (.bool false) from rfl) ?_
  refine Tot.pure bF ?_
  simp only [Bool.false_eq_true, if_false]
  refine strings_genSplit.p2_tot ?_
  simp only [strings_genSplit.p2_b]
  refine Tot.pure (idx_own (i := 0) (by omega)) ?_
  refine Tot.pure (st1 (Heap.gpz rfl) (by simp) rfl rfl) ?_
  refine Tot.pure (show arA .add (iv 0) (iv 1) = some (iv ((1 : Nat) : Int)) from rfl) ?_
  refine Tot.pure cutAll ?_
  exact Tot.ret ⟨rfl, by rw [Heap.gsz rfl]; rfl, by simp⟩
theorem Trim_nil {s : List UInt8} : Gv (fun n => f_strings_Trim n [.str [], .str s] H) (.str []) H := by
  refine strings_Trim_tot ?_
  simp only [strings_Trim_b]
  refine Tot.pure (show arA .eql (.str []) (.str []) = some (.bool true) from by rw [eqS]; rfl) ?_
  refine Tot.pure bT ?_
  simp only [if_true]
  exact Tot.ret ⟨rfl, rfl⟩
theorem eqB {a b : UInt8} (h : a ≠ b) : arA .eql (.int .u8 a.toNat) (.int .u8 b.toNat) = some (.bool false) := by
  have : (a.toNat : Int) ≠ (b.toNat : Int) := fun e => h (UInt8.toNat_inj.1 (by omega))
  rw [ar_eql, decide_eq_false this]
theorem right_P {a b : UInt8} {M : Nat} (h : a ≠ b) (hM : M < 3000000) : Gv (fun n => f_strings_trimRightByte n [rep a (M + 1), .int .u8 b.toNat] H) (rep a (M + 1)) H := by
  refine strings_trimRightByte_tot ?_
  simp only [strings_trimRightByte_b]
  refine strings_trimRightByte.l0_tot Big.id fun mm hmm => ?_
  simp only [strings_trimRightByte.l0_b]
  refine Tot.pure len_rep ?_
  refine Tot.pure gtr_P ?_
  rw [decide_eq_true (by omega)]
  refine Tot.pure bT ?_
  simp only [if_true]
  refine Tot.pure len_rep ?_
  refine Tot.pure (decN (by omega)) ?_
  refine Tot.pure (ix_rep (by omega)) ?_
  refine Tot.pure (eqB h) ?_
  refine Tot.pure bF ?_
  simp only [Bool.false_eq_true, if_false]
  exact Tot.ret ⟨rfl, rfl⟩
theorem left_P {a b : UInt8} {M : Nat} (h : a ≠ b) (hM : M < 3000000) : Gv (fun n => f_strings_trimLeftByte n [rep a (M + 1), .int .u8 b.toNat] H) (rep a (M + 1)) H := by
  refine strings_trimLeftByte_tot ?_
  simp only [strings_trimLeftByte_b]
  refine strings_trimLeftByte.l0_tot Big.id fun mm hmm => ?_
  simp only [strings_trimLeftByte.l0_b]
  refine Tot.pure len_rep ?_
  refine Tot.pure gtr_P ?_
  rw [decide_eq_true (by omega)]
  refine Tot.pure bT ?_
  simp only [if_true]
  refine Tot.pure (ix_rep (i := 0) (by omega)) ?_
  refine Tot.pure (eqB h) ?_
  refine Tot.pure bF ?_
  simp only [Bool.false_eq_true, if_false]
  exact Tot.ret ⟨rfl, rfl⟩
theorem Trim_rep {M : Nat} (hM : M < 3000000) : Gv (fun n => f_strings_Trim n [rep 35 (M + 1), .str [32]] H) (rep 35 (M + 1)) H := by
  refine strings_Trim_tot ?_
  simp only [strings_Trim_b]
  refine Tot.pure (show arA .eql (rep 35 (M + 1)) (.str []) = some (.bool false) from by rw [eqS]; simp) ?_
  refine Tot.pure bF ?_
  simp only [Bool.false_eq_true, if_false]
  refine Tot.pure (show arA .eql (.str [32]) (.str []) = some (.bool false) from by rw [eqS]; rfl) ?_
  refine Tot.pure bF ?_
  simp only [Bool.false_eq_true, if_false]
  refine Tot.pure (show lenStr (.str [32]) = some (iv 1) from rfl) ?_
  refine Tot.pure (show arA .eql (iv 1) (iv 1) = some (.bool true) from rfl) ?_
  refine Tot.pure bT ?_
  simp only [if_true]
  have x : ixStr (.str [32]) (iv 0) = some (.int .u8 (32 : UInt8).toNat) := rfl
  refine Tot.pure x ?_
  refine Tot.pure (show arA .lss (.int .u8 (32 : UInt8).toNat) (.int .u8 128) = some (.bool true) from rfl) ?_
  refine Tot.pure bT ?_
  simp only [if_true]
  refine Tot.pure x ?_
  refine Gv.bind (right_P (by decide) hM) ?_
  refine Tot.pure x ?_
  refine Gv.bind (left_P (by decide) hM) ?_
  exact Tot.ret ⟨rfl, rfl⟩
end N
end Go.AM
end
section
set_option linter.unusedVariables false
set_option linter.unusedSimpArgs false
set_option linter.unusedSimpArgs false
set_option linter.unusedVariables false
set_option maxRecDepth 100000
namespace Go.AM
namespace N
variable {H : Heap}
theorem lives_P : Gv (fun n => f_law30_lives n [] H) (.bool true) H := law30_lives_ext ⟨_, _, ⟨rfl, rfl⟩, 0, fun n _ => rfl⟩
theorem line_nil {p : V} : Gv (fun n => f_shell_shell_line n [p, .str []] H) (.tuple []) H := by
  refine shell_shell_line_tot ?_
  simp only [shell_shell_line_b]
  refine Gv.bind Trim_nil ?_
  refine Tot.pure (show arA .eql (.str []) (.str []) = some (.bool true) from by rw [eqS]; rfl) ?_
  refine Tot.pure bT ?_
  simp only [if_true]
  exact Tot.ret ⟨rfl, rfl⟩
theorem line_rep {p : V} {M : Nat} (hM : M < 3000000) : Gv (fun n => f_shell_shell_line n [p, rep 35 (M + 1)] H) (.tuple []) H := by
  refine shell_shell_line_tot ?_
  simp only [shell_shell_line_b]
  refine Gv.bind (Trim_rep hM) ?_
  refine Tot.pure (show arA .eql (rep 35 (M + 1)) (.str []) = some (.bool false) from by rw [eqS]; simp) ?_
  refine Tot.pure bF ?_
  simp only [Bool.false_eq_true, if_false]
  refine Tot.pure (ix_rep (i := 0) (by omega)) ?_
  refine Tot.pure (show arA .eql (.int .u8 (35 : UInt8).toNat) (.int .u8 35) = some (.bool true) from rfl) ?_
  refine Tot.pure bT ?_
  simp only [if_true]
  exact Tot.ret ⟨rfl, rfl⟩
abbrev shC (v : V) : List V := [.ptr none, .slice ⟨none, 0, 0, false⟩, .ptr none, v]
theorem String_nil {b : Nat} {v : V} (g : H.get b = .cells (shC v) ty_shell_shell false) : Gv (fun n => f_strings_Builder_String n [.ptr (some (b, 0 + 0))] H) (.str []) H := by
  refine strings_Builder_String_tot ?_
  simp only [strings_Builder_String_b]
  refine Tot.pure (show nilC (.ptr (some (b, 0 + 0))) = some (.ptr (some (b, 0 + 0))) from rfl) ?_
  refine Tot.pure (show faA 1 (.ptr (some (b, 0 + 0))) = some (.ptr (some (b, 0 + 0 + 1))) from rfl) ?_
  have l : ld1 (.ptr (some (b, 0 + 0 + 1))) (H.more 0) = some (.slice ⟨none, 0, 0, false⟩) := by rw [lhz, gmz, g]; rfl
  refine Tot.pure l ?_
  refine Tot.pure (show slData (.slice ⟨none, 0, 0, false⟩) = some (.ptr none) from rfl) ?_
  refine Tot.pure (show nilC (.ptr (some (b, 0 + 0))) = some (.ptr (some (b, 0 + 0))) from rfl) ?_
  refine Tot.pure (show faA 1 (.ptr (some (b, 0 + 0))) = some (.ptr (some (b, 0 + 0 + 1))) from rfl) ?_
  refine Tot.pure l ?_
  refine Tot.chk (by rw [l]; rfl) ?_
  refine Tot.pure (show lenSl (.slice ⟨none, 0, 0, false⟩) = some (iv 0) from rfl) ?_
  refine Tot.pure (show unStrA P ty_p_uint8 (.ptr none) (iv 0) (H.more 0) = some (.str [], H.more 0) from rfl) ?_
  exact Tot.ret ⟨rfl, rfl⟩
theorem run_p2 {b : Nat} {v : V} (g : H.get b = .cells (shC v) ty_shell_shell false) : Tot (fun n => shell_Run.p2 n (.ptr (some (b, 0))) H) fun v _ => v = .tuple [.str [], iv 0] := by
  refine shell_Run.p2_tot ?_
  simp only [shell_Run.p2_b]
  refine Tot.pure (show nilC (.ptr (some (b, 0))) = some (.ptr (some (b, 0))) from rfl) ?_
  refine Tot.pure (show faA 0 (.ptr (some (b, 0))) = some (.ptr (some (b, 0 + 0))) from rfl) ?_
  refine Gv.bind (String_nil g) ?_
  exact Tot.ret rfl
theorem run_l1 {a b N : Nat} {x : V} (hab : a ≠ b) (hx : ∀ H : Heap, ∀ p : V, Gv (fun n => f_shell_shell_line n [p, x] H) (.tuple []) H) (hN : N < 3000000) : ∀ (d i : Nat) (H : Heap) (mm : Nat → Nat), i + d = N → Big mm → H.get a = .cells (List.replicate N x) ty_string false → H.get b = .cells (shC (.slice ⟨some (a, 0 + i), d, 1, false⟩)) ty_shell_shell false →
    Tot (fun n => shell_Run.l1 n (mm n) (.ptr (some (b, 0))) H) fun v _ => v = .tuple [.str [], iv 0] := by
  intro d
  induction d with
  | zero =>
    intro i H mm hi hmm g0 g1
    refine shell_Run.l1_tot hmm fun mm hmm => ?_
    simp only [shell_Run.l1_b]
    refine Tot.pure (show nilC (.ptr (some (b, 0))) = some (.ptr (some (b, 0))) from rfl) ?_
    refine Tot.pure (show faA 3 (.ptr (some (b, 0))) = some (.ptr (some (b, 0 + 3))) from rfl) ?_
    refine Tot.pure (show ld1 (.ptr (some (b, 0 + 3))) H = some (.slice ⟨some (a, 0 + i), 0, 1, false⟩) by rw [lhz, g1]; rfl) ?_
    refine Tot.pure (show lenSl (.slice ⟨some (a, 0 + i), 0, 1, false⟩) = some (iv 0) from rfl) ?_
    refine Tot.pure (show arA .gtr (iv 0) (iv 0) = some (.bool false) from rfl) ?_
    refine Tot.pure bF ?_
    simp only [Bool.false_eq_true, if_false]
    exact run_p2 g1
  | succ d hd =>
    intro i H mm hi hmm g0 g1
    refine shell_Run.l1_tot hmm fun mm hmm => ?_
    simp only [shell_Run.l1_b]
    have nc : nilC (.ptr (some (b, 0))) = some (.ptr (some (b, 0))) := rfl
    have fa : faA 3 (.ptr (some (b, 0))) = some (.ptr (some (b, 0 + 3))) := rfl
    have l : ld1 (.ptr (some (b, 0 + 3))) H = some (.slice ⟨some (a, 0 + i), d + 1, 1, false⟩) := by rw [lhz, g1]; rfl
    refine Tot.pure nc ?_
    refine Tot.pure fa ?_
    refine Tot.pure l ?_
    refine Tot.pure (show lenSl (.slice ⟨some (a, 0 + i), d + 1, 1, false⟩) = some (iv ((d + 1 : Nat) : Int)) from rfl) ?_
    refine Tot.pure gtr_P ?_
    rw [decide_eq_true (by omega)]
    refine Tot.pure bT ?_
    simp only [if_true]
    refine Tot.pure nc ?_
    refine Tot.pure fa ?_
    refine Tot.pure l ?_
    refine Tot.pure (idx_own (i := 0) (by omega)) ?_
    refine Tot.pure (show ld1 (.ptr (some (a, 0 + i + 0 * 1))) H = some x by rw [lhz, g0]; show (List.replicate N x)[0 + i + 0 * 1]? = some x; rw [List.getElem?_replicate, if_pos (by omega)]) ?_
    refine Tot.pure nc ?_
    refine Tot.pure fa ?_
    refine Tot.pure l ?_
    refine Tot.pure (show slSl 1 (.slice ⟨some (a, 0 + i), d + 1, 1, false⟩) (some (.int .i64 1)) none = some (.slice ⟨some (a, 0 + (i + 1)), d, 1, false⟩) by simp [slSl, bndA]) ?_
    refine Tot.pure nc ?_
    refine Tot.pure fa ?_
    refine Tot.pure (st1 g1 (by simp) rfl rfl) ?_
    refine Gv.bind (hx _ _) ?_
    dsimp only
    exact hd (i + 1) _ mm (by omega) hmm (by rw [Heap.gtz hab]; exact g0) (Heap.gsz rfl)
theorem run_p0 {s : List UInt8} {N : Nat} {x : V} (hx : ∀ H : Heap, ∀ p : V, Gv (fun n => f_shell_shell_line n [p, x] H) (.tuple []) H) (hs : s.length < 3000000) (hN : N < 3000000) (g : H.get 0 = .cells (List.replicate N x) ty_string false) (hn : H.n = 1) :
    Tot (fun n => shell_Run.p0 n (.str s) (.slice ⟨some (0, 0), N, 1, false⟩) H) fun v _ => v = .tuple [.str [], iv (if s.length > 1048576 ∨ N > 10000 then 5 else 0)] := by
  refine shell_Run.p0_tot ?_
  simp only [shell_Run.p0_b]
  refine Tot.pure (show lenStr (.str s) = some (iv (s.length : Int)) from rfl) ?_
  refine Tot.pure gtr_P ?_
  by_cases h1 : s.length > 1048576
  · rw [decide_eq_true (by omega), if_pos (.inl h1)]
    refine Tot.pure bT ?_
    simp only [if_true]
    exact Tot.ret rfl
  · rw [decide_eq_false (by omega)]
    refine Tot.pure bF ?_
    simp only [Bool.false_eq_true, if_false]
    refine Tot.pure (show lenSl (.slice ⟨some (0, 0), N, 1, false⟩) = some (iv (N : Int)) from rfl) ?_
    refine Tot.pure gtr_P ?_
    by_cases h2 : N > 10000
    · rw [decide_eq_true (by omega), if_pos (.inr h2)]
      refine Tot.pure bT ?_
      simp only [if_true]
      exact Tot.ret rfl
    · rw [decide_eq_false (by omega), if_neg (by omega)]
      refine Tot.pure bF ?_
      simp only [Bool.false_eq_true, if_false]
      refine Tot.pure (show flA [(0, 2), (2, 1), (3, 1)] [.ptr none, .slice ⟨none, 0, 0, false⟩, .ptr none, .slice ⟨none, 0, 0, false⟩] [(2, .slice ⟨some (0, 0), N, 1, false⟩)] = some (.agg (shC (.slice ⟨some (0, 0), N, 1, false⟩))) from rfl) ?_
      refine Tot.pure (show boxA ty_shell_shell (.agg (shC (.slice ⟨some (0, 0), N, 1, false⟩))) = some (.cells (shC (.slice ⟨some (0, 0), N, 1, false⟩)) ty_shell_shell false) from rfl) ?_
      rw [hn]
      exact run_l1 (a := 0) (b := 1) (by decide) hx hN N 0 _ _ (by omega) Big.id (by rw [Heap.gqz (by omega)]; exact g) (Heap.gpz hn.symm)
theorem Run_nl {N : Nat} (hN : N + 1 < 3000000) : Gv (fun n => f_shell_Run n [rep 10 (N + 1)] H) (.tuple [.str [], iv (if N + 1 > 1048576 ∨ N + 1 > 10000 then 5 else 0)]) H := by
  refine shell_Run_tot rfl rfl ?_
  simp only [shell_Run_b]
  refine Tot.pure (show arA .neq (rep 10 (N + 1)) (.str []) = some (.bool true) by simp [arA, strA, rep]) ?_
  refine Tot.pure bT ?_
  simp only [if_true]
  refine Gv.bind (TrimSuffix_P (b := 10) (by omega)) ?_
  rw [if_pos rfl]
  refine Tot.bind (split_lines (by omega)) ?_
  rintro v K ⟨rfl, k1, k2⟩
  dsimp only
  refine Tot.mono (run_p0 (s := List.replicate (N + 1) 10) (N := N + 1) (x := .str []) (fun H p => line_nil) (by simp; omega) (by omega) k1 k2) ?_
  rintro v _ rfl
  rw [List.length_replicate]
  exact ⟨rfl, trivial, rfl⟩
theorem Run_hs {M : Nat} (hM : M + 1 < 3000000) : Gv (fun n => f_shell_Run n [rep 35 (M + 1)] H) (.tuple [.str [], iv (if M + 1 > 1048576 ∨ 1 > 10000 then 5 else 0)]) H := by
  refine shell_Run_tot rfl rfl ?_
  simp only [shell_Run_b]
  refine Tot.pure (show arA .neq (rep 35 (M + 1)) (.str []) = some (.bool true) by simp [arA, strA, rep]) ?_
  refine Tot.pure bT ?_
  simp only [if_true]
  refine Gv.bind (TrimSuffix_P (b := 10) (by omega)) ?_
  rw [if_neg (by decide)]
  refine Tot.bind (split_one (by decide) (by omega)) ?_
  rintro v K ⟨rfl, k1, k2⟩
  dsimp only
  refine Tot.mono (run_p0 (s := List.replicate (M + 1) 35) (N := 1) (x := rep 35 (M + 1)) (fun H p => line_rep (by omega)) (by simp; omega) (by omega) k1 k2) ?_
  rintro v _ rfl
  rw [List.length_replicate]
  exact ⟨rfl, trivial, rfl⟩
abbrev by8 (b : UInt8) : V := .int .u8 b.toNat
theorem bytes_rep {b : UInt8} : ∀ k : Nat, bytesOf (List.replicate k (by8 b)) = some (List.replicate k b)
  | 0 => rfl
  | k + 1 => by
    rw [List.replicate_succ, List.replicate_succ]
    show (match bytesOf (List.replicate k (by8 b)) with | some l => some (UInt8.ofNat (b.toNat : Int).toNat :: l) | none => none) = _
    rw [bytes_rep k]
    simp
theorem cv_rep {b : UInt8} {k p : Nat} {e : TypeId} (g : H.get p = .cells (List.replicate k (by8 b)) e false) : cvBytes (.slice ⟨some (p, 0), k, 1, false⟩) H = some (rep b k) := by
  simp only [cvBytes]
  rw [if_pos (.inr trivial)]
  have r : rdS ⟨some (p, 0), k, 1, false⟩ H = some (List.replicate k (by8 b)) := by
    simp only [rdS, g, Nat.mul_one, Nat.zero_add, List.length_replicate, Nat.le_refl, if_true, List.drop_zero]
    split
    · rename_i h; rw [h]; rfl
    · rw [List.take_of_length_le (by simp)]
  rw [r, Option.bind_some, bytes_rep, Option.bind_some]
theorem fill_step {b : UInt8} {k i p : Nat} {e : TypeId} (h : i < k) (g : H.get p = .cells (List.replicate i (by8 b) ++ List.replicate (k - i) (.int .u8 0)) e false) :
    stA 1 (.ptr (some (p, 0 + i * 1))) (by8 b) H = some (H.set p (.cells (List.replicate (i + 1) (by8 b) ++ List.replicate (k - (i + 1)) (.int .u8 0)) e false)) := by
  rw [st1 g (by simp; omega) rfl rfl]
  congr 3
  rw [lset_one (by simp; omega), Nat.zero_add, Nat.mul_one, List.set_append_right _ _ (by simp)]
  rw [List.length_replicate, Nat.sub_self, show k - i = (k - (i + 1)) + 1 by omega, List.replicate_succ, List.set_cons_zero, List.replicate_succ', List.append_assoc]
  rfl
theorem law_l2 {c : Int} {e1 : Int} {lg : Bool} {k p : Nat} (hk : k < 3000000) (hk1 : 1 ≤ k) (hc : 0 ≤ c ∧ c < 256) (hkc : (k : Int) = 1048576 + c % 2) (he : e1 = if lg = true then 5 else 0) :
    ∀ (d i : Nat) (H : Heap) (mm : Nat → Nat), i + d = k → Big mm → H.get p = .cells (List.replicate i (by8 35) ++ List.replicate (k - i) (.int .u8 0)) ty_uint8 false →
    Tot (fun n => law30_ShellLong.l2 n (mm n) (.int .u8 c) (.str []) (iv e1) (.bool lg) (.slice ⟨some (p, 0), k, 1, false⟩) (iv (i : Int)) H) fun v _ => v.free = true ∧ True ∧ v = .bool true := by
  intro d
  induction d with
  | zero =>
    intro i H mm hi hmm g
    refine law30_ShellLong.l2_tot hmm fun mm hmm => ?_
    simp only [law30_ShellLong.l2_b]
    refine Tot.pure (show lenSl (.slice ⟨some (p, 0), k, 1, false⟩) = some (iv (k : Int)) from rfl) ?_
    refine Tot.pure lssN ?_
    rw [decide_eq_false (by omega)]
    refine Tot.pure bF ?_
    simp only [Bool.false_eq_true, if_false]
    obtain rfl : i = k := by omega
    rw [Nat.sub_self, List.replicate_zero, List.append_nil] at g
    obtain ⟨M, rfl⟩ : ∃ M, i = M + 1 := ⟨i - 1, by omega⟩
    refine law30_ShellLong.p3_tot ?_
    simp only [law30_ShellLong.p3_b]
    refine Tot.pure (cv_rep g) ?_
    refine Gv.bind (Run_hs (by omega)) ?_
    dsimp only
    refine Tot.pure (show extA _ 0 = some (.str []) from rfl) ?_
    refine Tot.pure (show extA _ 1 = some (iv (if M + 1 > 1048576 ∨ 1 > 10000 then 5 else 0)) from rfl) ?_
    have es : arA .eql (.str []) (.str []) = some (.bool true) := by rw [eqS]; rfl
    have eb : ∀ x y : Bool, eqlA P ty_bool (.bool x) (.bool y) = some (.bool (x == y)) := fun x y => by kernel_rfl
    refine Tot.pure es ?_
    refine Tot.pure bT ?_
    simp only [if_true]
    refine Tot.pure eql_P ?_
    refine Tot.pure (eb _ _) ?_
    have h1 : (decide (e1 = 5) == lg) = true := by rw [he]; cases lg <;> rfl
    rw [h1]
    refine Tot.pure bT ?_
    simp only [if_true]
    refine Tot.pure eql_P ?_
    refine Tot.pure (show unA .not (.bool lg) = some (.bool (!lg)) from rfl) ?_
    refine Tot.pure (eb _ _) ?_
    have h2 : (decide (e1 = 0) == !lg) = true := by rw [he]; cases lg <;> rfl
    rw [h2]
    refine Tot.pure bT ?_
    simp only [if_true]
    refine Tot.pure es ?_
    refine Tot.pure bT ?_
    simp only [if_true]
    refine Tot.pure eql_P ?_
    refine Tot.pure (show arA .rem (.int .u8 c) (.int .u8 2) = some (.int .u8 (c % 2)) by simp (disch := omega) []) ?_
    refine Tot.pure (show arA .eql (.int .u8 (c % 2)) (.int .u8 1) = some (.bool (decide (c % 2 = 1))) from rfl) ?_
    refine Tot.pure (eb _ _) ?_
    have h3 : (decide ((if M + 1 > 1048576 ∨ 1 > 10000 then (5 : Int) else 0) = 5) == decide (c % 2 = 1)) = true := by
      by_cases h : c % 2 = 1
      · rw [if_pos (by omega), decide_eq_true h]; rfl
      · rw [if_neg (by omega), decide_eq_false h]; rfl
    rw [h3]
    refine Tot.pure bT ?_
    simp only [if_true]
    refine Gv.bind lives_P ?_
    exact Tot.ret ⟨rfl, trivial, rfl⟩
  | succ d hd =>
    intro i H mm hi hmm g
    refine law30_ShellLong.l2_tot hmm fun mm hmm => ?_
    simp only [law30_ShellLong.l2_b]
    refine Tot.pure (show lenSl (.slice ⟨some (p, 0), k, 1, false⟩) = some (iv (k : Int)) from rfl) ?_
    refine Tot.pure lssN ?_
    rw [decide_eq_true (by omega)]
    refine Tot.pure bT ?_
    simp only [if_true]
    refine Tot.pure (idx_own (by omega)) ?_
    refine Tot.pure (fill_step (b := 35) (by omega) g) ?_
    refine Tot.pure (incN (by omega)) ?_
    exact hd (i + 1) _ mm (by omega) hmm (Heap.gsz rfl)
theorem law_l0 {c : Int} {k p : Nat} (hk : k < 20000) (hk1 : 1 ≤ k) (hc : 0 ≤ c ∧ c < 256) :
    ∀ (d i : Nat) (H : Heap) (mm : Nat → Nat), i + d = k → Big mm → H.get p = .cells (List.replicate i (by8 10) ++ List.replicate (k - i) (.int .u8 0)) ty_uint8 false →
    Tot (fun n => law30_ShellLong.l0 n (mm n) (.int .u8 c) (.slice ⟨some (p, 0), k, 1, false⟩) (iv (i : Int)) H) fun v _ => v.free = true ∧ True ∧ v = .bool true := by
  intro d
  induction d with
  | zero =>
    intro i H mm hi hmm g
    refine law30_ShellLong.l0_tot hmm fun mm hmm => ?_
    simp only [law30_ShellLong.l0_b]
    refine Tot.pure (show lenSl (.slice ⟨some (p, 0), k, 1, false⟩) = some (iv (k : Int)) from rfl) ?_
    refine Tot.pure lssN ?_
    rw [decide_eq_false (by omega)]
    refine Tot.pure bF ?_
    simp only [Bool.false_eq_true, if_false]
    obtain rfl : i = k := by omega
    rw [Nat.sub_self, List.replicate_zero, List.append_nil] at g
    obtain ⟨N, rfl⟩ : ∃ N, i = N + 1 := ⟨i - 1, by omega⟩
    refine law30_ShellLong.p1_tot ?_
    simp only [law30_ShellLong.p1_b]
    refine Tot.pure (cv_rep g) ?_
    refine Gv.bind (Run_nl (by omega)) ?_
    dsimp only
    refine Tot.pure (show extA _ 0 = some (.str []) from rfl) ?_
    refine Tot.pure (show extA _ 1 = some (iv (if N + 1 > 1048576 ∨ N + 1 > 10000 then 5 else 0)) from rfl) ?_
    refine Tot.pure (show lenSl (.slice ⟨some (p, 0), N + 1, 1, false⟩) = some (iv ((N + 1 : Nat) : Int)) from rfl) ?_
    refine Tot.pure gtr_P ?_
    refine Tot.pure (show arA .rem (.int .u8 c) (.int .u8 2) = some (.int .u8 (c % 2)) by simp (disch := omega) []) ?_
    refine Tot.pure (show cvInt .i64 (.int .u8 (c % 2)) = some (iv (c % 2)) by simp (disch := omega) [cvInt]) ?_
    obtain ⟨k, hkc⟩ : ∃ k : Nat, (k : Int) = 1048576 + c % 2 := ⟨(1048576 + c % 2).toNat, by omega⟩
    refine Tot.pure (show arA .add (iv 1048576) (iv (c % 2)) = some (iv (k : Int)) by rw [hkc]; simp (disch := omega) []) ?_
    refine Tot.pure (mk_rep (by omega) (by decide) rfl) ?_
    refine law_l2 (by omega) (by omega) hc hkc ?_ k 0 _ _ (by omega) Big.id (by rw [Heap.gpz rfl, Nat.sub_zero]; rfl)
    by_cases h : N + 1 > 10000
    · rw [if_pos (.inr h), decide_eq_true (by omega)]; rfl
    · rw [if_neg (by omega), decide_eq_false (by omega)]; rfl
  | succ d hd =>
    intro i H mm hi hmm g
    refine law30_ShellLong.l0_tot hmm fun mm hmm => ?_
    simp only [law30_ShellLong.l0_b]
    refine Tot.pure (show lenSl (.slice ⟨some (p, 0), k, 1, false⟩) = some (iv (k : Int)) from rfl) ?_
    refine Tot.pure lssN ?_
    rw [decide_eq_true (by omega)]
    refine Tot.pure bT ?_
    simp only [if_true]
    refine Tot.pure (idx_own (by omega)) ?_
    refine Tot.pure (fill_step (b := 10) (by omega) g) ?_
    refine Tot.pure (incN (by omega)) ?_
    exact hd (i + 1) _ mm (by omega) hmm (Heap.gsz rfl)
theorem long_P {a c : Int} (ha : 0 ≤ a ∧ a < 65536) (hc : 0 ≤ c ∧ c < 256) : Tot (fun n => f_law30_ShellLong n [.int .u16 a, .int .u8 c] H) fun v _ => v = .bool true := by
  refine Tot.mono (Q := fun v H' => True ∧ v = .bool true) (law30_ShellLong_tot rfl rfl ?_) fun v H h => h.2
  simp only [law30_ShellLong_b]
  refine Tot.pure (show arA .rem (.int .u16 a) (.int .u16 21) = some (.int .u16 (a % 21)) by simp (disch := omega) []) ?_
  refine Tot.pure (show cvInt .i64 (.int .u16 (a % 21)) = some (iv (a % 21)) by simp (disch := omega) [cvInt]) ?_
  obtain ⟨k, hk⟩ : ∃ k : Nat, (k : Int) = 9990 + a % 21 := ⟨(9990 + a % 21).toNat, by omega⟩
  refine Tot.pure (show arA .add (iv 9990) (iv (a % 21)) = some (iv (k : Int)) by rw [hk]; simp (disch := omega) []) ?_
  refine Tot.pure (mk_rep (by omega) (by decide) rfl) ?_
  exact law_l0 (by omega) (by omega) hc k 0 _ _ (by omega) Big.id (by rw [Heap.gpz rfl, Nat.sub_zero]; rfl)
end N
end Go.AM
end
section
set_option linter.unusedVariables false
set_option linter.unusedSimpArgs false
set_option linter.unusedSimpArgs false
set_option linter.unusedVariables false
set_option maxRecDepth 100000
namespace Go.AM
def isIntK3 (P : Program) (k : IntKind) (t : TypeId) : Bool := match P.underlying t with
  | some (.int q) => q == k
  | _ => false
section
variable {P : Program} {k : Nat} {t : TypeId} {cs : List V}
theorem FT.int3 {q : IntKind} (ht : isIntK3 P q t = true) (h : FT P (k + 1) t cs) : ∃ z, cs = [.int q z] ∧ (Lit.int q z).wf = true := by
  unfold isIntK3 at ht
  unfold FT at h
  split at ht
  · rename_i hu
    simp only [hu] at h
    simp only [beq_iff_eq] at ht
    subst ht; exact h
  · cases ht
theorem isIntK3.one {v : V} {q : IntKind} (ht : isIntK3 P q t = true) : argV P t [v] = v := by
  unfold isIntK3 at ht
  unfold argV
  split at ht
  · rename_i e hu; simp only [hu]; rfl
  · cases ht
end
namespace N
theorem u16_wf {a : Int} (h : (Lit.int .u16 a).wf = true) : 0 ≤ a ∧ a < 65536 := by
  simp only [Lit.wf, IntKind.min, IntKind.max, IntKind.bits, IntKind.signed, Bool.and_eq_true, decide_eq_true_eq] at h
  simp at h
  omega
theorem u8_wf {a : Int} (h : (Lit.int .u8 a).wf = true) : 0 ≤ a ∧ a < 256 := by
  simp only [Lit.wf, IntKind.min, IntKind.max, IntKind.bits, IntKind.signed, Bool.and_eq_true, decide_eq_true_eq] at h
  simp at h
  omega
theorem shellLong_all {t u : TypeId} (ht : isIntK3 P .u16 t = true) (hu : isIntK3 P .u8 u = true) {H : Heap} {us : List V} (h : FTs P 8 [t, u] us) : Tot (fun n => f_law30_ShellLong n us H) fun v _ => v = .bool true := by
  obtain ⟨cs, us', rfl, w1, cs2, us2, rfl, w2, rfl⟩ := h
  obtain ⟨a, rfl, h1⟩ := FT.int3 (k := 7) ht w1
  obtain ⟨c, rfl, h2⟩ := FT.int3 (k := 7) hu w2
  rw [isIntK3.one ht, isIntK3.one hu]
  exact long_P (u16_wf h1) (u8_wf h2)
end N
end Go.AM
end
section
set_option linter.unusedVariables false
set_option linter.unusedSimpArgs false
namespace Go.AM.L
abbrev ty_int : Nat := 3
abbrev ty_bool : Nat := 4
abbrev ty_uint8 : Nat := 5
abbrev ty_string : Nat := 9
abbrev ty_interface : Nat := 20
abbrev ty_p_strings_Builder : Nat := 33
abbrev ty_strings_Builder : Nat := 35
abbrev ty_p_session_Session : Nat := 36
abbrev ty_shell_shell : Nat := 38
abbrev ty_sl_int : Nat := 42
abbrev ty_p_uint8 : Nat := 48
abbrev ty_strings_asciiSet : Nat := 54
abbrev ty_api_Ans : Nat := 83
abbrev ty_api_Cmd : Nat := 86
abbrev ty_p_pdt_Engine : Nat := 95
abbrev ty_api_Point : Nat := 99
abbrev ty_api_Off : Nat := 106
abbrev ty_api_Tri : Nat := 109
abbrev ty_api_Wide : Nat := 112
abbrev ty_uint32 : Nat := 125
abbrev ty_session_Session : Nat := 133
abbrev ty_pdt_Engine : Nat := 140
abbrev ty_api_Dump : Nat := 148
abbrev ty_api_Nat : Nat := 159
abbrev ty_api_Int : Nat := 161
abbrev ty_session_insert : Nat := 172
abbrev ty_session_remove : Nat := 174
abbrev ty_session_move : Nat := 176
abbrev ty_session_wipe : Nat := 178
abbrev ty_session_step : Nat := 179
abbrev ty_session_run : Nat := 181
abbrev ty_session_replace : Nat := 183
abbrev ty_session_export : Nat := 194
abbrev ty_session_judge : Nat := 195
abbrev ty_session_sites : Nat := 196
abbrev ty_session_faces : Nat := 197
abbrev ty_session_sheets : Nat := 198
abbrev ty_api_Vert : Nat := 211
abbrev ty_api_Cell : Nat := 213
abbrev ty_p_mesh_Mesh : Nat := 221
abbrev ty_p_bucket_Grid : Nat := 222
abbrev ty_pdt_sheet : Nat := 226
abbrev ty_p_arena_Arena : Nat := 278
abbrev ty_mesh_Mesh : Nat := 281
abbrev ty_arena_Arena : Nat := 355
abbrev ty_bucket_Grid : Nat := 386
abbrev ty_api_Quad : Nat := 438
abbrev ty_mesh_half : Nat := 453
abbrev ty_mesh_edge : Nat := 456
abbrev ty_2_uint64 : Nat := 560
@[simp] theorem eqlA_ty_api_Nat (s : Sl) : eqlA P ty_api_Nat (.slice s) (.slice ⟨none, 0, 0, false⟩) = some (.bool s.ad.isNone) := by rcases s with ⟨_ | a, l, z, f⟩ <;> kernel_rfl
@[simp] theorem neqA_ty_bool (a b : Bool) : neqA P ty_bool (.bool a) (.bool b) = some (.bool (!(a == b))) := by kernel_rfl
def tabList0 : List (Nat × List (Nat × List Nat)) := [(4, [(4, [0, 4]), (7, [5]), (11, [5])]),
 (5, []),
 (6, []),
 (7, []),
 (8, []),
 (9, []),
 (10, [(7, [0, 1, 2, 3]), (11, [0, 1, 2, 3, 9, 10]), (17, [0, 9, 10])]),
 (11, []),
 (12, []),
 (13, [(3, [4, 10, 11, 12])]),
 (14, []),
 (15, [])]
def tabList1 : List (Nat × List (Nat × List Nat)) := [(16, []),
 (18, [(6, [0, 1, 5])]),
 (19, []),
 (20, []),
 (21, [(1, [0, 1])]),
 (22, [(1, [0, 1])]),
 (28, [(5, [0, 1, 9]), (10, [0, 1, 9, 10]), (16, [1, 9, 10])]),
 (29, []),
 (30, [(10, [0, 1, 5]), (11, [0, 1, 5]), (12, [0, 1, 5, 39, 40, 41]), (18, [0, 1, 5]), (22, [1, 8, 63, 64, 65])]),
 (31, []),
 (34, []),
 (35, [])]
def tabList2 : List (Nat × List (Nat × List Nat)) := [(39, [(15, [0, 1, 5, 6, 7, 8, 9, 10]), (21, [0, 1, 5, 6, 7, 8, 9, 10])]),
 (43, []),
 (44, []),
 (45, []),
 (46, [(3, [0, 1])]),
 (47, []),
 (48, []),
 (49, []),
 (50, []),
 (51, []),
 (58, []),
 (65, [])]
def tabList3 : List (Nat × List (Nat × List Nat)) := [(66, []),
 (67, []),
 (68, []),
 (82, []),
 (83, []),
 (84, []),
 (85, []),
 (86, []),
 (87, []),
 (100, []),
 (101, []),
 (102, [(12, [0, 3, 8, 9, 10]), (17, [0, 3, 8])])]
def tabList4 : List (Nat × List (Nat × List Nat)) := [(111, []),
 (112, [(8, [0, 5, 6])]),
 (120, [(5, [0, 2, 3, 20, 21, 22]), (9, [0, 2, 3]), (10, [0, 2, 3, 43, 44, 45])]),
 (121, []),
 (123, []),
 (124, []),
 (133, [(4, [5, 6, 23, 24, 25]), (9, [5, 6]), (10, [5, 57, 58, 59])]),
 (134, []),
 (135, []),
 (136, [(4, [0, 1, 5, 30]), (7, [0, 1, 5, 6, 30, 33])]),
 (147, []),
 (159, [(4, [0, 2]), (7, [0, 2])])]
def tabList5 : List (Nat × List (Nat × List Nat)) := [(164, [(5, [0, 3, 11, 12])]),
 (165, []),
 (166, []),
 (167, []),
 (168, []),
 (169, [(2, [5, 6, 7])]),
 (170, []),
 (171, []),
 (184, []),
 (189, []),
 (192, []),
 (193, [])]
def tabList6 : List (Nat × List (Nat × List Nat)) := [(194, []),
 (195, [(1, [0, 6, 7, 8])]),
 (196, []),
 (197, []),
 (199, []),
 (201, [(7, [2, 3, 4, 5, 26, 27, 28]), (10, [3, 4, 7, 37]), (14, [2, 3, 4, 5]), (15, [2, 3, 5, 54, 55, 56]), (17, [3, 5, 12, 60]), (20, [3, 5, 12, 13, 14, 61])]),
 (237, []),
 (238, []),
 (239, []),
 (240, []),
 (241, []),
 (242, [(4, [0, 1, 4, 5, 6])])]
def tabList7 : List (Nat × List (Nat × List Nat)) := [(250, []),
 (252, []),
 (253, []),
 (262, []),
 (263, [(7, [0, 1, 5])]),
 (266, []),
 (269, []),
 (270, []),
 (271, []),
 (272, []),
 (273, [(6, [0, 3, 42]), (12, [0, 3]), (15, [0, 3, 9, 74, 75])]),
 (282, [])]
def tabList8 : List (Nat × List (Nat × List Nat)) := [(283, [(1, [0, 4]), (4, [0, 2, 4, 7])]),
 (284, []),
 (285, []),
 (296, []),
 (303, []),
 (307, []),
 (308, []),
 (310, []),
 (311, [(4, [1, 2, 3]), (6, [2, 3, 4, 13, 14]), (10, [2, 3, 4])]),
 (312, []),
 (313, []),
 (316, [])]
def tabList9 : List (Nat × List (Nat × List Nat)) := [(322, []),
 (323, [(1, [0])]),
 (324, []),
 (327, []),
 (329, []),
 (330, []),
 (331, []),
 (332, []),
 (333, []),
 (334, []),
 (335, []),
 (336, [])]
def tabList10 : List (Nat × List (Nat × List Nat)) := [(352, []),
 (353, []),
 (354, []),
 (355, []),
 (358, [(2, [0, 1, 7, 8])]),
 (366, []),
 (371, []),
 (372, []),
 (374, []),
 (375, []),
 (379, [(3, [1, 5, 17, 18, 19]), (7, [1, 5, 6, 7, 8, 17, 18, 19, 24, 25, 26]), (13, [1, 5, 6, 8, 17, 18, 19])]),
 (384, [])]
def tabList11 : List (Nat × List (Nat × List Nat)) := [(386, []),
 (387, []),
 (388, []),
 (390, []),
 (407, [(5, [4, 5, 6, 7, 8, 9, 27]), (9, [4, 5, 6, 7, 8, 9, 10, 11, 27, 30]), (17, [4, 5, 6, 7, 8, 9, 10, 11, 27]), (19, [4, 6, 8, 9])]),
 (415, []),
 (418, []),
 (434, [(4, [1, 2, 4])]),
 (436, [])]
def tabList : List (Nat × List (Nat × List Nat)) := tabList0 ++ (tabList1 ++ (tabList2 ++ (tabList3 ++ (tabList4 ++ (tabList5 ++ (tabList6 ++ (tabList7 ++ (tabList8 ++ (tabList9 ++ (tabList10 ++ (tabList11)))))))))))
def tabs (f : FuncId) : Option (List (Nat × List Nat)) := tabList.lookup f
noncomputable def extList : List (Nat × (List V → Heap → Option R)) := [((38 : Nat), (extCnt : List V → Heap → Option R)),
 ((64 : Nat), (extId : List V → Heap → Option R)),
 ((77 : Nat), (extIdx : List V → Heap → Option R)),
 ((81 : Nat), (extMk 5 : List V → Heap → Option R)),
 ((172 : Nat), (extSub64 : List V → Heap → Option R)),
 ((370 : Nat), (extAdd64 : List V → Heap → Option R))]
noncomputable def ext (f : FuncId) : Option (List V → Heap → Option R) := extList.lookup f
def faL : List Nat := [13, 15, 195]
def frL : List Nat := [49, 67, 84, 86, 120, 164, 252, 266, 310, 311, 316, 323, 327, 352, 354, 371, 379]
def puL : List Nat := [4, 5, 14, 28, 43, 44, 50, 101, 121, 123, 124, 165, 166, 167, 168, 169, 170, 171, 184, 189, 238, 239, 240, 241, 242, 250, 252, 253, 262, 263, 266, 282, 284, 285, 296, 303, 307, 310, 311, 312, 313, 316, 322, 323, 327, 334, 352, 353, 354, 355, 366, 371, 372, 374, 375, 379, 384, 388, 407, 415, 418, 434, 436]
def pu (f : FuncId) : Bool := puL.contains f
def fa (f : FuncId) : Bool := faL.contains f
def fr (f : FuncId) : Bool := frL.contains f
noncomputable def C : Cfg := { P, tabs, ext, fa, fr, pu, okc := fun N c => okC P N c }
abbrev i_shell_Run : Nat := 4
abbrev i_law30_lives : Nat := 5
abbrev i_strings_Split : Nat := 6
abbrev i_strings_TrimSuffix : Nat := 7
abbrev i_shell_shell_line : Nat := 8
abbrev i_strings_Builder_String : Nat := 9
abbrev i_strings_genSplit : Nat := 10
abbrev i_internal_stringslite_TrimSuffix : Nat := 11
abbrev i_strings_Trim : Nat := 12
abbrev i_shell_numbers : Nat := 13
abbrev i_shell_many : Nat := 14
abbrev i_shell_shell_put : Nat := 15
abbrev i_shell_shell_does : Nat := 16
abbrev i_strings_explode : Nat := 17
abbrev i_strings_Count : Nat := 18
abbrev i_strings_Index : Nat := 19
abbrev i_internal_stringslite_HasSuffix : Nat := 20
abbrev i_strings_trimLeftByte : Nat := 21
abbrev i_strings_trimRightByte : Nat := 22
abbrev i_strings_makeASCIISet : Nat := 23
abbrev i_strings_trimLeftASCII : Nat := 24
abbrev i_strings_trimRightASCII : Nat := 25
abbrev i_strings_trimLeftUnicode : Nat := 26
abbrev i_strings_trimRightUnicode : Nat := 27
abbrev i_unicode_utf8_RuneCountInString : Nat := 36
abbrev i_internal_bytealg_CountString : Nat := 38
abbrev i_internal_stringslite_Index : Nat := 39
abbrev i_internal_stringslite_IndexByte : Nat := 58
abbrev i_internal_bytealg_IndexString : Nat := 59
abbrev i_internal_bytealg_Cutover : Nat := 60
abbrev i_internal_bytealg_IndexRabinKarp_string : Nat := 61
abbrev i_internal_bytealg_IndexByteString : Nat := 77
@[irreducible] noncomputable def f_shell_Run (n : Nat) (args : List V) (H : Heap) : Option R := callA C n 4 args H
@[irreducible] noncomputable def f_law30_lives (n : Nat) (args : List V) (H : Heap) : Option R := callA C n 5 args H
@[irreducible] noncomputable def f_strings_Split (n : Nat) (args : List V) (H : Heap) : Option R := callA C n 6 args H
@[irreducible] noncomputable def f_strings_TrimSuffix (n : Nat) (args : List V) (H : Heap) : Option R := callA C n 7 args H
@[irreducible] noncomputable def f_shell_shell_line (n : Nat) (args : List V) (H : Heap) : Option R := callA C n 8 args H
@[irreducible] noncomputable def f_strings_Builder_String (n : Nat) (args : List V) (H : Heap) : Option R := callA C n 9 args H
@[irreducible] noncomputable def f_strings_genSplit (n : Nat) (args : List V) (H : Heap) : Option R := callA C n 10 args H
@[irreducible] noncomputable def f_internal_stringslite_TrimSuffix (n : Nat) (args : List V) (H : Heap) : Option R := callA C n 11 args H
@[irreducible] noncomputable def f_strings_Trim (n : Nat) (args : List V) (H : Heap) : Option R := callA C n 12 args H
@[irreducible] noncomputable def f_shell_numbers (n : Nat) (args : List V) (H : Heap) : Option R := callA C n 13 args H
@[irreducible] noncomputable def f_shell_many (n : Nat) (args : List V) (H : Heap) : Option R := callA C n 14 args H
@[irreducible] noncomputable def f_shell_shell_put (n : Nat) (args : List V) (H : Heap) : Option R := callA C n 15 args H
@[irreducible] noncomputable def f_shell_shell_does (n : Nat) (args : List V) (H : Heap) : Option R := callA C n 16 args H
@[irreducible] noncomputable def f_strings_explode (n : Nat) (args : List V) (H : Heap) : Option R := callA C n 17 args H
@[irreducible] noncomputable def f_strings_Count (n : Nat) (args : List V) (H : Heap) : Option R := callA C n 18 args H
@[irreducible] noncomputable def f_strings_Index (n : Nat) (args : List V) (H : Heap) : Option R := callA C n 19 args H
@[irreducible] noncomputable def f_internal_stringslite_HasSuffix (n : Nat) (args : List V) (H : Heap) : Option R := callA C n 20 args H
@[irreducible] noncomputable def f_strings_trimLeftByte (n : Nat) (args : List V) (H : Heap) : Option R := callA C n 21 args H
@[irreducible] noncomputable def f_strings_trimRightByte (n : Nat) (args : List V) (H : Heap) : Option R := callA C n 22 args H
@[irreducible] noncomputable def f_strings_makeASCIISet (n : Nat) (args : List V) (H : Heap) : Option R := callA C n 23 args H
@[irreducible] noncomputable def f_strings_trimLeftASCII (n : Nat) (args : List V) (H : Heap) : Option R := callA C n 24 args H
@[irreducible] noncomputable def f_strings_trimRightASCII (n : Nat) (args : List V) (H : Heap) : Option R := callA C n 25 args H
@[irreducible] noncomputable def f_strings_trimLeftUnicode (n : Nat) (args : List V) (H : Heap) : Option R := callA C n 26 args H
@[irreducible] noncomputable def f_strings_trimRightUnicode (n : Nat) (args : List V) (H : Heap) : Option R := callA C n 27 args H
@[irreducible] noncomputable def f_unicode_utf8_RuneCountInString (n : Nat) (args : List V) (H : Heap) : Option R := callA C n 36 args H
@[irreducible] noncomputable def f_internal_bytealg_CountString (n : Nat) (args : List V) (H : Heap) : Option R := callA C n 38 args H
@[irreducible] noncomputable def f_internal_stringslite_Index (n : Nat) (args : List V) (H : Heap) : Option R := callA C n 39 args H
@[irreducible] noncomputable def f_internal_stringslite_IndexByte (n : Nat) (args : List V) (H : Heap) : Option R := callA C n 58 args H
@[irreducible] noncomputable def f_internal_bytealg_IndexString (n : Nat) (args : List V) (H : Heap) : Option R := callA C n 59 args H
@[irreducible] noncomputable def f_internal_bytealg_Cutover (n : Nat) (args : List V) (H : Heap) : Option R := callA C n 60 args H
@[irreducible] noncomputable def f_internal_bytealg_IndexRabinKarp_string (n : Nat) (args : List V) (H : Heap) : Option R := callA C n 61 args H
@[irreducible] noncomputable def f_internal_bytealg_IndexByteString (n : Nat) (args : List V) (H : Heap) : Option R := callA C n 77 args H
theorem internal_bytealg_CountString_ext {H : Heap} {args : List V} {Q : V → Heap → Prop} (h : Tot (fun _ => (extCnt : List V → Heap → Option R) args H) Q) : Tot (fun n => f_internal_bytealg_CountString n args H) Q := Tot.fn (fun n => by unfold f_internal_bytealg_CountString; kernel_rfl) h
theorem internal_bytealg_IndexByteString_ext {H : Heap} {args : List V} {Q : V → Heap → Prop} (h : Tot (fun _ => (extIdx : List V → Heap → Option R) args H) Q) : Tot (fun n => f_internal_bytealg_IndexByteString n args H) Q := Tot.fn (fun n => by unfold f_internal_bytealg_IndexByteString; kernel_rfl) h
end Go.AM.L
end
section
set_option linter.unusedVariables false
set_option linter.unusedSimpArgs false
set_option linter.unusedVariables false
namespace Go.AM
universe u
section
variable {α : Type u}
def fcN (n : Nat) (k : Nat → α) : α := Nat.casesOn (motive := fun _ => α) n (k 0) fun m => k (Nat.succ m)
theorem fcN_eq (n : Nat) (k : Nat → α) : fcN n k = k n := by cases n <;> rfl
def fcI (i : Int) (k : Int → α) : α := Int.casesOn (motive := fun _ => α) i (fun n => fcN n fun n => k (Int.ofNat n)) (fun n => fcN n fun n => k (Int.negSucc n))
theorem fcI_eq (n : Int) (k : Int → α) : fcI n k = k n := by cases n <;> simp [fcI, fcN_eq]
def fcB (b : Bool) (k : Bool → α) : α := Bool.casesOn (motive := fun _ => α) b (k false) (k true)
theorem fcB_eq (b : Bool) (k : Bool → α) : fcB b k = k b := by cases b <;> rfl
def fcK (b : IntKind) (k : IntKind → α) : α := match b with
  | .i8 => k .i8 | .i16 => k .i16 | .i32 => k .i32 | .i64 => k .i64 | .u8 => k .u8 | .u16 => k .u16 | .u32 => k .u32 | .u64 => k .u64
theorem fcK_eq (b : IntKind) (k : IntKind → α) : fcK b k = k b := by cases b <;> rfl
def fcO {β : Type} (fb : β → (β → α) → α) (o : Option β) (k : Option β → α) : α := match o with
  | none => k none
  | some x => fb x fun x => k (some x)
theorem fcO_eq {β : Type} {fb : β → (β → α) → α} (h : ∀ x k, fb x k = k x) (o : Option β) (k : Option β → α) : fcO fb o k = k o := by cases o <;> simp [fcO, h]
def fcP (o : Nat × Nat) (k : Nat × Nat → α) : α := match o with
  | (a, b) => fcN a fun a => fcN b fun b => k (a, b)
theorem fcP_eq (o : Nat × Nat) (k : Nat × Nat → α) : fcP o k = k o := by cases o; simp [fcP, fcN_eq]
def fcS (o : Sl) (k : Sl → α) : α := match o with
  | ⟨a, l, z, f⟩ => fcO fcP a fun a => fcN l fun l => fcN z fun z => fcB f fun f => k ⟨a, l, z, f⟩
theorem fcS_eq (o : Sl) (k : Sl → α) : fcS o k = k o := by cases o; simp [fcS, fcN_eq, fcB_eq, fcO_eq fcP_eq]
mutual
def fcV : V → (V → α) → α
  | .bool b, k => fcB b fun b => k (.bool b)
  | .int d n, k => fcK d fun d => fcI n fun n => k (.int d n)
  | .ptr a, k => fcO fcP a fun a => k (.ptr a)
  | .slice s, k => fcS s fun s => k (.slice s)
  | .map r, k => fcO fcN r fun r => k (.map r)
  | .agg cs, k => fcVs cs fun cs => k (.agg cs)
  | .tuple cs, k => fcVs cs fun cs => k (.tuple cs)
  | .list n z cs, k => fcN n fun n => fcN z fun z => fcVs cs fun cs => k (.list n z cs)
  | .lptr cs, k => fcVs cs fun cs => k (.lptr cs)
  | .dead, k => k .dead
  | .str s, k => k (.str s)
  | .func f a b, k => k (.func f a b)
  | .nilFunc, k => k .nilFunc
  | .iface t v, k => k (.iface t v)
  | .nilIface, k => k .nilIface
  | .yld j, k => k (.yld j)
def fcVs : List V → (List V → α) → α
  | [], k => k []
  | v :: vs, k => fcV v fun v => fcVs vs fun vs => k (v :: vs)
end
mutual
theorem fcV_eq : ∀ (v : V) (k : V → α), fcV v k = k v
  | .bool b, k => by simp [fcV, fcB_eq]
  | .int d n, k => by simp [fcV, fcK_eq, fcI_eq]
  | .ptr a, k => by simp [fcV, fcO_eq fcP_eq]
  | .slice s, k => by simp [fcV, fcS_eq]
  | .map r, k => by simp [fcV, fcO_eq fcN_eq]
  | .agg cs, k => by rw [fcV, fcVs_eq]
  | .tuple cs, k => by rw [fcV, fcVs_eq]
  | .list n z cs, k => by rw [fcV, fcN_eq, fcN_eq, fcVs_eq]
  | .lptr cs, k => by rw [fcV, fcVs_eq]
  | .dead, k => rfl
  | .str s, k => rfl
  | .func f a b, k => rfl
  | .nilFunc, k => rfl
  | .iface t v, k => rfl
  | .nilIface, k => rfl
  | .yld j, k => rfl
theorem fcVs_eq : ∀ (v : List V) (k : List V → α), fcVs v k = k v
  | [], k => rfl
  | v :: vs, k => by rw [fcVs, fcV_eq, fcVs_eq]
end
end
def fcall (call : FuncId → List V → Heap → Option R) (f : FuncId) (args : List V) (H : Heap) : Option R := fcN f fun f => fcVs args fun args => call f args H
theorem fcall_eq (call : FuncId → List V → Heap → Option R) : fcall call = call := by
  funext f args H; rw [fcall, fcN_eq, fcVs_eq]
def bodyA (C : Cfg) (call : FuncId → List V → Heap → Option R) (n : Nat) (f : FuncId) (args : List V) (H : Heap) : Option R :=
  if yB ≤ f then yieldA C (fun tab N c => exec C.P call tab N (some (f - yB)) n c) (f - yB) args H else
  match C.ext f with
  | some g => g args H
  | none => match C.tabs f with
    | some tab => match C.P.funcs[f]? with
      | some fn => match fn.body with
        | some c => if C.pu f = true then pureA args H fun args => exec C.P call tab fn.ntmps none n c (argsA 0 args) ⟨0, .nil⟩ (kRet C.P (C.fr f) fn.results.toList)
          else inA (C.fa f) args H fun args H => exec C.P call tab fn.ntmps none n c (argsA 0 args) H (kRet C.P (C.fr f) fn.results.toList)
        | none => none
      | none => none
    | none => none
theorem bodyA_e {C : Cfg} {n : Nat} {f : FuncId} {a : List V} {H : Heap} : bodyA C (fcall (callA C n)) n f a H = callA C (n + 1) f a H := by
  rw [fcall_eq]; unfold callA; rfl
class Fc (α : Type) where
  fc : {ρ : Type} → α → (α → ρ) → ρ
  eq : ∀ {ρ : Type} (x : α) (k : α → ρ), fc x k = k x
instance : Fc V := ⟨fcV, fcV_eq⟩
instance : Fc Bool := ⟨fcB, fcB_eq⟩
instance : Fc Nat := ⟨fcN, fcN_eq⟩
instance : Fc Heap := ⟨fun x k => k x, fun _ _ => rfl⟩
instance : Fc O := ⟨fun x k => k x, fun _ _ => rfl⟩
instance : Fc Unit := ⟨fun x k => k x, fun _ _ => rfl⟩
instance {α β : Type} [Fc α] [Fc β] : Fc (α × β) := ⟨fun x k => match x with | (a, b) => Fc.fc a fun a => Fc.fc b fun b => k (a, b), fun x k => by cases x; simp [Fc.eq]⟩
abbrev B3 := {α β : Type} → [Fc α] → Option α → (α → Option β) → Option β
def bf {α β : Type} [Fc α] (x : Option α) (f : α → Option β) : Option β := match x with
  | some a => Fc.fc a f
  | none => none
def bdI {α β : Type} [Fc α] (x : Option α) (f : α → Option β) : Option β := bd x f
theorem bf_is : (@bf : B3) = @bdI := by
  funext α β _ x f
  cases x with
  | none => rfl
  | some a => exact Fc.eq a f
end Go.AM
end
section
set_option linter.unusedVariables false
set_option linter.unusedSimpArgs false
set_option maxRecDepth 1000000
set_option linter.unusedVariables false
namespace Go.AM.L
@[irreducible] noncomputable def shell_Run.p0 (n : Nat) (v0 v4 : V) (H : Heap) : Option R := E C n 4 [1, 1, 1] [(0, v0), (4, v4)] H (kR C 4)
@[irreducible] noncomputable def shell_Run.l1 (n m0 : Nat) (v5 : V) (H : Heap) : Option R := Lp C n 4 [1, 1, 1, 1, 1, 0, 0, 0] m0 [(5, v5)] H (kB 0 (kC C n 4 [1, 1, 1, 1, 1, 1] (kR C 4)))
@[irreducible] noncomputable def shell_Run.p2 (n : Nat) (v5 : V) (H : Heap) : Option R := E C n 4 [1, 1, 1, 1, 1, 1] [(5, v5)] H (kR C 4)
noncomputable def shell_Run.r_p2 (bd : B3) (call : FuncId → List V → Heap → Option R) (n : Nat) (v5 : V) (H : Heap) : Option R :=
 (bd (nilC v5) fun t47_1 =>
 (bd (faA 0 t47_1) fun t48_2 =>
 (bd (call 9 [t48_2] H) fun r3 =>
 (some (.tuple [r3.1, (.int .i64 0)], r3.2)))))
theorem shell_Run.r_p2_e (n : Nat) : shell_Run.r_p2 @bdI (callA C n) n = shell_Run.p2 n := by
  funext v5 H
  unfold shell_Run.r_p2
  kernel_rfl
noncomputable def shell_Run.r_l1 (bd : B3) (call : FuncId → List V → Heap → Option R) (n : Nat) (s0 : V → Heap → Option R) (v5 : V) (H : Heap) : Option R :=
 (bd (nilC v5) fun t24_1 =>
 (bd (faA 3 t24_1) fun t25_2 =>
 (bd (ld1 t25_2 H) fun t26_3 =>
 (bd (lenSl t26_3) fun t27_4 =>
 (bd (arA .gtr t27_4 (.int .i64 0)) fun t28_5 =>
 (bd (asB t28_5) fun b6 =>
 if b6 = true then
 (bd (nilC v5) fun t30_7 =>
 (bd (faA 3 t30_7) fun t31_8 =>
 (bd (ld1 t31_8 H) fun t32_9 =>
 (bd (idxS 1 t32_9 (.int .i64 0)) fun t33_10 =>
 (bd (ld1 t33_10 H) fun t34_11 =>
 (bd (nilC v5) fun t37_12 =>
 (bd (faA 3 t37_12) fun t38_13 =>
 (bd (ld1 t38_13 H) fun t39_14 =>
 (bd (slSl 1 t39_14 (some (.int .i64 1)) none) fun t40_15 =>
 (bd (nilC v5) fun t41_16 =>
 (bd (faA 3 t41_16) fun t42_17 =>
 (bd (stA 1 t42_17 t40_15 H) fun H18 =>
 (bd (call 8 [v5, t34_11] H18) fun r19 =>
 (s0 v5 r19.2))))))))))))))
 else
 (shell_Run.r_p2 bd call n v5 H)))))))
theorem shell_Run.r_l1_e (n m0 : Nat) : shell_Run.r_l1 @bdI (callA C n) n (shell_Run.l1 n m0) = shell_Run.l1 n (m0 + 1) := by
  funext v5 H
  unfold shell_Run.r_l1
  rewrite [shell_Run.r_p2_e]
  kernel_rfl
noncomputable def shell_Run.r_l1_lp (bd : B3) (call : FuncId → List V → Heap → Option R) (n : Nat) (m : Nat) : V → Heap → Option R := Nat.rec (motive := fun _ => V → Heap → Option R) (fun _ _ => none) (fun _ self => shell_Run.r_l1 bd call n self) m
theorem shell_Run.r_l1_lp_e (n : Nat) : shell_Run.r_l1_lp @bdI (callA C n) n = shell_Run.l1 n := by
  funext m
  induction m with
  | zero => funext v5 H; kernel_rfl
  | succ k ih => exact (congrArg (shell_Run.r_l1 @bdI (callA C n) n) ih).trans (shell_Run.r_l1_e n k)
noncomputable def shell_Run.r_p0 (bd : B3) (call : FuncId → List V → Heap → Option R) (n : Nat) (v0 v4 : V) (H : Heap) : Option R :=
 (bd (lenStr v0) fun t13_1 =>
 (bd (arA .gtr t13_1 (.int .i64 1048576)) fun t14_2 =>
 (bd (asB t14_2) fun b3 =>
 if b3 = true then
 (some (.tuple [(.str []), (.int .i64 5)], H))
 else
 (bd (lenSl v4) fun t17_4 =>
 (bd (arA .gtr t17_4 (.int .i64 10000)) fun t18_5 =>
 (bd (asB t18_5) fun b6 =>
 if b6 = true then
 (some (.tuple [(.str []), (.int .i64 5)], H))
 else
 (bd (flA [(0, 2), (2, 1), (3, 1)] [(.ptr none), (.slice ⟨none, 0, 0, false⟩), (.ptr none), (.slice ⟨none, 0, 0, false⟩)] [(2, v4)]) fun t21_7 =>
 (bd (boxA ty_shell_shell t21_7) fun o8 =>
 (shell_Run.r_l1_lp bd call n n (.ptr (some (H.n, 0))) (H.push o8))))))))))
theorem shell_Run.r_p0_e (n : Nat) : shell_Run.r_p0 @bdI (callA C n) n = shell_Run.p0 n := by
  funext v0 v4 H
  unfold shell_Run.r_p0
  rewrite [shell_Run.r_l1_lp_e]
  kernel_rfl
noncomputable def shell_Run.r (bd : B3) (call : FuncId → List V → Heap → Option R) (n : Nat) (v0 : V) (H : Heap) : Option R :=
 (bd (arA .neq v0 (.str [])) fun t8_1 =>
 (bd (asB t8_1) fun b2 =>
 if b2 = true then
 (bd (call 7 [v0, (.str [10])] H) fun r3 =>
 (bd (call 6 [r3.1, (.str [10])] r3.2) fun r4 =>
 (shell_Run.r_p0 bd call n v0 r4.1 r4.2)))
 else
 (shell_Run.r_p0 bd call n v0 (.slice ⟨none, 0, 0, false⟩) H)))
theorem shell_Run.r_e (n : Nat) (v0 : V) (H : Heap) : shell_Run.r @bdI (callA C n) n v0 H = E C n 4 [] (argsA 0 [v0]) H (kR C 4) := by
  unfold shell_Run.r
  rewrite [shell_Run.r_p0_e]
  kernel_rfl
noncomputable def shell_Run.rf (bd : B3) (call : FuncId → List V → Heap → Option R) (n : Nat) (a : List V) (H : Heap) : Option R := pureA a H fun a => (match a with | [v0] => shell_Run.r bd call n v0 ⟨0, .nil⟩ | a => E C n 4 [] (argsA 0 a) ⟨0, .nil⟩ (kR C 4))
theorem shell_Run.rf_b (n : Nat) (a : List V) (H : Heap) : (match a with | [v0] => shell_Run.r @bdI (callA C n) n v0 H | a => E C n 4 [] (argsA 0 a) H (kR C 4)) = E C n 4 [] (argsA 0 a) H (kR C 4) := by
  split
  · exact shell_Run.r_e n _ H
  · rfl
theorem shell_Run.rf_e (n : Nat) (a : List V) (H : Heap) : shell_Run.rf @bdI (callA C n) n a H = callA C (n + 1) 4 a H := by
  unfold shell_Run.rf
  refine (congrArg (pureA a H) (funext fun a => shell_Run.rf_b n a ⟨0, .nil⟩)).trans ?_
  kernel_rfl
noncomputable def law30_lives.r (bd : B3) (call : FuncId → List V → Heap → Option R) (n : Nat) (H : Heap) : Option R :=
 (bd (call 4 [(.str [111, 112, 101, 110, 32, 49, 48, 32, 53, 10, 105, 110, 115, 101, 114, 116, 32, 51, 32, 52, 10, 115, 104, 101, 101, 116, 115, 10, 119, 104, 97, 116])] H) fun r1 =>
 (bd (extA r1.1 0) fun t5_2 =>
 (bd (extA r1.1 1) fun t6_3 =>
 (bd (arA .eql t5_2 (.str [111, 107, 10, 105, 100, 32, 48, 10, 115, 104, 101, 101, 116, 115, 32, 51, 10, 63, 32, 119, 104, 97, 116, 10])) fun t8_4 =>
 (bd (asB t8_4) fun b5 =>
 if b5 = true then
 (bd (arA .eql t6_3 (.int .i64 0)) fun t11_6 =>
 (some (t11_6, r1.2)))
 else
 (some ((.bool false), r1.2)))))))
theorem law30_lives.r_e (n : Nat) (H : Heap) : law30_lives.r @bdI (callA C n) n H = E C n 5 [] (argsA 0 []) H (kR C 5) := by
  unfold law30_lives.r
  kernel_rfl
noncomputable def law30_lives.rf (bd : B3) (call : FuncId → List V → Heap → Option R) (n : Nat) (a : List V) (H : Heap) : Option R := pureA a H fun a => (match a with | [] => law30_lives.r bd call n ⟨0, .nil⟩ | a => E C n 5 [] (argsA 0 a) ⟨0, .nil⟩ (kR C 5))
theorem law30_lives.rf_b (n : Nat) (a : List V) (H : Heap) : (match a with | [] => law30_lives.r @bdI (callA C n) n H | a => E C n 5 [] (argsA 0 a) H (kR C 5)) = E C n 5 [] (argsA 0 a) H (kR C 5) := by
  split
  · exact law30_lives.r_e n H
  · rfl
theorem law30_lives.rf_e (n : Nat) (a : List V) (H : Heap) : law30_lives.rf @bdI (callA C n) n a H = callA C (n + 1) 5 a H := by
  unfold law30_lives.rf
  refine (congrArg (pureA a H) (funext fun a => law30_lives.rf_b n a ⟨0, .nil⟩)).trans ?_
  kernel_rfl
noncomputable def strings_Split.r (bd : B3) (call : FuncId → List V → Heap → Option R) (n : Nat) (v0 v1 : V) (H : Heap) : Option R :=
 (bd (call 10 [v0, v1, (.int .i64 0), (.int .i64 (-1))] H) fun r1 =>
 (some (r1.1, r1.2)))
theorem strings_Split.r_e (n : Nat) (v0 v1 : V) (H : Heap) : strings_Split.r @bdI (callA C n) n v0 v1 H = E C n 6 [] (argsA 0 [v0, v1]) H (kR C 6) := by
  unfold strings_Split.r
  kernel_rfl
noncomputable def strings_Split.rf (bd : B3) (call : FuncId → List V → Heap → Option R) (n : Nat) (a : List V) (H : Heap) : Option R := (match a with | [v0, v1] => strings_Split.r bd call n v0 v1 H | a => E C n 6 [] (argsA 0 a) H (kR C 6))
theorem strings_Split.rf_b (n : Nat) (a : List V) (H : Heap) : (match a with | [v0, v1] => strings_Split.r @bdI (callA C n) n v0 v1 H | a => E C n 6 [] (argsA 0 a) H (kR C 6)) = E C n 6 [] (argsA 0 a) H (kR C 6) := by
  split
  · exact strings_Split.r_e n _ _ H
  · rfl
theorem strings_Split.rf_e (n : Nat) (a : List V) (H : Heap) : strings_Split.rf @bdI (callA C n) n a H = callA C (n + 1) 6 a H := by
  unfold strings_Split.rf
  refine (strings_Split.rf_b n a H).trans ?_
  kernel_rfl
noncomputable def strings_TrimSuffix.r (bd : B3) (call : FuncId → List V → Heap → Option R) (n : Nat) (v0 v1 : V) (H : Heap) : Option R :=
 (bd (call 11 [v0, v1] H) fun r1 =>
 (some (r1.1, r1.2)))
theorem strings_TrimSuffix.r_e (n : Nat) (v0 v1 : V) (H : Heap) : strings_TrimSuffix.r @bdI (callA C n) n v0 v1 H = E C n 7 [] (argsA 0 [v0, v1]) H (kR C 7) := by
  unfold strings_TrimSuffix.r
  kernel_rfl
noncomputable def strings_TrimSuffix.rf (bd : B3) (call : FuncId → List V → Heap → Option R) (n : Nat) (a : List V) (H : Heap) : Option R := (match a with | [v0, v1] => strings_TrimSuffix.r bd call n v0 v1 H | a => E C n 7 [] (argsA 0 a) H (kR C 7))
theorem strings_TrimSuffix.rf_b (n : Nat) (a : List V) (H : Heap) : (match a with | [v0, v1] => strings_TrimSuffix.r @bdI (callA C n) n v0 v1 H | a => E C n 7 [] (argsA 0 a) H (kR C 7)) = E C n 7 [] (argsA 0 a) H (kR C 7) := by
  split
  · exact strings_TrimSuffix.r_e n _ _ H
  · rfl
theorem strings_TrimSuffix.rf_e (n : Nat) (a : List V) (H : Heap) : strings_TrimSuffix.rf @bdI (callA C n) n a H = callA C (n + 1) 7 a H := by
  unfold strings_TrimSuffix.rf
  refine (strings_TrimSuffix.rf_b n a H).trans ?_
  kernel_rfl
noncomputable def shell_shell_line.r (bd : B3) (call : FuncId → List V → Heap → Option R) (n : Nat) (v0 v1 : V) (H : Heap) : Option R :=
 (bd (call 12 [v1, (.str [32])] H) fun r1 =>
 (bd (arA .eql r1.1 (.str [])) fun t9_2 =>
 (bd (asB t9_2) fun b3 =>
 if b3 = true then
 (some (.tuple [], r1.2))
 else
 (bd (ixStr v1 (.int .i64 0)) fun t12_4 =>
 (bd (arA .eql t12_4 (.int .u8 35)) fun t13_5 =>
 (bd (asB t13_5) fun b6 =>
 if b6 = true then
 (some (.tuple [], r1.2))
 else
 (bd (call 6 [v1, (.str [32])] r1.2) fun r7 =>
 (bd (slSl 1 r7.1 (some (.int .i64 1)) none) fun t19_8 =>
 (bd (call 13 [t19_8] r7.2) fun r9 =>
 (bd (extA r9.1 0) fun t21_10 =>
 (bd (extA r9.1 1) fun t22_11 =>
 (bd (unA .not t22_11) fun t24_12 =>
 (bd (asB t24_12) fun b13 =>
 if b13 = true then
 (bd (bSl 1 ty_string [(.str [])] 2 [(0, (.str [63])), (1, v1)]) fun o14 =>
 (bd (call 15 [v0, (.slice ⟨some (r9.2.n, 0), 2, 1, false⟩)] (r9.2.push o14)) fun r15 =>
 (some (.tuple [], r15.2))))
 else
 (bd (idxS 1 r7.1 (.int .i64 0)) fun t27_16 =>
 (bd (ld1 t27_16 r9.2) fun t28_17 =>
 (bd (call 14 [t28_17] r9.2) fun r18 =>
 (bd (lenSl t21_10) fun t31_19 =>
 (bd (arA .neq r18.1 t31_19) fun t32_20 =>
 (bd (asB t32_20) fun b21 =>
 if b21 = true then
 (bd (bSl 1 ty_string [(.str [])] 2 [(0, (.str [63])), (1, v1)]) fun o22 =>
 (bd (call 15 [v0, (.slice ⟨some (r18.2.n, 0), 2, 1, false⟩)] (r18.2.push o22)) fun r23 =>
 (some (.tuple [], r23.2))))
 else
 (bd (idxS 1 r7.1 (.int .i64 0)) fun t40_24 =>
 (bd (ld1 t40_24 r18.2) fun t41_25 =>
 (bd (call 16 [v0, t41_25, t21_10] r18.2) fun r26 =>
 (some (.tuple [], r26.2))))))))))))))))))))))))
theorem shell_shell_line.r_e (n : Nat) (v0 v1 : V) (H : Heap) : shell_shell_line.r @bdI (callA C n) n v0 v1 H = E C n 8 [] (argsA 0 [v0, v1]) H (kR C 8) := by
  unfold shell_shell_line.r
  kernel_rfl
noncomputable def shell_shell_line.rf (bd : B3) (call : FuncId → List V → Heap → Option R) (n : Nat) (a : List V) (H : Heap) : Option R := (match a with | [v0, v1] => shell_shell_line.r bd call n v0 v1 H | a => E C n 8 [] (argsA 0 a) H (kR C 8))
theorem shell_shell_line.rf_b (n : Nat) (a : List V) (H : Heap) : (match a with | [v0, v1] => shell_shell_line.r @bdI (callA C n) n v0 v1 H | a => E C n 8 [] (argsA 0 a) H (kR C 8)) = E C n 8 [] (argsA 0 a) H (kR C 8) := by
  split
  · exact shell_shell_line.r_e n _ _ H
  · rfl
theorem shell_shell_line.rf_e (n : Nat) (a : List V) (H : Heap) : shell_shell_line.rf @bdI (callA C n) n a H = callA C (n + 1) 8 a H := by
  unfold shell_shell_line.rf
  refine (shell_shell_line.rf_b n a H).trans ?_
  kernel_rfl
noncomputable def strings_Builder_String.r (bd : B3) (call : FuncId → List V → Heap → Option R) (n : Nat) (v0 : V) (H : Heap) : Option R :=
 (bd (nilC v0) fun t4_1 =>
 (bd (faA 1 t4_1) fun t5_2 =>
 (bd (ld1 t5_2 (H.more 0)) fun t6_3 =>
 (bd (slData t6_3) fun t7_4 =>
 (bd (nilC v0) fun t9_5 =>
 (bd (faA 1 t9_5) fun t10_6 =>
 (bd (ld1 t10_6 (H.more 0)) fun t11_7 =>
 (bd (chk (ld1 t10_6 (H.more 0)) t11_7) fun _ =>
 (bd (lenSl t11_7) fun t12_8 =>
 (bd (unStrA P ty_p_uint8 t7_4 t12_8 (H.more 0)) fun p9 =>
 (some (p9.1, p9.2))))))))))))
theorem strings_Builder_String.r_e (n : Nat) (v0 : V) (H : Heap) : strings_Builder_String.r @bdI (callA C n) n v0 H = E C n 9 [] (argsA 0 [v0]) H (kR C 9) := by
  unfold strings_Builder_String.r
  kernel_rfl
noncomputable def strings_Builder_String.rf (bd : B3) (call : FuncId → List V → Heap → Option R) (n : Nat) (a : List V) (H : Heap) : Option R := (match a with | [v0] => strings_Builder_String.r bd call n v0 H | a => E C n 9 [] (argsA 0 a) H (kR C 9))
theorem strings_Builder_String.rf_b (n : Nat) (a : List V) (H : Heap) : (match a with | [v0] => strings_Builder_String.r @bdI (callA C n) n v0 H | a => E C n 9 [] (argsA 0 a) H (kR C 9)) = E C n 9 [] (argsA 0 a) H (kR C 9) := by
  split
  · exact strings_Builder_String.r_e n _ H
  · rfl
theorem strings_Builder_String.rf_e (n : Nat) (a : List V) (H : Heap) : strings_Builder_String.rf @bdI (callA C n) n a H = callA C (n + 1) 9 a H := by
  unfold strings_Builder_String.rf
  refine (strings_Builder_String.rf_b n a H).trans ?_
  kernel_rfl
@[irreducible] noncomputable def strings_genSplit.p0 (n : Nat) (v0 v1 v2 v3 : V) (H : Heap) : Option R := E C n 10 [1, 1, 1, 1] [(0, v0), (1, v1), (2, v2), (3, v3)] H (kR C 10)
@[irreducible] noncomputable def strings_genSplit.l1 (n m0 : Nat) (v0 v1 v2 v3 v9 v10 : V) (H : Heap) : Option R := Lp C n 10 [1, 1, 1, 1, 1, 1, 1, 1, 0, 0, 0] m0 [(0, v0), (1, v1), (2, v2), (3, v3), (9, v9), (10, v10)] H (kB 0 (kC C n 10 [1, 1, 1, 1, 1, 1, 1, 1, 1] (kR C 10)))
@[irreducible] noncomputable def strings_genSplit.p2 (n : Nat) (v0 v9 v10 : V) (H : Heap) : Option R := E C n 10 [1, 1, 1, 1, 1, 1, 1, 1, 1] [(0, v0), (9, v9), (10, v10)] H (kR C 10)
noncomputable def strings_genSplit.r_p2 (bd : B3) (call : FuncId → List V → Heap → Option R) (n : Nat) (v0 v9 v10 : V) (H : Heap) : Option R :=
 (bd (idxS 1 v9 v10) fun t61_1 =>
 (bd (stA 1 t61_1 v0 H) fun H2 =>
 (bd (arA .add v10 (.int .i64 1)) fun t64_3 =>
 (bd (slSl 1 v9 none (some t64_3)) fun t65_4 =>
 (some (t65_4, H2))))))
theorem strings_genSplit.r_p2_e (n : Nat) : strings_genSplit.r_p2 @bdI (callA C n) n = strings_genSplit.p2 n := by
  funext v0 v9 v10 H
  unfold strings_genSplit.r_p2
  kernel_rfl
noncomputable def strings_genSplit.r_l1 (bd : B3) (call : FuncId → List V → Heap → Option R) (n : Nat) (s0 : V → V → V → V → V → V → Heap → Option R) (v0 v1 v2 v3 v9 v10 : V) (H : Heap) : Option R :=
 (bd (arA .lss v10 v3) fun t36_1 =>
 (bd (asB t36_1) fun b2 =>
 if b2 = true then
 (bd (call 19 [v0, v1] H) fun r3 =>
 (bd (arA .lss r3.1 (.int .i64 0)) fun t41_4 =>
 (bd (asB t41_4) fun b5 =>
 if b5 = true then
 (strings_genSplit.r_p2 bd call n v0 v9 v10 r3.2)
 else
 (bd (arA .add r3.1 v2) fun t47_6 =>
 (bd (slStr v0 none (some t47_6)) fun t48_7 =>
 (bd (idxS 1 v9 v10) fun t49_8 =>
 (bd (stA 1 t49_8 t48_7 r3.2) fun H9 =>
 (bd (lenStr v1) fun t53_10 =>
 (bd (arA .add r3.1 t53_10) fun t54_11 =>
 (bd (slStr v0 (some t54_11) none) fun t55_12 =>
 (bd (arA .add v10 (.int .i64 1)) fun t57_13 =>
 (s0 t55_12 v1 v2 v3 v9 t57_13 H9))))))))))))
 else
 (strings_genSplit.r_p2 bd call n v0 v9 v10 H)))
theorem strings_genSplit.r_l1_e (n m0 : Nat) : strings_genSplit.r_l1 @bdI (callA C n) n (strings_genSplit.l1 n m0) = strings_genSplit.l1 n (m0 + 1) := by
  funext v0 v1 v2 v3 v9 v10 H
  unfold strings_genSplit.r_l1
  rewrite [strings_genSplit.r_p2_e]
  kernel_rfl
noncomputable def strings_genSplit.r_l1_lp (bd : B3) (call : FuncId → List V → Heap → Option R) (n : Nat) (m : Nat) : V → V → V → V → V → V → Heap → Option R := Nat.rec (motive := fun _ => V → V → V → V → V → V → Heap → Option R) (fun _ _ _ _ _ _ _ => none) (fun _ self => strings_genSplit.r_l1 bd call n self) m
theorem strings_genSplit.r_l1_lp_e (n : Nat) : strings_genSplit.r_l1_lp @bdI (callA C n) n = strings_genSplit.l1 n := by
  funext m
  induction m with
  | zero => funext v0 v1 v2 v3 v9 v10 H; kernel_rfl
  | succ k ih => exact (congrArg (strings_genSplit.r_l1 @bdI (callA C n) n) ih).trans (strings_genSplit.r_l1_e n k)
noncomputable def strings_genSplit.r_p0 (bd : B3) (call : FuncId → List V → Heap → Option R) (n : Nat) (v0 v1 v2 v3 : V) (H : Heap) : Option R :=
 (bd (lenStr v0) fun t27_1 =>
 (bd (arA .add t27_1 (.int .i64 1)) fun t28_2 =>
 (bd (mmA false [v3, t28_2]) fun t29_3 =>
 (bd (mkSl 1 16 ty_string [(.str [])] t29_3 t29_3) fun o4 =>
 (bd (arA .sub t29_3 (.int .i64 1)) fun t33_5 =>
 (strings_genSplit.r_l1_lp bd call n n v0 v1 v2 t33_5 (.slice ⟨some (H.n, 0), o4.2, 1, false⟩) (.int .i64 0) (H.push o4.1)))))))
theorem strings_genSplit.r_p0_e (n : Nat) : strings_genSplit.r_p0 @bdI (callA C n) n = strings_genSplit.p0 n := by
  funext v0 v1 v2 v3 H
  unfold strings_genSplit.r_p0
  rewrite [strings_genSplit.r_l1_lp_e]
  kernel_rfl
noncomputable def strings_genSplit.r (bd : B3) (call : FuncId → List V → Heap → Option R) (n : Nat) (v0 v1 v2 v3 : V) (H : Heap) : Option R :=
 (bd (arA .eql v3 (.int .i64 0)) fun t13_1 =>
 (bd (asB t13_1) fun b2 =>
 if b2 = true then
 (some ((.slice ⟨none, 0, 0, false⟩), H))
 else
 (bd (arA .eql v1 (.str [])) fun t15_3 =>
 (bd (asB t15_3) fun b4 =>
 if b4 = true then
 (bd (call 17 [v0, v3] H) fun r5 =>
 (some (r5.1, r5.2)))
 else
 (bd (arA .lss v3 (.int .i64 0)) fun t20_6 =>
 (bd (asB t20_6) fun b7 =>
 if b7 = true then
 (bd (call 18 [v0, v1] H) fun r8 =>
 (bd (arA .add r8.1 (.int .i64 1)) fun t24_9 =>
 (strings_genSplit.r_p0 bd call n v0 v1 v2 t24_9 r8.2)))
 else
 (strings_genSplit.r_p0 bd call n v0 v1 v2 v3 H)))))))
theorem strings_genSplit.r_e (n : Nat) (v0 v1 v2 v3 : V) (H : Heap) : strings_genSplit.r @bdI (callA C n) n v0 v1 v2 v3 H = E C n 10 [] (argsA 0 [v0, v1, v2, v3]) H (kR C 10) := by
  unfold strings_genSplit.r
  rewrite [strings_genSplit.r_p0_e]
  kernel_rfl
noncomputable def strings_genSplit.rf (bd : B3) (call : FuncId → List V → Heap → Option R) (n : Nat) (a : List V) (H : Heap) : Option R := (match a with | [v0, v1, v2, v3] => strings_genSplit.r bd call n v0 v1 v2 v3 H | a => E C n 10 [] (argsA 0 a) H (kR C 10))
theorem strings_genSplit.rf_b (n : Nat) (a : List V) (H : Heap) : (match a with | [v0, v1, v2, v3] => strings_genSplit.r @bdI (callA C n) n v0 v1 v2 v3 H | a => E C n 10 [] (argsA 0 a) H (kR C 10)) = E C n 10 [] (argsA 0 a) H (kR C 10) := by
  split
  · exact strings_genSplit.r_e n _ _ _ _ H
  · rfl
theorem strings_genSplit.rf_e (n : Nat) (a : List V) (H : Heap) : strings_genSplit.rf @bdI (callA C n) n a H = callA C (n + 1) 10 a H := by
  unfold strings_genSplit.rf
  refine (strings_genSplit.rf_b n a H).trans ?_
  kernel_rfl
noncomputable def internal_stringslite_TrimSuffix.r (bd : B3) (call : FuncId → List V → Heap → Option R) (n : Nat) (v0 v1 : V) (H : Heap) : Option R :=
 (bd (call 20 [v0, v1] H) fun r1 =>
 (bd (asB r1.1) fun b2 =>
 if b2 = true then
 (bd (lenStr v0) fun t10_3 =>
 (bd (lenStr v1) fun t12_4 =>
 (bd (arA .sub t10_3 t12_4) fun t13_5 =>
 (bd (slStr v0 none (some t13_5)) fun t14_6 =>
 (some (t14_6, r1.2))))))
 else
 (some (v0, r1.2))))
theorem internal_stringslite_TrimSuffix.r_e (n : Nat) (v0 v1 : V) (H : Heap) : internal_stringslite_TrimSuffix.r @bdI (callA C n) n v0 v1 H = E C n 11 [] (argsA 0 [v0, v1]) H (kR C 11) := by
  unfold internal_stringslite_TrimSuffix.r
  kernel_rfl
noncomputable def internal_stringslite_TrimSuffix.rf (bd : B3) (call : FuncId → List V → Heap → Option R) (n : Nat) (a : List V) (H : Heap) : Option R := (match a with | [v0, v1] => internal_stringslite_TrimSuffix.r bd call n v0 v1 H | a => E C n 11 [] (argsA 0 a) H (kR C 11))
theorem internal_stringslite_TrimSuffix.rf_b (n : Nat) (a : List V) (H : Heap) : (match a with | [v0, v1] => internal_stringslite_TrimSuffix.r @bdI (callA C n) n v0 v1 H | a => E C n 11 [] (argsA 0 a) H (kR C 11)) = E C n 11 [] (argsA 0 a) H (kR C 11) := by
  split
  · exact internal_stringslite_TrimSuffix.r_e n _ _ H
  · rfl
theorem internal_stringslite_TrimSuffix.rf_e (n : Nat) (a : List V) (H : Heap) : internal_stringslite_TrimSuffix.rf @bdI (callA C n) n a H = callA C (n + 1) 11 a H := by
  unfold internal_stringslite_TrimSuffix.rf
  refine (internal_stringslite_TrimSuffix.rf_b n a H).trans ?_
  kernel_rfl
noncomputable def strings_Trim.r (bd : B3) (call : FuncId → List V → Heap → Option R) (n : Nat) (v0 v1 : V) (H : Heap) : Option R :=
 (bd (arA .eql v0 (.str [])) fun t8_1 =>
 (bd (asB t8_1) fun b2 =>
 if b2 = true then
 (some (v0, H))
 else
 (bd (arA .eql v1 (.str [])) fun t11_3 =>
 (bd (asB t11_3) fun b4 =>
 if b4 = true then
 (some (v0, H))
 else
 (bd (lenStr v1) fun t15_5 =>
 (bd (arA .eql t15_5 (.int .i64 1)) fun t16_6 =>
 (bd (asB t16_6) fun b7 =>
 if b7 = true then
 (bd (ixStr v1 (.int .i64 0)) fun t19_8 =>
 (bd (arA .lss t19_8 (.int .u8 128)) fun t20_9 =>
 (bd (asB t20_9) fun b10 =>
 if b10 = true then
 (bd (ixStr v1 (.int .i64 0)) fun t24_11 =>
 (bd (call 22 [v0, t24_11] (H.more 0)) fun r12 =>
 (bd (ixStr v1 (.int .i64 0)) fun t27_13 =>
 (bd (call 21 [r12.1, t27_13] r12.2) fun r14 =>
 (some (r14.1, r14.2))))))
 else
 (bd (call 23 [v1] H) fun r15 =>
 (bd (extA r15.1 0) fun t32_16 =>
 (bd (extA r15.1 1) fun t33_17 =>
 (bd (stA 256 (.ptr (some (r15.2.n, 0))) t32_16 (r15.2.push (.cells [(.bool false), (.bool false), (.bool false), (.bool false), (.bool false), (.bool false), (.bool false), (.bool false), (.bool false), (.bool false), (.bool false), (.bool false), (.bool false), (.bool false), (.bool false), (.bool false), (.bool false), (.bool false), (.bool false), (.bool false), (.bool false), (.bool false), (.bool false), (.bool false), (.bool false), (.bool false), (.bool false), (.bool false), (.bool false), (.bool false), (.bool false), (.bool false), (.bool false), (.bool false), (.bool false), (.bool false), (.bool false), (.bool false), (.bool false), (.bool false), (.bool false), (.bool false), (.bool false), (.bool false), (.bool false), (.bool false), (.bool false), (.bool false), (.bool false), (.bool false), (.bool false), (.bool false), (.bool false), (.bool false), (.bool false), (.bool false), (.bool false), (.bool false), (.bool false), (.bool false), (.bool false), (.bool false), (.bool false), (.bool false), (.bool false), (.bool false), (.bool false), (.bool false), (.bool false), (.bool false), (.bool false), (.bool false), (.bool false), (.bool false), (.bool false), (.bool false), (.bool false), (.bool false), (.bool false), (.bool false), (.bool false), (.bool false), (.bool false), (.bool false), (.bool false), (.bool false), (.bool false), (.bool false), (.bool false), (.bool false), (.bool false), (.bool false), (.bool false), (.bool false), (.bool false), (.bool false), (.bool false), (.bool false), (.bool false), (.bool false), (.bool false), (.bool false), (.bool false), (.bool false), (.bool false), (.bool false), (.bool false), (.bool false), (.bool false), (.bool false), (.bool false), (.bool false), (.bool false), (.bool false), (.bool false), (.bool false), (.bool false), (.bool false), (.bool false), (.bool false), (.bool false), (.bool false), (.bool false), (.bool false), (.bool false), (.bool false), (.bool false), (.bool false), (.bool false), (.bool false), (.bool false), (.bool false), (.bool false), (.bool false), (.bool false), (.bool false), (.bool false), (.bool false), (.bool false), (.bool false), (.bool false), (.bool false), (.bool false), (.bool false), (.bool false), (.bool false), (.bool false), (.bool false), (.bool false), (.bool false), (.bool false), (.bool false), (.bool false), (.bool false), (.bool false), (.bool false), (.bool false), (.bool false), (.bool false), (.bool false), (.bool false), (.bool false), (.bool false), (.bool false), (.bool false), (.bool false), (.bool false), (.bool false), (.bool false), (.bool false), (.bool false), (.bool false), (.bool false), (.bool false), (.bool false), (.bool false), (.bool false), (.bool false), (.bool false), (.bool false), (.bool false), (.bool false), (.bool false), (.bool false), (.bool false), (.bool false), (.bool false), (.bool false), (.bool false), (.bool false), (.bool false), (.bool false), (.bool false), (.bool false), (.bool false), (.bool false), (.bool false), (.bool false), (.bool false), (.bool false), (.bool false), (.bool false), (.bool false), (.bool false), (.bool false), (.bool false), (.bool false), (.bool false), (.bool false), (.bool false), (.bool false), (.bool false), (.bool false), (.bool false), (.bool false), (.bool false), (.bool false), (.bool false), (.bool false), (.bool false), (.bool false), (.bool false), (.bool false), (.bool false), (.bool false), (.bool false), (.bool false), (.bool false), (.bool false), (.bool false), (.bool false), (.bool false), (.bool false), (.bool false), (.bool false), (.bool false), (.bool false), (.bool false), (.bool false), (.bool false), (.bool false), (.bool false), (.bool false), (.bool false), (.bool false), (.bool false), (.bool false), (.bool false), (.bool false), (.bool false), (.bool false), (.bool false), (.bool false), (.bool false), (.bool false), (.bool false)] ty_strings_asciiSet false))) fun H18 =>
 (bd (asB t33_17) fun b19 =>
 if b19 = true then
 (bd (call 25 [v0, (.ptr (some (r15.2.n, 0)))] H18) fun r20 =>
 (bd (call 24 [r20.1, (.ptr (some (r15.2.n, 0)))] r20.2) fun r21 =>
 (some (r21.1, r21.2))))
 else
 (bd (call 27 [v0, v1] H18) fun r22 =>
 (bd (call 26 [r22.1, v1] r22.2) fun r23 =>
 (some (r23.1, r23.2))))))))))))
 else
 (bd (call 23 [v1] H) fun r24 =>
 (bd (extA r24.1 0) fun t32_25 =>
 (bd (extA r24.1 1) fun t33_26 =>
 (bd (stA 256 (.ptr (some (r24.2.n, 0))) t32_25 (r24.2.push (.cells [(.bool false), (.bool false), (.bool false), (.bool false), (.bool false), (.bool false), (.bool false), (.bool false), (.bool false), (.bool false), (.bool false), (.bool false), (.bool false), (.bool false), (.bool false), (.bool false), (.bool false), (.bool false), (.bool false), (.bool false), (.bool false), (.bool false), (.bool false), (.bool false), (.bool false), (.bool false), (.bool false), (.bool false), (.bool false), (.bool false), (.bool false), (.bool false), (.bool false), (.bool false), (.bool false), (.bool false), (.bool false), (.bool false), (.bool false), (.bool false), (.bool false), (.bool false), (.bool false), (.bool false), (.bool false), (.bool false), (.bool false), (.bool false), (.bool false), (.bool false), (.bool false), (.bool false), (.bool false), (.bool false), (.bool false), (.bool false), (.bool false), (.bool false), (.bool false), (.bool false), (.bool false), (.bool false), (.bool false), (.bool false), (.bool false), (.bool false), (.bool false), (.bool false), (.bool false), (.bool false), (.bool false), (.bool false), (.bool false), (.bool false), (.bool false), (.bool false), (.bool false), (.bool false), (.bool false), (.bool false), (.bool false), (.bool false), (.bool false), (.bool false), (.bool false), (.bool false), (.bool false), (.bool false), (.bool false), (.bool false), (.bool false), (.bool false), (.bool false), (.bool false), (.bool false), (.bool false), (.bool false), (.bool false), (.bool false), (.bool false), (.bool false), (.bool false), (.bool false), (.bool false), (.bool false), (.bool false), (.bool false), (.bool false), (.bool false), (.bool false), (.bool false), (.bool false), (.bool false), (.bool false), (.bool false), (.bool false), (.bool false), (.bool false), (.bool false), (.bool false), (.bool false), (.bool false), (.bool false), (.bool false), (.bool false), (.bool false), (.bool false), (.bool false), (.bool false), (.bool false), (.bool false), (.bool false), (.bool false), (.bool false), (.bool false), (.bool false), (.bool false), (.bool false), (.bool false), (.bool false), (.bool false), (.bool false), (.bool false), (.bool false), (.bool false), (.bool false), (.bool false), (.bool false), (.bool false), (.bool false), (.bool false), (.bool false), (.bool false), (.bool false), (.bool false), (.bool false), (.bool false), (.bool false), (.bool false), (.bool false), (.bool false), (.bool false), (.bool false), (.bool false), (.bool false), (.bool false), (.bool false), (.bool false), (.bool false), (.bool false), (.bool false), (.bool false), (.bool false), (.bool false), (.bool false), (.bool false), (.bool false), (.bool false), (.bool false), (.bool false), (.bool false), (.bool false), (.bool false), (.bool false), (.bool false), (.bool false), (.bool false), (.bool false), (.bool false), (.bool false), (.bool false), (.bool false), (.bool false), (.bool false), (.bool false), (.bool false), (.bool false), (.bool false), (.bool false), (.bool false), (.bool false), (.bool false), (.bool false), (.bool false), (.bool false), (.bool false), (.bool false), (.bool false), (.bool false), (.bool false), (.bool false), (.bool false), (.bool false), (.bool false), (.bool false), (.bool false), (.bool false), (.bool false), (.bool false), (.bool false), (.bool false), (.bool false), (.bool false), (.bool false), (.bool false), (.bool false), (.bool false), (.bool false), (.bool false), (.bool false), (.bool false), (.bool false), (.bool false), (.bool false), (.bool false), (.bool false), (.bool false), (.bool false), (.bool false), (.bool false), (.bool false), (.bool false), (.bool false), (.bool false), (.bool false), (.bool false), (.bool false), (.bool false), (.bool false), (.bool false), (.bool false), (.bool false), (.bool false), (.bool false), (.bool false), (.bool false)] ty_strings_asciiSet false))) fun H27 =>
 (bd (asB t33_26) fun b28 =>
 if b28 = true then
 (bd (call 25 [v0, (.ptr (some (r24.2.n, 0)))] H27) fun r29 =>
 (bd (call 24 [r29.1, (.ptr (some (r24.2.n, 0)))] r29.2) fun r30 =>
 (some (r30.1, r30.2))))
 else
 (bd (call 27 [v0, v1] H27) fun r31 =>
 (bd (call 26 [r31.1, v1] r31.2) fun r32 =>
 (some (r32.1, r32.2))))))))))))))))
theorem strings_Trim.r_e (n : Nat) (v0 v1 : V) (H : Heap) : strings_Trim.r @bdI (callA C n) n v0 v1 H = E C n 12 [] (argsA 0 [v0, v1]) H (kR C 12) := by
  unfold strings_Trim.r
  kernel_rfl
noncomputable def strings_Trim.rf (bd : B3) (call : FuncId → List V → Heap → Option R) (n : Nat) (a : List V) (H : Heap) : Option R := (match a with | [v0, v1] => strings_Trim.r bd call n v0 v1 H | a => E C n 12 [] (argsA 0 a) H (kR C 12))
theorem strings_Trim.rf_b (n : Nat) (a : List V) (H : Heap) : (match a with | [v0, v1] => strings_Trim.r @bdI (callA C n) n v0 v1 H | a => E C n 12 [] (argsA 0 a) H (kR C 12)) = E C n 12 [] (argsA 0 a) H (kR C 12) := by
  split
  · exact strings_Trim.r_e n _ _ H
  · rfl
theorem strings_Trim.rf_e (n : Nat) (a : List V) (H : Heap) : strings_Trim.rf @bdI (callA C n) n a H = callA C (n + 1) 12 a H := by
  unfold strings_Trim.rf
  refine (strings_Trim.rf_b n a H).trans ?_
  kernel_rfl
@[irreducible] noncomputable def shell_numbers.l0 (n m0 : Nat) (v4 v10 v11 v12 : V) (H : Heap) : Option R := Lp C n 13 [1, 1, 0, 1, 0, 0] m0 [(4, v4), (10, v10), (11, v11), (12, v12)] H (kB 0 (kC C n 13 [1, 1, 1] (kR C 13)))
noncomputable def shell_numbers.r_l0 (bd : B3) (call : FuncId → List V → Heap → Option R) (n : Nat) (s0 : V → V → V → V → Heap → Option R) (v4 v10 v11 v12 : V) (H : Heap) : Option R :=
 (bd (arA .lss v12 v11) fun t13_1 =>
 (bd (asB t13_1) fun b2 =>
 if b2 = true then
 (bd (idxS 1 v10 v12) fun t14_3 =>
 (bd (ld1 t14_3 H) fun t15_4 =>
 (bd (call 28 [t15_4, (.int .i64 0), (.bool true)] H) fun r5 =>
 (bd (extA r5.1 0) fun t19_6 =>
 (bd (extA r5.1 1) fun t20_7 =>
 (bd (extA r5.1 2) fun t21_8 =>
 (bd (unA .not t21_8) fun t23_9 =>
 (bd (asB t23_9) fun b10 =>
 if b10 = true then
 (some (.tuple [(.slice ⟨none, 0, 0, false⟩), (.bool false)], r5.2))
 else
 (bd (lenStr t15_4) fun t27_11 =>
 (bd (arA .neq t20_7 t27_11) fun t28_12 =>
 (bd (asB t28_12) fun b13 =>
 if b13 = true then
 (some (.tuple [(.slice ⟨none, 0, 0, false⟩), (.bool false)], r5.2))
 else
 (bd (bSl 1 ty_int [(.int .i64 0)] 1 [(0, t19_6)]) fun o14 =>
 (bd (appA 1 8 ty_int v4 (.slice ⟨some (r5.2.n, 0), 1, 1, false⟩) (r5.2.push o14)) fun p15 =>
 (bd (arA .add v12 (.int .i64 1)) fun t34_16 =>
 (s0 p15.1 v10 v11 t34_16 p15.2)))))))))))))))
 else
 (some (.tuple [v4, (.bool true)], H))))
theorem shell_numbers.r_l0_e (n m0 : Nat) : shell_numbers.r_l0 @bdI (callA C n) n (shell_numbers.l0 n m0) = shell_numbers.l0 n (m0 + 1) := by
  funext v4 v10 v11 v12 H
  unfold shell_numbers.r_l0
  kernel_rfl
noncomputable def shell_numbers.r_l0_lp (bd : B3) (call : FuncId → List V → Heap → Option R) (n : Nat) (m : Nat) : V → V → V → V → Heap → Option R := Nat.rec (motive := fun _ => V → V → V → V → Heap → Option R) (fun _ _ _ _ _ => none) (fun _ self => shell_numbers.r_l0 bd call n self) m
theorem shell_numbers.r_l0_lp_e (n : Nat) : shell_numbers.r_l0_lp @bdI (callA C n) n = shell_numbers.l0 n := by
  funext m
  induction m with
  | zero => funext v4 v10 v11 v12 H; kernel_rfl
  | succ k ih => exact (congrArg (shell_numbers.r_l0 @bdI (callA C n) n) ih).trans (shell_numbers.r_l0_e n k)
noncomputable def shell_numbers.r (bd : B3) (call : FuncId → List V → Heap → Option R) (n : Nat) (v0 : V) (H : Heap) : Option R :=
 (bd (lenSl v0) fun t11_1 =>
 (shell_numbers.r_l0_lp bd call n n (.slice ⟨none, 0, 0, false⟩) v0 t11_1 (.int .i64 0) H))
theorem shell_numbers.r_e (n : Nat) (v0 : V) (H : Heap) : shell_numbers.r @bdI (callA C n) n v0 H = E C n 13 [] (argsA 0 [v0]) H (kR C 13) := by
  unfold shell_numbers.r
  rewrite [shell_numbers.r_l0_lp_e]
  kernel_rfl
noncomputable def shell_numbers.rf (bd : B3) (call : FuncId → List V → Heap → Option R) (n : Nat) (a : List V) (H : Heap) : Option R := inA true a H fun a H => (match a with | [v0] => shell_numbers.r bd call n v0 H | a => E C n 13 [] (argsA 0 a) H (kR C 13))
theorem shell_numbers.rf_b (n : Nat) (a : List V) (H : Heap) : (match a with | [v0] => shell_numbers.r @bdI (callA C n) n v0 H | a => E C n 13 [] (argsA 0 a) H (kR C 13)) = E C n 13 [] (argsA 0 a) H (kR C 13) := by
  split
  · exact shell_numbers.r_e n _ H
  · rfl
theorem shell_numbers.rf_e (n : Nat) (a : List V) (H : Heap) : shell_numbers.rf @bdI (callA C n) n a H = callA C (n + 1) 13 a H := by
  unfold shell_numbers.rf
  refine (congrArg (inA true a H) (funext fun a => funext fun H => shell_numbers.rf_b n a H)).trans ?_
  kernel_rfl
end Go.AM.L
end
