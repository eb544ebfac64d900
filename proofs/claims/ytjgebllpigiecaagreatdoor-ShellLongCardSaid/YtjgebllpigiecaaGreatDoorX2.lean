/- Merged by program from: AmEff AmEff2 AmEff3 AmEff4 AmEff5 AmStep AmFrame AmFrame2 AmRun AmPlan. -/
import Derived.Laws.CopyRow
import Derived.Deep.AppendSrc
import Derived.Lib.FrozenHead
import Derived.Lib.UnsafeStr
import Derived.OrdersIn
import Derived.RangeFuncRecord
import Derived.RangeFuncLeaves
import Derived.RangeFuncNested
import Derived.LoopNIn
import Derived.Test.YtjgebllpigiecaaGreatDoorX1
section
set_option linter.unusedVariables false
set_option linter.unusedSimpArgs false
namespace Go.AM
open Go.RowKit (Below)
structure Step (B : Nat) (w0 : World) (n0 : Nat) (μ : Mu) (H : Heap) (w : World) (μ' : Mu) (H' : Heap) (w' : World) : Prop where
  le : μ.le μ'
  rel : Rel B w0 μ' H' w'
  n : H.n ≤ H'.n
  size : w.heap.size ≤ w'.heap.size
  keeps : ∀ b, b < w.heap.size → (∀ i L, μ i = some L → (H.get i).own = true → L.b ≠ b) → w'.heap[b]? = w.heap[b]?
  new : ∀ i L, μ' i = some L → (μ i = some L ∧ ((H'.get i).own = true → (H.get i).own = true) ∧ ((H'.get i).live = true → (H.get i).live = true)) ∨
    (n0 ≤ i ∧ (w.heap.size ≤ L.b ∨ ∃ j M, μ j = some M ∧ M.b = L.b ∧ ((H'.get i).own = true → (H.get j).own = true) ∧ ((H'.get i).live = true → (H.get j).live = true)))
  znew : ∀ b vs, μ'.z b = some vs → μ.z b = some vs ∨ w.heap.size ≤ b ∨ ∃ j M, μ j = some M ∧ (H.get j).live = true ∧ M.b = b
section
variable {P : Program} {B n0 : Nat} {w0 w w' w'' : World} {μ μ' μ'' : Mu} {H H' H'' : Heap}
theorem Step.refl (h : Rel B w0 μ H w) : Step B w0 n0 μ H w μ H w :=
  ⟨Mu.le_refl _, h, Nat.le_refl _, Nat.le_refl _, fun _ _ _ => rfl, fun _ _ h => .inl ⟨h, id, id⟩, fun _ _ h => .inl h⟩
theorem Step.mono {n1 : Nat} (h : Step B w0 n1 μ H w μ' H' w') (hn : n0 ≤ n1) : Step B w0 n0 μ H w μ' H' w' :=
  ⟨h.le, h.rel, h.n, h.size, h.keeps, fun i L e => (h.new i L e).imp id fun ⟨a, b⟩ => ⟨by omega, b⟩, h.znew⟩
theorem Step.trans (h : Step B w0 n0 μ H w μ' H' w') (k : Step B w0 n0 μ' H' w' μ'' H'' w'') : Step B w0 n0 μ H w μ'' H'' w'' := by
  refine ⟨Mu.le_trans h.le k.le, k.rel, Nat.le_trans h.n k.n, Nat.le_trans h.size k.size, ?_, ?_, ?_⟩
  · intro b hb hf
    rw [k.keeps b (Nat.lt_of_lt_of_le hb h.size) ?_]
    · exact h.keeps b hb hf
    · intro i L e o
      rcases h.new i L e with ⟨e1, e2, _⟩ | ⟨_, e3 | ⟨j, M, e3, e4, e5, _⟩⟩
      · exact hf i L e1 (e2 o)
      · omega
      · rw [← e4]; exact hf j M e3 (e5 o)
  · intro i L e
    rcases k.new i L e with ⟨e1, e2, e2'⟩ | ⟨hn, e3 | ⟨j, M, e3, e4, e5, e5'⟩⟩
    · rcases h.new i L e1 with ⟨f1, f2, f2'⟩ | ⟨f1, f3 | ⟨j, M, f3, f4, f5, f5'⟩⟩
      · exact .inl ⟨f1, fun o => f2 (e2 o), fun o => f2' (e2' o)⟩
      · exact .inr ⟨f1, .inl f3⟩
      · exact .inr ⟨f1, .inr ⟨j, M, f3, f4, fun o => f5 (e2 o), fun o => f5' (e2' o)⟩⟩
    · exact .inr ⟨hn, .inl (Nat.le_trans h.size e3)⟩
    · rcases h.new j M e3 with ⟨f1, f2, f2'⟩ | ⟨_, f3 | ⟨j', M', f3, f4, f5, f5'⟩⟩
      · exact .inr ⟨hn, .inr ⟨j, M, f1, e4, fun o => f2 (e5 o), fun o => f2' (e5' o)⟩⟩
      · exact .inr ⟨hn, .inl (by omega)⟩
      · exact .inr ⟨hn, .inr ⟨j', M', f3, by omega, fun o => f5 (e5 o), fun o => f5' (e5' o)⟩⟩
  · intro b vs e
    rcases k.znew b vs e with e1 | e1 | ⟨j, M, e1, el, e2⟩
    · exact h.znew b vs e1
    · exact .inr (.inl (Nat.le_trans h.size e1))
    · rcases h.new j M e1 with ⟨f1, _, f2⟩ | ⟨_, f3 | ⟨j', M', f3, f4, _, f5⟩⟩
      · exact .inr (.inr ⟨j, M, f1, f2 el, e2⟩)
      · exact .inr (.inl (by omega))
      · exact .inr (.inr ⟨j', M', f3, f5 el, by omega⟩)
theorem MERel.mono (h : μ.le μ') {e : ME} {x : MapEntry} (k : MERel μ e x) : MERel μ' e x := ⟨VRel.mono h _ _ k.1, VRel.mono h _ _ k.2.1, k.2.2⟩
theorem MERels.mono (h : μ.le μ') : ∀ {es : List ME} {xs : List MapEntry}, MERels μ es xs → MERels μ' es xs
  | [], xs, k => by simpa [MERels] using k
  | e :: es, xs, k => by
    simp only [MERels] at k ⊢
    obtain ⟨y, ys, e, p, q⟩ := k
    exact ⟨y, ys, e, p.mono h, MERels.mono h q⟩
theorem ORel.mono {o : O} {L : Loc} (h : μ.le μ') (hb : w'.heap[L.b]? = w.heap[L.b]?) (k : ORel μ B o L w) : ORel μ' B o L w' := by
  cases o with
  | none => trivial
  | cells cs e ro =>
    obtain ⟨c, e', fr, k1, k2, k3, k4, k5⟩ := k
    exact ⟨c, e', fr, by rw [hb]; exact k1, k2, k3, fun j v hj => ⟨(k4 j v hj).1, let ⟨_, x, a, b⟩ := k4 j v hj; ⟨x, a, VRel.mono h _ _ b⟩⟩, k5⟩
  | map es clock =>
    obtain ⟨xs, k1, k2, k3⟩ := k
    exact ⟨xs, by rw [hb]; exact k1, k2, k3.mono h⟩
  | siter s pos => exact ⟨by rw [hb]; exact k.1, k.2⟩
  | miter m since seen last =>
    obtain ⟨mb, k1, k2, k3, k4⟩ := k
    refine ⟨mb, by rw [hb]; exact k1, k2, k3, ?_⟩
    cases m with
    | none => exact k4
    | some i => obtain ⟨M, e1, e2⟩ := k4; exact ⟨M, h.f _ _ e1, e2⟩
  | loop N st pend tab env ps a b =>
    obtain ⟨r, k1, k2, k3, k4, k5, k6, k7, k8, k9⟩ := k
    exact ⟨r, by rw [hb]; exact k1, k2, k3, k4, k5, k6, k7, k8, fun t => VRel.mono h _ _ (k9 t)⟩
def Mu.put (μ : Mu) (i : Nat) (L : Loc) : Mu := ⟨fun j => if j = i then some L else μ j, μ.z⟩
theorem Mu.le_put {i : Nat} {L : Loc} (h : μ i = none) : μ.le (μ.put i L) := by
  refine ⟨?_, fun _ _ h => h⟩
  intro j M e
  unfold Mu.put
  simp only
  split
  · rename_i hj; subst hj; rw [h] at e; cases e
  · exact e
theorem Mu.put_same {i : Nat} {L : Loc} : (μ.put i L) i = some L := by simp [Mu.put]
theorem Rel.fresh (h : Rel B w0 μ H w) {i : Nat} (hi : H.n ≤ i) : μ i = none := by
  cases e : μ i with
  | none => rfl
  | some L => have := (h.dom i L e).1; omega
def FreeId (μ : Mu) (H : Heap) (n0 : Nat) : Option Nat → Prop
  | none => n0 ≤ H.n
  | some i => i < H.n ∧ μ i = none ∧ n0 ≤ i
theorem Rel.alloc (hr : Rel B w0 μ H w) {r : Option Nat} (hf : FreeId μ H n0 r) {o : O} {obj : Obj} {sz : Nat} {w' : World} (hw : w'.heap = w.heap.push obj) (ho1 : w'.os = w.os) (ho2 : w'.tape = w.tape) (ho3 : w'.output = w.output)
    (ho : ORel (μ.put (newA r o H).1 ⟨w.heap.size, 0, sz⟩) B o ⟨w.heap.size, 0, sz⟩ w') :
    Step B w0 n0 μ H w (μ.put (newA r o H).1 ⟨w.heap.size, 0, sz⟩) (newA r o H).2 w' := by
  generalize hid : (newA r o H).1 = i at *
  have hfree : μ i = none := by
    cases r with
    | none => simp [newA] at hid; subst hid; exact hr.fresh (Nat.le_refl _)
    | some k => simp [newA] at hid; subst hid; exact hf.2.1
  have hn0 : n0 ≤ i := by
    cases r with
    | none => simp [newA] at hid; subst hid; exact hf
    | some k => simp [newA] at hid; subst hid; exact hf.2.2
  have hget : ∀ j, (newA r o H).2.get j = if j = i then o else H.get j := by
    intro j
    cases r with
    | none => simp [newA] at hid ⊢; subst hid; exact Heap.get_push _ _ _
    | some k => simp [newA] at hid ⊢; subst hid; exact Heap.get_set _ _ _ _
  have hlt : i < (newA r o H).2.n := by
    cases r with
    | none => simp [newA] at hid ⊢; omega
    | some k => simp [newA] at hid ⊢; have := hf.1; omega
  have hnn : H.n ≤ (newA r o H).2.n := by cases r <;> simp [newA]
  have hle := Mu.le_put (L := ⟨w.heap.size, 0, sz⟩) hfree
  have hold : ∀ b, b < w.heap.size → w'.heap[b]? = w.heap[b]? := by
    intro b hb; rw [hw, Array.getElem?_push, if_neg (by omega)]
  have hsz : w'.heap.size = w.heap.size + 1 := by rw [hw]; simp
  refine ⟨hle, ⟨?_, ?_, ?_, ?_, ?_, fun j hj => by rw [hget, if_neg (by omega)]; exact hr.clean j (by omega), ?_, ?_, fun j L e ho2 => by
    rw [hget] at ho2
    simp only [Mu.put] at e
    split at e
    · simp at e; subst e; rfl
    · rename_i hj; rw [if_neg hj] at ho2; exact hr.flat j L e ho2⟩, hnn, by omega, fun b hb _ => hold b hb, ?_, fun _ _ h => .inl h⟩
  · exact hr.below.trans ⟨ho1, ho2, ho3, by omega, fun k hk => hold k (by have := hr.size; omega)⟩
  · have := hr.size; omega
  · intro j L e
    simp only [Mu.put] at e
    split at e
    · rename_i hj; subst hj; simp at e; subst e; exact ⟨hlt, fun _ => by simp only; omega⟩
    · rename_i hj
      have := hr.dom j L e
      rw [hget, if_neg hj]
      exact ⟨by omega, fun hl => by have := this.2 hl; omega⟩
  · intro j L e
    rw [hget]
    simp only [Mu.put] at e
    split at e
    · rename_i hj; subst hj; simp at e; subst e; rw [if_pos rfl]; exact ho
    · rename_i hj
      rw [if_neg hj]
      cases hl : (H.get j).live with
      | false =>
        cases hg : H.get j with
        | none => trivial
        | _ => rw [hg] at hl; simp [O.live] at hl
      | true => exact (hr.objs j L e).mono hle (hold _ ((hr.dom j L e).2 hl))
  · intro j k L M e1 e2 hjk l1 l2 l3
    rw [hget] at l1 l2 l3
    simp only [Mu.put] at e1 e2
    split at e1
    · rename_i hj
      simp at e1; subst e1
      rw [if_neg (by omega)] at e2
      rw [if_neg (by omega)] at l2
      have := (hr.dom k M e2).2 l2
      simp only; omega
    · rename_i hj
      rw [if_neg hj] at l1 l3
      split at e2
      · simp at e2; subst e2
        have := (hr.dom j L e1).2 l1
        simp only; omega
      · rename_i hk
        rw [if_neg hk] at l2
        exact hr.sep j k L M e1 e2 hjk l1 l2 l3
  · intro b vs hz
    obtain ⟨c, e', fr, h1, h2⟩ := hr.frz b vs hz
    refine ⟨c, e', fr, ?_, h2⟩
    rw [hold _ (Array.getElem?_eq_some_iff.1 h1).1]; exact h1
  · intro b vs hz k M e2 ho
    rw [hget] at ho
    simp only [Mu.put] at e2
    obtain ⟨c, e', fr, h1, _⟩ := hr.frz b vs hz
    have hb := (Array.getElem?_eq_some_iff.1 h1).1
    split at e2
    · simp at e2; subst e2; simp only; omega
    · rename_i hk
      rw [if_neg hk] at ho
      exact hr.sepf b vs hz k M e2 ho
  · intro j L e
    simp only [Mu.put] at e
    split at e
    · rename_i hj; subst hj; simp at e; subst e; exact .inr ⟨hn0, .inl (Nat.le_refl _)⟩
    · rename_i hj; exact .inl ⟨e, fun o => by rw [hget, if_neg hj] at o; exact o, fun o => by rw [hget, if_neg hj] at o; exact o⟩
theorem Rel.write (hr : Rel B w0 μ H w) {i : Nat} {L : Loc} (hi : μ i = some L) (hown : (H.get i).own = true) (hB : B ≤ L.b) {o' : O} {w' : World}
    (ho1 : w'.os = w.os) (ho2 : w'.tape = w.tape) (ho3 : w'.output = w.output) (hs : w'.heap.size = w.heap.size) (hb : ∀ b, b ≠ L.b → w'.heap[b]? = w.heap[b]?) (ho : ORel μ B o' L w') :
    Step B w0 n0 μ H w μ (H.set i o') w' := by
  have hlive : ∀ o : O, o.own = true → o.live = true := by intro o; cases o <;> simp [O.own, O.live]
  have hget : ∀ j, (H.set i o').get j = if j = i then o' else H.get j := fun j => Heap.get_set _ _ _ _
  refine ⟨Mu.le_refl _, ⟨?_, by rw [hs]; exact hr.size, ?_, ?_, ?_, fun j hj => by rw [hget, if_neg (by have := (hr.dom i L hi).1; simp at hj; omega)]; exact hr.clean j hj, ?_, ?_, fun j M e ho2 => by
    rw [hget] at ho2
    by_cases hj : j = i
    · subst hj; exact hr.flat j M e hown
    · rw [if_neg hj] at ho2; exact hr.flat j M e ho2⟩, Nat.le_refl _, by omega, fun b _ hf => hb b (Ne.symm (hf i L hi hown)), fun j M e => .inl ⟨e, fun o => by
    rw [hget] at o
    split at o
    · rename_i hj; subst hj; exact hown
    · exact o, fun o => by
    rw [hget] at o
    split at o
    · rename_i hj; subst hj; exact hlive _ hown
    · exact o⟩, fun _ _ h => .inl h⟩
  · exact hr.below.trans ⟨ho1, ho2, ho3, by omega, fun k hk => hb k (by omega)⟩
  · intro j M e
    have := hr.dom j M e
    refine ⟨this.1, fun hl => ?_⟩
    rw [hget] at hl
    rw [hs]
    split at hl
    · rename_i hj; subst hj; exact this.2 (hlive _ hown)
    · exact this.2 hl
  · intro j M e
    rw [hget]
    by_cases hj : j = i
    · subst hj; rw [if_pos rfl]; rw [hi] at e; cases e; exact ho
    · rw [if_neg hj]
      have hj' := hr.objs j M e
      cases hl : (H.get j).live with
      | false =>
        cases hg : H.get j with
        | none => trivial
        | _ => rw [hg] at hl; simp [O.live] at hl
      | true =>
        have := hr.sep i j L M hi e (Ne.symm hj) (hlive _ hown) hl hown
        exact hj'.mono (Mu.le_refl _) (hb _ (Ne.symm this))
  · intro j k M N e1 e2 hjk l1 l2 l3
    rw [hget] at l1 l2 l3
    by_cases hj : j = i
    · subst hj
      rw [hi] at e1; cases e1
      rw [if_neg (Ne.symm hjk)] at l2
      exact hr.sep j k L N hi e2 hjk (hlive _ hown) l2 hown
    · rw [if_neg hj] at l1 l3
      by_cases hk : k = i
      · subst hk
        rw [hi] at e2; cases e2
        exact (hr.sep k j L M hi e1 (Ne.symm hjk) (hlive _ hown) l1 hown).symm
      · rw [if_neg hk] at l2
        exact hr.sep j k M N e1 e2 hjk l1 l2 l3
  · intro b vs hz
    obtain ⟨c, e', fr, h1, h2⟩ := hr.frz b vs hz
    exact ⟨c, e', fr, by rw [hb _ (Ne.symm (hr.sepf b vs hz i L hi hown))]; exact h1, h2⟩
  · intro b vs hz k N e2 ho2
    by_cases hk : k = i
    · subst hk; exact hr.sepf b vs hz k N e2 hown
    · rw [hget, if_neg hk] at ho2; exact hr.sepf b vs hz k N e2 ho2
theorem Rel.kill (hr : Rel B w0 μ H w) (i : Nat) : Step B w0 n0 μ H w μ (H.set i .none) w := by
  have hget : ∀ j, (H.set i .none).get j = if j = i then .none else H.get j := fun j => Heap.get_set _ _ _ _
  refine ⟨Mu.le_refl _, ⟨hr.below, hr.size, fun j M e => ⟨(hr.dom j M e).1, fun hl => by rw [hget] at hl; split at hl; simp [O.live] at hl; exact (hr.dom j M e).2 hl⟩, ?_, ?_, fun j hj => by rw [hget]; split; rfl; exact hr.clean j hj, hr.frz, fun b vs hz k N e2 ho => by
    rw [hget] at ho
    split at ho
    · simp [O.own] at ho
    · exact hr.sepf b vs hz k N e2 ho, fun j M e ho => by
    rw [hget] at ho
    split at ho
    · simp [O.own] at ho
    · exact hr.flat j M e ho⟩, Nat.le_refl _, Nat.le_refl _, fun _ _ _ => rfl, fun _ _ e => .inl ⟨e, fun o => by
    rw [hget] at o
    split at o
    · simp [O.own] at o
    · exact o, fun o => by
    rw [hget] at o
    split at o
    · simp [O.live] at o
    · exact o⟩, fun _ _ h => .inl h⟩
  · intro j M e
    rw [hget]
    split
    · trivial
    · exact hr.objs j M e
  · intro j k M N e1 e2 hjk l1 l2 l3
    rw [hget] at l1 l2 l3
    by_cases hj : j = i
    · rw [if_pos hj] at l1; simp [O.live] at l1
    · by_cases hk : k = i
      · rw [if_pos hk] at l2; simp [O.live] at l2
      · rw [if_neg hj] at l1 l3
        rw [if_neg hk] at l2
        exact hr.sep j k M N e1 e2 hjk l1 l2 l3
theorem Rel.heap_eq (hr : Rel B w0 μ H w) (hh : w'.heap = w.heap) (ho1 : w'.os = w.os) (ho2 : w'.tape = w.tape) (ho3 : w'.output = w.output) : Rel B w0 μ H w' := by
  refine ⟨hr.below.trans ⟨ho1, ho2, ho3, by rw [hh]; exact Nat.le_refl _, fun k _ => by rw [hh]⟩, by rw [hh]; exact hr.size, by rw [hh]; exact hr.dom, ?_, hr.sep, hr.clean, by rw [hh]; exact hr.frz, hr.sepf, hr.flat⟩
  intro j M e
  exact (hr.objs j M e).mono (Mu.le_refl _) (by rw [hh])
theorem lset_get : ∀ (xs cs : List V) (o j : Nat), o + xs.length ≤ cs.length → (lset cs o xs)[j]? = if o ≤ j ∧ j < o + xs.length then xs[j - o]? else cs[j]?
  | [], cs, o, j, h => by simp [lset]; omega
  | x :: xs, cs, o, j, h => by
    simp only [lset]
    simp only [List.length_cons] at h ⊢
    rw [lset_get xs (cs.set o x) (o + 1) j (by simp; omega)]
    by_cases h1 : o + 1 ≤ j ∧ j < o + 1 + xs.length
    · rw [if_pos h1, if_pos (by omega), show j - o = (j - (o + 1)) + 1 by omega]; simp
    · rw [if_neg h1]
      by_cases h2 : j = o
      · subst h2
        rw [if_pos (by omega)]
        simp [List.getElem?_set, show j < cs.length by omega]
      · rw [if_neg (by omega), List.getElem?_set_ne (by omega)]
theorem row_get (cs vs : List Value) (o j : Nat) (h : o + vs.length ≤ cs.length) : (cs.take o ++ vs ++ cs.drop (o + vs.length))[j]? = if o ≤ j ∧ j < o + vs.length then vs[j - o]? else cs[j]? := by
  have hl : (cs.take o).length = o := by simp; omega
  by_cases h1 : j < o
  · rw [if_neg (by omega), List.append_assoc, List.getElem?_append_left (by omega), List.getElem?_take, if_pos h1]
  · by_cases h2 : j < o + vs.length
    · rw [if_pos (by omega), List.append_assoc, List.getElem?_append_right (by omega), hl, List.getElem?_append_left (by omega)]
    · rw [if_neg (by omega), List.append_assoc, List.getElem?_append_right (by omega), hl, List.getElem?_append_right (by omega), List.getElem?_drop]
      congr 1; omega
theorem VRels.one {vs : List V} {xs : List Value} (h : VRels μ vs xs) (o : vs.all V.one = true) : ∀ x ∈ xs, x.oneCell' = true := by
  intro x hx
  obtain ⟨i, hi⟩ := List.getElem?_of_mem hx
  have hl := h.length
  have hlt : i < vs.length := by
    rw [← hl]; exact (List.getElem?_eq_some_iff.1 hi).1
  obtain ⟨y, e, r⟩ := h.get i vs[i] (List.getElem?_eq_getElem hlt)
  rw [hi] at e; cases e
  have := r.isOne (by simp only [List.all_eq_true] at o; exact o _ (List.getElem_mem hlt))
  cases x <;> simp_all [AM.isOne, Value.oneCell']
theorem Rel.putCells (hr : Rel B w0 μ H w) {i o : Nat} {L : Loc} {cs : List V} {e : TypeId} (hi : μ i = some L) (hg : H.get i = .cells cs e false) {vs : List V} {xs : List Value}
    (hv : VRels μ vs xs) (h1 : vs.all V.one = true) (hl : o + vs.length ≤ cs.length) :
    ∃ w', (storeCells ⟨L.b, L.base + o, none⟩ xs).run P w = .ok () w' ∧ Step B w0 n0 μ H w μ (H.set i (.cells (lset cs o vs) e false)) w' := by
  have ho := hr.objs i L hi
  rw [hg] at ho
  obtain ⟨c, e', fr, hb, hs, hlen, hc, hro⟩ := ho
  obtain ⟨hB, hfr, he⟩ := hro rfl
  subst hfr he
  have hxl := hv.length
  have hrun := run_storeCells_at (P := P) L.b (L.base + o) e' xs 0 c w hb (by omega) (hv.one h1)
  refine ⟨_, hrun, ?_⟩
  have hh := setRow_heap w L.b c ((c.toList.take (L.base + o + 0) ++ xs ++ c.toList.drop (L.base + o + 0 + xs.length)).toArray) e' (0, 0) hb
  refine hr.write (w' := w.setRow L.b _) hi (by rw [hg]; rfl) hB rfl rfl rfl (by simp) (fun b hbn => setRow_other w L.b b _ hbn) ?_
  refine ⟨_, _, _, hh, ?_, ?_, ?_, fun _ => ⟨hB, rfl, rfl⟩⟩
  · simp; omega
  · rw [lset_length]; exact hlen
  · intro j v hj
    rw [lset_get vs cs o j hl] at hj
    have hrow := row_get c.toList xs (L.base + o) (L.base + j) (by simp; omega)
    by_cases hin : o ≤ j ∧ j < o + vs.length
    · rw [if_pos hin] at hj
      obtain ⟨x, a, b⟩ := hv.get _ _ hj
      refine ⟨?_, x, ?_, b⟩
      · simp only [List.all_eq_true] at h1
        exact h1 v (List.mem_of_getElem? hj)
      · rw [if_pos (by omega)] at hrow
        simp only [Nat.add_zero, List.getElem?_toArray]
        rw [hrow, show L.base + j - (L.base + o) = j - o by omega]; exact a
    · rw [if_neg hin] at hj
      obtain ⟨a, x, b, d⟩ := hc j v hj
      refine ⟨a, x, ?_, d⟩
      rw [if_neg (by omega)] at hrow
      simp only [Nat.add_zero, List.getElem?_toArray]
      rw [hrow]; simpa using b
end
end Go.AM
end
section
set_option linter.unusedVariables false
set_option linter.unusedSimpArgs false
namespace Go.AM
open Go.RowKit (Below)
section
variable {P : Program} {B n0 : Nat} {w0 w w' w'' : World} {μ μ' μ'' ν : Mu} {H H' H'' : Heap}
theorem rowA_length (z : List V) (m : Nat) : (rowA z m).length = m * z.length := by
  induction m with
  | zero => simp [rowA]
  | succ m ih => simp [rowA, ih, Nat.succ_mul]; omega
theorem rowA_get (z : List V) (hz : 0 < z.length) : ∀ (m j : Nat), j < m * z.length → (rowA z m)[j]? = z[j % z.length]?
  | 0, j, h => by simp at h
  | m + 1, j, h => by
    simp only [rowA]
    by_cases hj : j < z.length
    · rw [List.getElem?_append_left hj, Nat.mod_eq_of_lt hj]
    · rw [List.getElem?_append_right (by omega), rowA_get z hz m (j - z.length) (by rw [Nat.succ_mul] at h; omega)]
      congr 1
      exact (Nat.mod_eq_sub_mod (by omega)).symm
theorem rowA_rel {z : List V} {zs : Array Value} (hr : VRels μ z zs.toList) (m : Nat) :
    VRels μ (rowA z m) ((Array.range (m * z.length)).map (fun i => zs[i % zs.size]!)).toList := by
  have hl : zs.size = z.length := by simpa using hr.length
  refine VRels.of_get (by simp [rowA_length]) ?_
  intro j v x hv hx
  have hjl : j < m * z.length := by
    have := (List.getElem?_eq_some_iff.1 hv).1
    rwa [rowA_length] at this
  have hz : 0 < z.length := by
    rcases Nat.eq_zero_or_pos z.length with h | h
    · rw [h] at hjl; simp at hjl
    · exact h
  rw [rowA_get z hz m j hjl] at hv
  have hlt : j % z.length < z.length := Nat.mod_lt _ hz
  obtain ⟨y, e, q⟩ := hr.get _ _ hv
  have hy : zs[j % zs.size]! = y := by
    rw [hl]
    have : zs[j % z.length]? = some y := by simpa using e
    simp [getElem!_def, this]
  simp [hjl, hy] at hx
  rw [← hx]; exact q
theorem rowA_one {z : List V} (h : z.all V.one = true) (m : Nat) : (rowA z m).all V.one = true := by
  induction m with
  | zero => rfl
  | succ m ih => simp only [rowA, List.all_append, h, ih, Bool.and_self]
theorem wrap_small {n : Int} (h0 : 0 ≤ n) (h1 : n < 9223372036854775808) : IntKind.i64.wrap n = n := by
  simp [IntKind.wrap, IntKind.bits, IntKind.signed]
  omega
def makeA (P : Program) (env : Env) (o : Op) : Option (O × (Nat → V)) :=
  match o with
  | .alloc t => match zeroT P t with
    | some z => (boxA t z).map fun o => (o, fun i => .ptr (some (i, 0)))
    | none => none
  | .box t x => (boxA t (opd env x)).map fun o => (o, fun i => .ptr (some (i, 0)))
  | .buildSlice t len ps => match elemT P t with
    | some (e, n, _, z) => (bSl n e z len (ps.toList.map fun p => (p.1, opd env p.2))).map fun o => (o, fun i => .slice ⟨some (i, 0), len, n, false⟩)
    | none => none
  | .makeMap t rs => match rs, P.underlying t with
    | none, some (.map _ _) => some (.map [] 0, fun i => .map (some i))
    | _, _ => none
  | .makeSlice t l c => match elemT P t with
    | some (e, n, b, z) => (mkSl n b e z (opd env l) (opd env c)).map fun o => (o.1, fun i => .slice ⟨some (i, 0), o.2, n, false⟩)
    | none => none
  | _ => none
theorem stepA_make {call : FuncId → List V → Heap → Option R} {r : Option Nat} {env : Env} {o : Op} {k : V → Heap → Option R} {res : R} (hk : kind P o = .make) (h : stepA P call r env o H k = some res) :
    ∃ obj f, makeA P env o = some (obj, f) ∧ k (f (newA r obj H).1) (newA r obj H).2 = some res := by
  cases o with
  | alloc t =>
    simp only [stepA] at h
    split at h
    · rename_i z hz
      cases hb : boxA t z with
      | none => simp [hb] at h
      | some q => rw [hb] at h; exact ⟨q, fun i => .ptr (some (i, 0)), by simp [makeA, hz, hb], h⟩
    · simp at h
  | box t x =>
    simp only [stepA] at h
    cases hb : boxA t (opd env x) with
    | none => simp [hb] at h
    | some q => rw [hb] at h; exact ⟨q, fun i => .ptr (some (i, 0)), by simp [makeA, hb], h⟩
  | buildSlice t len ps =>
    simp only [stepA] at h
    split at h
    · rename_i e n b z he
      cases hb : bSl n e z len (ps.toList.map fun p => (p.1, opd env p.2)) with
      | none => simp [hb] at h
      | some q => rw [hb] at h; exact ⟨q, fun i => .slice ⟨some (i, 0), len, n, false⟩, by simp [makeA, he, hb], h⟩
    · simp at h
  | makeMap t rs =>
    simp only [stepA] at h
    split at h
    · rename_i a b hu
      exact ⟨.map [] 0, fun i => .map (some i), by simp [makeA, hu], h⟩
    · simp at h
  | makeSlice t l c =>
    simp only [stepA] at h
    split at h
    · rename_i e n b z he
      cases hb : mkSl n b e z (opd env l) (opd env c) with
      | none => simp [hb] at h
      | some q => rw [hb] at h; exact ⟨q.1, fun i => .slice ⟨some (i, 0), q.2, n, false⟩, by simp [makeA, he, hb], h⟩
    · simp at h
  | convert s d x => simp only [kind] at hk; split at hk <;> simp at hk
  | slice t x l hh m => simp only [kind] at hk; split at hk <;> simp at hk
  | call c =>
    obtain ⟨callee, args, ts⟩ := c
    cases callee with
    | builtin b => cases b <;> simp only [kind] at hk <;> first | (simp at hk; done) | (split at hk <;> first | (simp at hk; done) | (split at hk <;> simp at hk))
    | _ => simp [kind] at hk
  | _ => simp [kind] at hk
theorem elemT_spec {t e : TypeId} {n b : Nat} {z : List V} (h : elemT P t = some (e, n, b, z)) :
    P.underlying t = some (.slice e) ∧ szT P e = some n ∧ 0 < n ∧ z.length = n ∧ ∃ inf zv, P.info? e = some inf ∧ inf.size = n ∧ inf.bytes = b ∧ inf.zero = some zv ∧ (V.ofValue zv).cells = z := by
  unfold elemT at h
  split at h
  · rename_i e' hu
    split at h
    · rename_i m inf z' h1 h2 h3
      split at h
      · rename_i hl
        simp at h
        obtain ⟨rfl, rfl, rfl, rfl⟩ := h
        refine ⟨hu, h1, by omega, hl, inf, ?_⟩
        unfold zeroT at h3
        cases hz : inf.zero with
        | none => simp [h2, hz] at h3
        | some zv =>
          simp [h2, hz] at h3
          exact ⟨zv, h2, by simpa [szT, h2] using h1, rfl, rfl, by rw [h3]⟩
      · simp at h
    · simp at h
  · simp at h
theorem zero_cells {zv : Value} {z : List V} (hz : (V.ofValue zv).cells = z) (h1 : z.all V.one = true) : VRels μ z zv.cells.toList := by
  subst hz; exact (ofValue_rel μ zv).cells h1
theorem make_run {env : Env} {ρ : Operand → Value} (hρ : ∀ x, VRel μ (opd env x) (ρ x)) (hB : B ≤ w.heap.size) {o : Oper} {obj : O} {f : Nat → V} (h : makeA P env o.op = some (obj, f)) :
    ∃ cobj sz y w', (execOp ρ o).run P w = .ok (.value y) w' ∧ w'.heap = w.heap.push cobj ∧ w'.os = w.os ∧ w'.tape = w.tape ∧ w'.output = w.output ∧
      ∀ ν, μ.le ν → ORel ν B obj ⟨w.heap.size, 0, sz⟩ w' ∧ ∀ i, ν i = some ⟨w.heap.size, 0, sz⟩ → VRel ν (f i) y := by
  have hnew : ∀ (x : V) (x' : Value) (e : TypeId) (obj : O), VRel μ x x' → boxA e x = some obj → ∀ ν, μ.le ν →
      ORel ν B obj ⟨w.heap.size, 0, x'.cells.size⟩ { w with heap := w.heap.push (.cells x'.cells e) } := by
    intro x x' e obj hx hb ν hν
    unfold boxA at hb
    split at hb
    · rename_i h1
      simp at hb; subst hb
      have hr := (VRel.mono hν _ _ hx).cells h1
      have hl := hr.length
      refine ⟨x'.cells, e, (0, 0), by simp, rfl, by simpa using Nat.le_of_eq hl.symm, ?_, fun _ => ⟨hB, rfl, rfl⟩⟩
      intro j v hj
      obtain ⟨y, a, b⟩ := hr.get j v hj
      refine ⟨?_, y, by simpa using a, b⟩
      simp only [List.all_eq_true] at h1
      exact h1 v (List.mem_of_getElem? hj)
    · simp at hb
  obtain ⟨dst, op, ty, pos, after, guard⟩ := o
  simp only at h
  unfold makeA at h
  split at h
  · rename_i t
    split at h
    · rename_i z hz
      cases hb : boxA t z with
      | none => simp [hb] at h
      | some q =>
        simp [hb] at h
        obtain ⟨rfl, rfl⟩ := h
        obtain ⟨z', e1, e2⟩ := run_zero (w := w) μ hz
        refine ⟨.cells z'.cells t, z'.cells.size, .pointer (some ⟨w.heap.size, 0, none⟩), { w with heap := w.heap.push (.cells z'.cells t) }, ?_, rfl, rfl, rfl, rfl, ?_⟩
        · simp [execOp, Instr.alloc, e1, newVar, newRow]
        · intro ν hν
          exact ⟨hnew z z' t q e2 hb ν hν, fun i hi => by simp only [VRel]; exact ⟨_, hi, rfl⟩⟩
    · simp at h
  · rename_i t x
    cases hb : boxA t (opd env x) with
    | none => simp [hb] at h
    | some q =>
      simp [hb] at h
      obtain ⟨rfl, rfl⟩ := h
      refine ⟨.cells (ρ x).cells t, (ρ x).cells.size, .pointer (some ⟨w.heap.size, 0, none⟩), { w with heap := w.heap.push (.cells (ρ x).cells t) }, ?_, rfl, rfl, rfl, rfl, ?_⟩
      · simp [execOp, Instr.box, newVar, newRow]
      · intro ν hν
        exact ⟨hnew _ _ t q (hρ x) hb ν hν, fun i hi => by simp only [VRel]; exact ⟨_, hi, rfl⟩⟩
  · rename_i t len ps
    split at h
    · rename_i e n b z he
      obtain ⟨hu, hs, hn, hzl, inf, zv, hi, hi1, hi2, hi3, hi4⟩ := elemT_spec he
      cases hb : bSl n e z len (ps.toList.map fun p => (p.1, opd env p.2)) with
      | none => simp [hb] at h
      | some q =>
        simp [hb] at h
        obtain ⟨rfl, rfl⟩ := h
        unfold bSl at hb
        split at hb
        · rename_i hc
          obtain ⟨c1, c2, c3⟩ := hc
          cases hf : fillA (fun i => some (i * n, n)) (rowA z len) (ps.toList.map fun p => (p.1, opd env p.2)) with
          | none => simp [hf] at hb
          | some cs =>
            simp [hf] at hb; subst hb
            have hzr : VRels μ z zv.cells.toList := zero_cells hi4 c3
            have hrow := rowA_rel hzr len
            have hid : (ps.toList.map fun p => (p.1, ρ p.2)).map (·.1) = (ps.toList.map fun p => (p.1, opd env p.2)).map (·.1) := by simp [Function.comp_def]
            obtain ⟨es, f1, f2⟩ := fillA_sound (μ := μ) _ _ _ _ _ hf hrow hid (parts_rel hρ ps.toList)
            have hal : cs.all V.one = true := by
              have : ∀ (ps : List (Nat × V)) (l r : List V), fillA (fun i => some (i * n, n)) l ps = some r → l.all V.one = true → r.all V.one = true := by
                intro ps
                induction ps with
                | nil => intro l r h1 h2; simp [fillA] at h1; subst h1; exact h2
                | cons p ps ih =>
                  intro l r h1 h2
                  simp only [fillA] at h1
                  split at h1
                  · rename_i hh
                    refine ih _ _ h1 ?_
                    simp only [List.all_eq_true]
                    intro x hx
                    obtain ⟨j, hj⟩ := List.getElem?_of_mem hx
                    rw [lset_get _ _ _ _ (by omega)] at hj
                    split at hj
                    · have := hh.2.2; simp only [List.all_eq_true] at this; exact this x (List.mem_of_getElem? hj)
                    · simp only [List.all_eq_true] at h2; exact h2 x (List.mem_of_getElem? hj)
                  · simp at h1
              exact this _ _ _ hf (rowA_one c3 len)
            refine ⟨.cells es e, es.size, .slice (some ⟨w.heap.size, 0, none⟩) len len, { w with heap := w.heap.push (.cells es e) }, ?_, rfl, rfl, rfl, rfl, ?_⟩
            · have hfill : Instr.fill (fun i => some (i * n, n)) ((Array.range (len * n)).map (fun i => zv.cells[i % zv.cells.size]!)) (ps.map fun (i, x) => (i, ρ x)).toList = some es := by
                have : (ps.map fun (i, x) => (i, ρ x)).toList = ps.toList.map fun p => (p.1, ρ p.2) := by simp
                rw [this, ← c2, hzl] at *
                simpa [hzl] using f1
              have hc1 : ¬ len * n > 2 ^ 24 := by omega
              have hsz : (sizeOf e).run P w = .ok n w := run_sizeOf hs
              by_cases h0 : len * n = 0
              · simp only [execOp, Instr.buildSlice, Sem.run_bind, run_und hu, Result.andThen_ok, hsz, hc1, if_false, h0, if_true, Sem.run_pure]
                rw [h0] at hfill
                rw [show Array.range 0 = #[] by simp] at hfill ⊢
                rw [Array.map_empty] at hfill
                simp only [show ¬ (0 > 2 ^ 24) by omega, if_false, Sem.run_bind, Sem.run_pure, Result.andThen_ok, Array.map_empty]
                rw [hfill]
                simp [newRow]
              · simp only [execOp, Instr.buildSlice, Sem.run_bind, run_und hu, Result.andThen_ok, hsz, hc1, if_false, h0, Sem.run_pure]
                simp only [zeroValue, typeInfo, Sem.run_bind, run_program, Result.andThen_ok, hi, hi3, Sem.run_pure, hfill]
                rfl
            · intro ν hν
              have f3 := VRels.mono hν _ _ f2
              have hl := f3.length
              have hlc : cs.length = len * n := by
                have : ∀ (ps : List (Nat × V)) (l r : List V), fillA (fun i => some (i * n, n)) l ps = some r → r.length = l.length := by
                  intro ps
                  induction ps with
                  | nil => intro l r h1; simp [fillA] at h1; rw [h1]
                  | cons p ps ih =>
                    intro l r h1
                    simp only [fillA] at h1
                    split at h1
                    · rw [ih _ _ h1, lset_length]
                    · simp at h1
                rw [this _ _ _ hf, rowA_length, c2]
              refine ⟨⟨es, e, (0, 0), by simp, rfl, by simpa using Nat.le_of_eq hl.symm, ?_, fun _ => ⟨hB, rfl, rfl⟩⟩, ?_⟩
              · intro j v hj
                obtain ⟨y, a, b'⟩ := f3.get j v hj
                refine ⟨?_, y, by simpa using a, b'⟩
                simp only [List.all_eq_true] at hal
                exact hal v (List.mem_of_getElem? hj)
              · intro i hi'
                unfold VRel
                refine ⟨_, _, _, hi', rfl, Nat.le_refl _, fun _ => rfl, .inr ⟨by simp, ?_⟩⟩
                simp at hl ⊢; omega
        · simp at hb
    · simp at h
  · rename_i t rs
    split at h
    · rename_i a b hu
      simp at h
      obtain ⟨rfl, rfl⟩ := h
      refine ⟨.map #[] 0, 0, .map (some w.heap.size), { w with heap := w.heap.push (.map #[] 0) }, ?_, rfl, rfl, rfl, rfl, ?_⟩
      · simp [execOp, Instr.makeMap]
      · intro ν hν
        exact ⟨⟨#[], by simp, hB, by simp [MERels]⟩, fun i hi => by simp only [VRel]; exact ⟨_, hi, rfl⟩⟩
    · simp at h
  · rename_i t l c
    split at h
    · rename_i e n b z he
      obtain ⟨hu, hs, hn, hzl, inf, zv, hi, hi1, hi2, hi3, hi4⟩ := elemT_spec he
      cases hb : mkSl n b e z (opd env l) (opd env c) with
      | none => simp [hb] at h
      | some q =>
        simp [hb] at h
        obtain ⟨rfl, rfl⟩ := h
        unfold mkSl at hb
        split at hb
        · rename_i k1 li k2 ci hl hc
          have hl' := hρ l; rw [hl] at hl'
          have hc' := hρ c; rw [hc] at hc'
          have hl2 := int_inv hl'
          have hc2 := int_inv hc'
          split at hb
          · rename_i hh
            obtain ⟨d1, d2, d3, d4, d5, d6⟩ := hh
            simp at hb; subst hb
            have hzr : VRels μ z zv.cells.toList := zero_cells hi4 d6
            have hrow := rowA_rel hzr ci.toNat
            generalize hes : (Array.range (ci.toNat * z.length)).map (fun i => zv.cells[i % zv.cells.size]!) = es at hrow
            have hess : es.size = ci.toNat * n := by rw [← hes]; simp [hzl]
            refine ⟨.cells es e, es.size, .slice (some ⟨w.heap.size, 0, none⟩) li.toNat ci.toNat, { w with heap := w.heap.push (.cells es e) }, ?_, rfl, rfl, rfl, rfl, ?_⟩
            · have w1 : IntKind.i64.wrap li = li := wrap_small d1 (by omega)
              have w2 : IntKind.i64.wrap ci = ci := wrap_small (by omega) (by omega)
              have hb2 : inf.bytes * ci ≤ 4096 * 2147483648 := by
                have h1 : (inf.bytes : Int) ≤ 4096 := by rw [hi2]; omega
                have : (inf.bytes : Int) * ci ≤ 4096 * ci := Int.mul_le_mul_of_nonneg_right h1 (by omega)
                omega
              have ht : (decide (ci < 0) || decide ((inf.bytes : Int) * ci > 2 ^ 48)) = false := by
                simp; exact ⟨by omega, by omega⟩
              have hsz : (sizeOf e).run P w = .ok n w := run_sizeOf hs
              simp only [execOp, Instr.makeSlice, Sem.run_bind, run_und hu, Result.andThen_ok, hl2, hc2, asInt, asIntOf, Sem.run_pure, run_typeInfo hi, w1, w2, ht, Bool.false_or]
              have hlt : (decide (li < 0) || decide (li > ci)) = false := by simp; omega
              simp only [hlt, Bool.false_eq_true, if_false, run_askRoom, Result.andThen_ok, Sem.run_bind, hsz]
              by_cases h0 : ci.toNat * n = 0
              · simp only [h0, if_true, Sem.run_pure, Result.andThen_ok]
                rw [← hes, hzl, h0]
                rw [show Array.range 0 = #[] by simp]
                simp [newRow]
              · simp only [h0, if_false]
                simp only [zeroValue, typeInfo, Sem.run_bind, run_program, Result.andThen_ok, hi, hi3, Sem.run_pure]
                rw [← hzl, hes]
                rfl
            · intro ν hν
              have f3 := VRels.mono hν _ _ hrow
              have hal := rowA_one d6 ci.toNat
              have hsub : ∀ (j : Nat) (v : V), (rowA z li.toNat)[j]? = some v → (rowA z ci.toNat)[j]? = some v := by
                intro j v hj
                have hjl : j < li.toNat * z.length := by
                  have := (List.getElem?_eq_some_iff.1 hj).1
                  rwa [rowA_length] at this
                have hle : li.toNat * z.length ≤ ci.toNat * z.length := Nat.mul_le_mul_right _ (by omega)
                rw [rowA_get z (by omega) _ _ hjl] at hj
                rw [rowA_get z (by omega) _ _ (by omega)]; exact hj
              refine ⟨⟨es, e, (0, 0), by simp, rfl, ?_, ?_, fun _ => ⟨hB, rfl, rfl⟩⟩, ?_⟩
              · rw [rowA_length, hess, hzl]
                simp only [Nat.zero_add]
                exact Nat.mul_le_mul_right _ (by omega)
              · intro j v hj
                obtain ⟨y, a, b'⟩ := f3.get j v (hsub j v hj)
                refine ⟨?_, y, by simpa using a, b'⟩
                simp only [List.all_eq_true] at hal
                exact hal v (List.mem_of_getElem? (hsub j v hj))
              · intro i hi'
                unfold VRel
                refine ⟨_, _, _, hi', rfl, by simp only; omega, by simp, .inr ⟨by simp, ?_⟩⟩
                simp only [hess]; omega
          · simp at hb
        · simp at hb
    · simp at h
  · simp at h
end
end Go.AM
end
section
set_option linter.unusedVariables false
set_option linter.unusedSimpArgs false
namespace Go.AM
open Go.RowKit (Below)
section
variable {P : Program} {B n0 : Nat} {w0 w w' w'' : World} {μ μ' μ'' ν : Mu} {H H' H'' : Heap}
theorem Rel.pushAt (hr : Rel B w0 μ H w) {L' : Loc} {o' : O} {w' : World} (hBs : L'.b < w.heap.size) (hB : B ≤ L'.b) (hb0 : L'.base = 0)
    (hfree : ∀ j M, μ j = some M → (H.get j).live = true → M.b ≠ L'.b)
    (hnf : μ.z L'.b = none) (ho1 : w'.os = w.os) (ho2 : w'.tape = w.tape) (ho3 : w'.output = w.output) (hs : w'.heap.size = w.heap.size) (hb : ∀ b, b ≠ L'.b → w'.heap[b]? = w.heap[b]?)
    (ho : ORel (μ.put H.n L') B o' L' w') : Rel B w0 (μ.put H.n L') (H.push o') w' := by
  have hfr : μ H.n = none := hr.fresh (Nat.le_refl _)
  have hle := Mu.le_put (L := L') hfr
  have hget : ∀ j, (H.push o').get j = if j = H.n then o' else H.get j := fun j => Heap.get_push _ _ _
  refine ⟨?_, by rw [hs]; exact hr.size, ?_, ?_, ?_, fun j hj => by simp at hj; rw [hget, if_neg (by omega)]; exact hr.clean j (by omega), ?_, ?_, fun j M e ho2 => by
    rw [hget] at ho2
    simp only [Mu.put] at e
    split at e
    · simp at e; subst e; exact hb0
    · rename_i hj; rw [if_neg hj] at ho2; exact hr.flat j M e ho2⟩
  · exact hr.below.trans ⟨ho1, ho2, ho3, by omega, fun k hk => hb k (by omega)⟩
  · intro j M e
    simp only [Mu.put] at e
    split at e
    · rename_i hj; subst hj; simp at e; subst e; exact ⟨by simp, fun _ => by omega⟩
    · rename_i hj
      have := hr.dom j M e
      rw [hget, if_neg hj]
      exact ⟨by simp; omega, fun hl => by have := this.2 hl; omega⟩
  · intro j M e
    rw [hget]
    simp only [Mu.put] at e
    split at e
    · rename_i hj; subst hj; simp at e; subst e; rw [if_pos rfl]; exact ho
    · rename_i hj
      rw [if_neg hj]
      have hj' := hr.objs j M e
      cases hl : (H.get j).live with
      | false =>
        cases hg : H.get j with
        | none => trivial
        | _ => rw [hg] at hl; simp [O.live] at hl
      | true => exact hj'.mono hle (hb _ (hfree j M e hl))
  · intro j k M N e1 e2 hjk l1 l2 l3
    rw [hget] at l1 l2 l3
    simp only [Mu.put] at e1 e2
    split at e1
    · rename_i hj
      simp at e1; subst e1
      rw [if_neg (by omega)] at e2 l2
      exact (hfree k N e2 l2).symm
    · rename_i hj
      rw [if_neg hj] at l1 l3
      split at e2
      · simp at e2; subst e2
        exact hfree j M e1 l1
      · rename_i hk
        rw [if_neg hk] at l2
        exact hr.sep j k M N e1 e2 hjk l1 l2 l3
  · intro b vs hz
    have hz' : μ.z b = some vs := hz
    obtain ⟨c, e', fr, h1, h2⟩ := hr.frz b vs hz'
    exact ⟨c, e', fr, by rw [hb _ (fun e => by rw [e, hnf] at hz'; cases hz')]; exact h1, h2⟩
  · intro b vs hz k N e2 ho2
    have hz' : μ.z b = some vs := hz
    rw [hget] at ho2
    simp only [Mu.put] at e2
    split at e2
    · simp at e2; subst e2; intro e; rw [← e, hnf] at hz'; cases hz'
    · rename_i hk
      rw [if_neg hk] at ho2
      exact hr.sepf b vs hz' k N e2 ho2
theorem Rel.appendAt (hr : Rel B w0 μ H w) (hn0 : n0 ≤ H.n) {i o : Nat} (ho0 : o = 0) {L : Loc} {cs : List V} {e : TypeId} (hi : μ i = some L) (hg : H.get i = .cells cs e false) {old new : List V} {ys : List Value}
    (hold : ∀ (j : Nat) (v : V), old[j]? = some v → cs[o + j]? = some v) (hv : VRels μ new ys) (h1 : new.all V.one = true) (hfit : L.base + o + old.length + new.length ≤ L.size) :
    ∃ w', (storeCells ⟨L.b, L.base + o + old.length, none⟩ ys).run P w = .ok () w' ∧
      Step B w0 n0 μ H w (μ.put H.n ⟨L.b, L.base + o, L.size⟩) ((H.set i .none).push (.cells (old ++ new) e false)) w' := by
  have ho := hr.objs i L hi
  rw [hg] at ho
  obtain ⟨c, e', fr, hb, hs, hlen, hc, hro⟩ := ho
  obtain ⟨hB, hfr, he⟩ := hro rfl
  subst hfr he
  have hxl := hv.length
  have hrun := run_storeCells_at (P := P) L.b (L.base + o + old.length) e' ys 0 c w hb (by omega) (hv.one h1)
  refine ⟨_, hrun, ?_⟩
  have hh := setRow_heap w L.b c ((c.toList.take (L.base + o + old.length + 0) ++ ys ++ c.toList.drop (L.base + o + old.length + 0 + ys.length)).toArray) e' (0, 0) hb
  have hk := hr.kill (n0 := n0) i
  have hfr : μ H.n = none := hr.fresh (Nat.le_refl _)
  have hle := Mu.le_put (L := ⟨L.b, L.base + o, L.size⟩) hfr
  have hown : (H.get i).own = true := by rw [hg]; rfl
  have hrel : Rel B w0 (μ.put H.n ⟨L.b, L.base + o, L.size⟩) ((H.set i .none).push (.cells (old ++ new) e' false)) (w.setRow L.b ((c.toList.take (L.base + o + old.length + 0) ++ ys ++ c.toList.drop (L.base + o + old.length + 0 + ys.length)).toArray)) := ?_
  · refine ⟨hle, hrel, by simp, by simp, fun b _ hf => setRow_other w L.b b _ (Ne.symm (hf i L hi hown)), ?_, fun _ _ h => .inl h⟩
    intro j M em
    simp only [Mu.put] at em
    split at em
    · rename_i hj; subst hj; simp at em; subst em; exact .inr ⟨hn0, .inr ⟨i, L, hi, rfl, fun _ => hown, fun _ => by rw [hg]; rfl⟩⟩
    · rename_i hj
      refine .inl ⟨em, fun o => ?_, fun o => ?_⟩
      · rw [Heap.get_push, if_neg (by simpa using hj), Heap.get_set] at o
        split at o
        · simp [O.own] at o
        · exact o
      · rw [Heap.get_push, if_neg (by simpa using hj), Heap.get_set] at o
        split at o
        · simp [O.live] at o
        · exact o
  refine hk.rel.pushAt (w' := w.setRow L.b _) (L' := ⟨L.b, L.base + o, L.size⟩) ((hr.dom i L hi).2 (by rw [hg]; rfl)) hB (by have := hr.flat i L hi (by rw [hg]; rfl); simp only; omega) ?_ (by
    cases hz : μ.z L.b with
    | none => rfl
    | some vs => exact absurd rfl (hr.sepf _ _ hz i L hi (by rw [hg]; rfl))) rfl rfl rfl (by simp) (fun b hbn => setRow_other w L.b b _ hbn) ?_
  · intro j M e hl
    rw [Heap.get_set] at hl
    by_cases hj : j = i
    · rw [if_pos hj] at hl; simp [O.live] at hl
    · rw [if_neg hj] at hl
      exact (hr.sep i j L M hi e (Ne.symm hj) (by rw [hg]; rfl) hl (by rw [hg]; rfl)).symm
  · refine ⟨_, _, _, hh, ?_, ?_, ?_, fun _ => ⟨hB, rfl, rfl⟩⟩
    · simp; omega
    · simp; omega
    · intro j v hj
      have hrow := row_get c.toList ys (L.base + o + old.length) (L.base + o + j) (by simp; omega)
      by_cases hjo : j < old.length
      · rw [List.getElem?_append_left hjo] at hj
        obtain ⟨a, x, b, d⟩ := hc _ v (hold j v hj)
        refine ⟨a, x, ?_, VRel.mono hle _ _ d⟩
        rw [if_neg (by omega)] at hrow
        simp only [Nat.add_zero, List.getElem?_toArray]
        rw [hrow, Nat.add_assoc]; simpa using b
      · rw [List.getElem?_append_right (by omega)] at hj
        obtain ⟨x, a, b⟩ := hv.get _ _ hj
        have hjl := (List.getElem?_eq_some_iff.1 hj).1
        refine ⟨?_, x, ?_, VRel.mono hle _ _ b⟩
        · simp only [List.all_eq_true] at h1
          exact h1 v (List.mem_of_getElem? hj)
        · rw [if_pos (by omega)] at hrow
          simp only [Nat.add_zero, List.getElem?_toArray]
          rw [hrow, show L.base + o + j - (L.base + o + old.length) = j - old.length by omega]; exact a
theorem elem_info {t e : TypeId} {n b : Nat} {z : List V} (h : elemT P t = some (e, n, b, z)) :
    P.underlying t = some (.slice e) ∧ 0 < n ∧ ∃ inf zv, P.info? e = some inf ∧ inf.size = n ∧ inf.bytes = b ∧ inf.zero = some zv ∧ zv.cells.size = n ∧ szT P e = some n := by
  obtain ⟨h1, h2, h3, h4, inf, zv, h5, h6, h7, h8, h9⟩ := elemT_spec h
  refine ⟨h1, h3, inf, zv, h5, h6, h7, h8, ?_, h2⟩
  have := congrArg List.length h9
  rw [h4] at this
  rw [← this]
  cases zv with
  | agg cs => simp [V.ofValue, V.cells, Value.cells]
  | tuple vs =>
    change 1 = (if vs.size = 0 then V.tuple [] else V.dead).cells.length
    split <;> rfl
  | slice a b c => cases a <;> cases b <;> cases c <;> rfl
  | pointer a => cases a <;> rfl
  | map a => cases a <;> rfl
  | _ => rfl
theorem list_read (hr : Rel B w0 μ H w) {k z : Nat} {cs : List V} {y : Value} (hx : VRel μ (.list k z cs) y) :
    ∃ base cap xs, y = .slice base k cap ∧ VRels μ cs xs ∧ cs.all V.one = true ∧ (∀ y ∈ xs, y.oneCell' = true) ∧ (base = none → k = 0) ∧ xs.length = k * z ∧
      (∀ a, base = some a → ∀ (j : Nat) v, xs[j]? = some v → w.cell? (a.add j) = some v) := by
  simp only [VRel] at hx
  rcases hx with ⟨rfl, rfl, rfl | ⟨a, cap, hsp, rfl⟩⟩ | ⟨j, L, o, cap, m, rfl, hcap, hroom, hlen, hone, hv⟩
  · exact ⟨none, 0, [], rfl, rfl, rfl, by simp, fun _ => rfl, by simp, by simp⟩
  · exact ⟨some a, cap, [], rfl, rfl, rfl, by simp, by simp, by simp, by simp⟩
  · refine ⟨some _, cap, _, rfl, hv, hone, hv.one hone, by simp, by rw [hv.length, hlen], ?_⟩
    intro a ha j v hj
    simp at ha; subst ha
    rw [addr_add]
    exact hr.fzCells m j v hj
theorem srcA_sound (hr : Rel B w0 μ H w) {n k : Nat} {x : V} {new : List V} {y : Value} {u : TypeId} (hu : (∃ e, P.underlying u = some (.slice e)) ∨ P.underlying u = some .string) (h : srcA n x H = some (k, new)) (hx : VRel μ x y) :
    ∃ ys, Src P n u y k ys w ∧ VRels μ new ys ∧ new.all V.one = true ∧ (∀ c ys', y = .slice none c ys' → k = 0) ∧
      (∀ m, m ≤ k → (Builtin.firstCells n m y).run P w = .ok (ys.take (m * n)).toArray w) := by
  unfold srcA at h
  split at h
  · rename_i s
    split at h
    · rename_i hc
      cases hrd : rdS s H with
      | none => simp [hrd] at h
      | some cs =>
        simp [hrd] at h
        obtain ⟨rfl, rfl⟩ := h
        obtain ⟨base, cap, xs, e1, e2, e3, e4, e5, e6, e7, e8, e9, e10⟩ := rdS_sound hr hrd hx
        subst e1
        have hlen : xs.length = s.len * n := by
          rcases hc with hc | hc
          · have : s.ad = none := by simpa using hc
            rw [e8, (e7 this).1]; simp
          · rw [e8, hc]
        refine ⟨xs, ⟨hu, fun _ => rfl, ?_, ?_, hlen, e4⟩, e2, e3, ?_, ?_⟩
        · cases base with
          | none =>
            have h0 := (e7 (e6.1 rfl)).1
            rw [h0] at hlen
            have : xs = [] := List.eq_nil_of_length_eq_zero (by simpa using hlen)
            subst this; rw [h0]; exact run_firstCells_none w n 0 0 cap
          | some a => exact run_firstCells_some w n s.len a s.len cap xs hlen (e9 a rfl)
        · cases base with
          | none =>
            have h0 := (e7 (e6.1 rfl)).1
            rw [h0] at hlen
            have : xs = [] := List.eq_nil_of_length_eq_zero (by simpa using hlen)
            subst this; rw [h0]; exact run_firstCells_none w.drew n 0 0 cap
          | some a => exact run_firstCells_some w.drew n s.len a s.len cap xs hlen (by simpa using e9 a rfl)
        · intro c ys' hh
          simp at hh
          exact (e7 (e6.1 hh.1)).1
        · intro m hm
          cases base with
          | none =>
            have h0 := (e7 (e6.1 rfl)).1
            rw [h0] at hlen
            have : xs = [] := List.eq_nil_of_length_eq_zero (by simpa using hlen)
            subst this; simpa using run_firstCells_none w n m s.len cap
          | some a =>
            refine run_firstCells_some w n m a s.len cap (xs.take (m * n)) ?_ ?_
            · rw [List.length_take, hlen]; exact Nat.min_eq_left (Nat.mul_le_mul_right _ hm)
            · intro j v hj
              rw [List.getElem?_take] at hj
              split at hj
              · exact e9 a rfl j v hj
              · simp at hj
    · simp at h
  · rename_i s
    split at h
    · rename_i hn
      subst hn
      simp at h
      obtain ⟨rfl, rfl⟩ := h
      simp only [VRel] at hx
      subst hx
      have hsz : (⟨s.toArray⟩ : ByteArray).size = s.length := by simp [ByteArray.size]
      have hbc : byteCells ⟨s.toArray⟩ = s.map fun b => Value.int .u8 b.toNat := by simp [byteCells]
      refine ⟨byteCells ⟨s.toArray⟩, ⟨hu, fun _ => by simp [Builtin.lenOf, hsz], ?_, ?_, by rw [byteCells_length, hsz]; simp, ?_⟩, ?_, ?_, by simp, ?_⟩
      · have := firstCells_string (P := P) ⟨s.toArray⟩ w; rwa [hsz] at this
      · have := firstCells_string (P := P) ⟨s.toArray⟩ w.drew; rwa [hsz] at this
      · intro v hv
        rw [hbc] at hv
        obtain ⟨_, _, rfl⟩ := List.mem_map.1 hv
        rfl
      · rw [hbc]
        refine VRels.of_get (by simp) ?_
        intro j v x hv hx
        simp at hv hx
        obtain ⟨b, e1, rfl⟩ := hv
        obtain ⟨b', e2, rfl⟩ := hx
        rw [e1] at e2; cases e2
        simp [VRel]
      · simp [V.one]
      · intro m hm
        simp only [Builtin.firstCells, Sem.run_pure, hbc]
        congr 1
        apply Array.ext'
        rw [ByteArray.data_extract]
        simp [List.map_take]
    · simp at h
  · rename_i q z cs
    split at h
    · rename_i hc
      simp at h
      obtain ⟨rfl, rfl⟩ := h
      obtain ⟨base, cap, xs, e1, e2, e3, e4, e6, e8, e9⟩ := list_read hr hx
      subst e1
      have hlen : xs.length = q * n := by
        rcases hc with rfl | rfl
        · rw [e8]; simp
        · exact e8
      refine ⟨xs, ⟨hu, fun _ => rfl, ?_, ?_, hlen, e4⟩, e2, e3, ?_, ?_⟩
      · cases base with
        | none =>
          have h0 := e6 rfl
          rw [h0] at hlen
          have : xs = [] := List.eq_nil_of_length_eq_zero (by simpa using hlen)
          subst this; rw [h0]; exact run_firstCells_none w n 0 0 cap
        | some a => exact run_firstCells_some w n q a q cap xs hlen (e9 a rfl)
      · cases base with
        | none =>
          have h0 := e6 rfl
          rw [h0] at hlen
          have : xs = [] := List.eq_nil_of_length_eq_zero (by simpa using hlen)
          subst this; rw [h0]; exact run_firstCells_none w.drew n 0 0 cap
        | some a => exact run_firstCells_some w.drew n q a q cap xs hlen (by simpa using e9 a rfl)
      · intro c ys' hh
        simp at hh
        exact e6 hh.1
      · intro m hm
        cases base with
        | none =>
          have h0 := e6 rfl
          rw [h0] at hlen
          have : xs = [] := List.eq_nil_of_length_eq_zero (by simpa using hlen)
          subst this; simpa using run_firstCells_none w n m q cap
        | some a =>
          refine run_firstCells_some w n m a q cap (xs.take (m * n)) ?_ ?_
          · rw [List.length_take, hlen]; exact Nat.min_eq_left (Nat.mul_le_mul_right _ hm)
          · intro j v hj
            rw [List.getElem?_take] at hj
            split at hj
            · exact e9 a rfl j v hj
            · simp at hj
    · simp at h
  · simp at h
end
end Go.AM
end
section
set_option linter.unusedVariables false
set_option linter.unusedSimpArgs false
namespace Go.AM
open Go.RowKit (Below)
section
variable {P : Program} {B n0 : Nat} {w0 w w' w'' : World} {μ μ' μ'' ν : Mu} {H H' H'' : Heap}
theorem append_sound (hr : Rel B w0 μ H w) (hn0 : n0 ≤ H.n) {t u ty e : TypeId} {n by_ : Nat} {z : List V} (he : elemT P t = some (e, n, by_, z)) (hu : (∃ e, P.underlying u = some (.slice e)) ∨ P.underlying u = some .string)
    {v x r : V} {a b : Value} (h : appA n by_ e v x H = some (r, H')) (ha : VRel μ v a) (hb : VRel μ x b) :
    ∃ y μ' w', (Builtin.append_ #[t, u] ty #[a, b]).run P w = .ok y w' ∧ Step B w0 n0 μ H w μ' H' w' ∧ VRel μ' r y := by
  obtain ⟨ht, hn, inf, zv, hi, hsz, hby, hz, hzc, hszT⟩ := elem_info he
  subst hsz hby
  unfold appA at h
  split at h
  · rename_i s
    cases hsrc : srcA inf.size x H with
    | none => simp [hsrc] at h
    | some q =>
      obtain ⟨k, new⟩ := q
      simp only [hsrc, Option.bind_some] at h
      obtain ⟨ys, S, hys, hone, hnil, _⟩ := srcA_sound hr hu hsrc hb
      have ha' := ha
      simp only [VRel] at ha
      split at h
      · rename_i hk
        subst hk
        simp at h
        obtain ⟨rfl, rfl⟩ := h
        have hys0 : ys = [] := List.eq_nil_of_length_eq_zero (by rw [S.newsLen]; simp)
        subst hys0
        split at ha
        · rename_i hs
          obtain ⟨hl, rfl⟩ := ha
          refine ⟨.slice none 0 0, μ, w, ?_, Step.refl hr, ?_⟩
          · rcases S.kind with ⟨e', hk⟩ | hk <;> simp [Builtin.append_, run_underlying ht, run_underlying hk, sizeOf, typeInfo, hi, S.len, S.cells]
          · simp only [VRel, hs]; exact ⟨hl, trivial⟩
        · rename_i i o hs
          obtain ⟨L, ad, cap, e1, rfl, e3, e4, e5⟩ := ha
          refine ⟨.slice (some ad) s.len cap, μ, w, ?_, Step.refl hr, ?_⟩
          · rcases S.kind with ⟨e', hk⟩ | hk <;> simp [Builtin.append_, run_underlying ht, run_underlying hk, sizeOf, typeInfo, hi, S.len, S.cells, e3, storeCells]
          · simp only [VRel, hs]; exact ⟨L, ad, cap, e1, rfl, e3, by simp, e5⟩
      · rename_i hk
        split at h
        · rename_i hc
          obtain ⟨c1, c2, c3⟩ := hc
          cases hrd : rdS s H with
          | none => simp [hrd] at h
          | some old =>
            cases hki : killA s e H with
            | none => simp [hrd, hki] at h
            | some H1 =>
              simp [hrd, hki] at h
              obtain ⟨rfl, rfl⟩ := h
              obtain ⟨base, cap, xs, q1, q2, q3, q4, q5, q6, q7, q8, q9, q10⟩ := rdS_sound hr hrd ha'
              subst q1
              have hol : xs.length = s.len * inf.size := by
                rcases c3 with hc | hc
                · have : s.ad = none := by simpa using hc
                  rw [q8, (q7 this).1]; simp
                · rw [q8, hc]
              have hold : old.length = s.len * inf.size := by rw [← hol, q2.length]
              have hnl : new.length = k * inf.size := by rw [← S.newsLen, hys.length]
              by_cases hroom : s.len + k ≤ cap
              ·
                have hnfull : s.full = false := by
                  by_cases hf : s.full = true
                  · split at ha
                    · obtain ⟨hl, hh⟩ := ha
                      simp at hh
                      omega
                    · obtain ⟨L, ad, cap', e1, hh, e3, e4, e5⟩ := ha
                      simp at hh
                      have := e4 hf
                      omega
                  · simpa using hf
                unfold killA at hki
                split at hki
                · rename_i hs
                  have := (q7 hs).2
                  omega
                · rename_i i o hs
                  simp only [hs] at ha
                  obtain ⟨L, ad, cap', e1, hh, e3, e4, e5⟩ := ha
                  simp at hh
                  obtain ⟨rfl, rfl⟩ := hh
                  have hes : s.esz = inf.size := by
                    rcases c3 with hc | hc
                    · simp [hs] at hc
                    · exact hc
                  rw [hes] at e5
                  obtain ⟨rfl, hfit⟩ := e5.resolve_left (by omega)
                  rw [hnfull] at hki
                  simp only [Bool.false_eq_true, if_false] at hki
                  split at hki
                  · rename_i cs u' hg
                    split at hki
                    · rename_i hue
                      obtain ⟨hue, ho0⟩ := hue
                      subst hue
                      simp at hki; subst hki
                      have hfit2 : (s.len + k) * inf.size ≤ cap * inf.size := Nat.mul_le_mul_right _ hroom
                      have hmul : (s.len + k) * inf.size = s.len * inf.size + k * inf.size := Nat.add_mul _ _ _
                      have hoc : ∀ (j : Nat) (v : V), old[j]? = some v → cs[o + j]? = some v := by
                        intro j v hj
                        unfold rdS at hrd
                        simp only [hs] at hrd
                        split at hrd
                        · simp at hrd; subst hrd; simp at hj
                        · rw [hg] at hrd
                          simp only at hrd
                          split at hrd
                          · simp at hrd; subst hrd
                            rw [List.getElem?_take] at hj
                            split at hj
                            · rwa [List.getElem?_drop] at hj
                            · simp at hj
                          · simp at hrd
                      obtain ⟨w', hrun, hst⟩ := hr.appendAt (P := P) hn0 ho0 e1 hg hoc hys hone (by omega)
                      refine ⟨.slice (some ⟨L.b, L.base + o, none⟩) (s.len + k) cap, _, w', ?_, hst, ?_⟩
                      · rw [hold] at hrun
                        rcases S.kind with ⟨e', hk⟩ | hk <;> simp [Builtin.append_, run_underlying ht, run_underlying hk, sizeOf, typeInfo, hi, S.len, S.cells, hroom, addr_add, hrun]
                      · simp only [VRel]
                        refine ⟨_, _, cap, Mu.put_same, rfl, hroom, by simp, .inr ⟨by simp, ?_⟩⟩
                        simp only; omega
                    · simp at hki
                  · simp at hki
              ·
                have hrun := run_append_grow_src (P := P) w t u ty e inf zv ht hi hz base s.len cap xs (by
                    cases hbs : base with
                    | none =>
                      subst hbs
                      have h0 := (q7 (q6.1 rfl)).1
                      have : xs = [] := List.eq_nil_of_length_eq_zero (by rw [hol, h0]; simp)
                      subst this; exact run_firstCells_none w.drew _ _ _ _
                    | some a => subst hbs; exact run_firstCells_some w.drew inf.size s.len a s.len cap xs hol (by simpa using q9 a rfl)) b k ys S (by omega) (by omega)
                  (growslice_fits (by omega) (by
                    have h1 : (s.len + k) * inf.bytes ≤ 2147483648 * 4096 := Nat.mul_le_mul (by omega) c2
                    omega))
                have hge := grownCap_ge w (s.len + k) cap e
                generalize hcapd : grownCap w (s.len + k) cap e = cap2 at hrun hge
                have hkill : ∃ μ1, Step B w0 n0 μ H w μ1 H1 w.drew ∧ μ1 = μ := by
                  have hdrew : Step B w0 n0 μ H w μ H w.drew := ⟨Mu.le_refl _, hr.heap_eq rfl rfl rfl rfl, Nat.le_refl _, Nat.le_refl _, fun _ _ _ => rfl, fun _ _ h => .inl ⟨h, id, id⟩, fun _ _ h => .inl h⟩
                  unfold killA at hki
                  split at hki
                  · simp at hki; subst hki; exact ⟨μ, hdrew, rfl⟩
                  · split at hki
                    · simp at hki; subst hki; exact ⟨μ, hdrew, rfl⟩
                    · split at hki
                      · split at hki
                        · simp at hki; subst hki; exact ⟨μ, hdrew.trans (hdrew.rel.kill _), rfl⟩
                        · simp at hki
                      · simp at hki
                obtain ⟨μ1, hs1, rfl⟩ := hkill
                have hall := hs1.rel.alloc (n0 := n0) (r := none) (Nat.le_trans hn0 hs1.n) (o := .cells (old ++ new) e false)
                  (obj := .cells ((xs ++ ys).toArray ++ Builtin.zeroCells zv.cells (cap2 - (s.len + k))) e) (sz := cap2 * inf.size)
                  (w' := w.drew.alloc (.cells ((xs ++ ys).toArray ++ Builtin.zeroCells zv.cells (cap2 - (s.len + k))) e)) rfl rfl rfl rfl
                have hszA : ((xs ++ ys).toArray ++ Builtin.zeroCells zv.cells (cap2 - (s.len + k))).size = cap2 * inf.size := by
                  rw [Array.size_append, size_zeroCells, hzc]
                  simp only [List.size_toArray, List.length_append, hol, S.newsLen]
                  rw [← Nat.add_mul, ← Nat.add_mul]
                  congr 1; omega
                have hlen2 : (old ++ new).length = (s.len + k) * inf.size := by rw [List.length_append, hold, hnl, Nat.add_mul]
                have hfr : μ1 H1.n = none := hs1.rel.fresh (Nat.le_refl _)
                refine ⟨_, _, _, hrun, hs1.trans (hall ?_), ?_⟩
                · have hle := Mu.le_put (L := ⟨w.drew.heap.size, 0, cap2 * inf.size⟩) hfr
                  refine ⟨_, e, (0, 0), heap_alloc_new w.drew _, hszA, ?_, ?_, fun _ => ⟨hs1.rel.size, rfl, rfl⟩⟩
                  · rw [hlen2]
                    simp only [Nat.zero_add]
                    exact Nat.mul_le_mul_right _ hge
                  · intro j v hj
                    have hR := VRels.append q2 hys
                    obtain ⟨y, a1, a2⟩ := hR.get j v hj
                    refine ⟨?_, y, ?_, VRel.mono hle _ _ a2⟩
                    · have hm := List.mem_of_getElem? hj
                      simp only [List.all_eq_true] at q3 hone
                      rcases List.mem_append.1 hm with hm | hm
                      · exact q3 v hm
                      · exact hone v hm
                    · have hjl : j < (xs ++ ys).length := (List.getElem?_eq_some_iff.1 a1).1
                      simp only [Nat.zero_add]
                      rw [Array.getElem?_append_left (by simpa using hjl), List.getElem?_toArray]
                      exact a1
                · simp only [VRel]
                  refine ⟨_, _, cap2, Mu.put_same, rfl, hge, by simp, .inr ⟨by simp [newA], by simp⟩⟩
        · simp at h
  · simp at h
end
end Go.AM
end
section
set_option linter.unusedVariables false
set_option linter.unusedSimpArgs false
namespace Go.AM
open Go.RowKit (Below)
section
variable {P : Program} {B n0 : Nat} {w0 w w' w'' : World} {μ μ' μ'' ν : Mu} {H H' H'' : Heap}
theorem store_sound (hr : Rel B w0 μ H w) {t : TypeId} {n : Nat} {v x : V} {a b : Value} (hs : szT P t = some n) (h : stA n v x H = some H') (ha : VRel μ v a) (hb : VRel μ x b) :
    ∃ w', (Instr.storeAt t a b).run P w = .ok () w' ∧ Step B w0 n0 μ H w μ H' w' := by
  unfold stA at h
  split at h
  · rename_i i o
    split at h
    · rename_i cs e hg
      split at h
      · rename_i hc
        obtain ⟨c1, c2, c3⟩ := hc
        simp at h; subst h
        simp only [VRel] at ha
        obtain ⟨L, e1, rfl⟩ := ha
        have hcl := hb.cells c3
        obtain ⟨w', hrun, hst⟩ := hr.putCells (P := P) (n0 := n0) (o := o) e1 hg hcl c3 (by omega)
        refine ⟨w', ?_, hst⟩
        have hsz : b.cells.size = n := by have := hcl.length; simpa [c1] using this
        simp [Instr.storeAt, Instr.sureAddr, storeVar, run_sizeOf hs, hsz, hrun]
      · simp at h
    · simp at h
  · simp at h
theorem copy_sound (hr : Rel B w0 μ H w) {t u ty e : TypeId} {n by_ : Nat} {z : List V} (he : elemT P t = some (e, n, by_, z)) (hu : (∃ e, P.underlying u = some (.slice e)) ∨ P.underlying u = some .string)
    {v x r : V} {a b : Value} (h : copyA n v x H = some (r, H')) (ha : VRel μ v a) (hb : VRel μ x b) :
    ∃ y w', (Builtin.copy_ #[t, u] ty #[a, b]).run P w = .ok y w' ∧ Step B w0 n0 μ H w μ H' w' ∧ VRel μ r y := by
  obtain ⟨ht, hn, inf, zv, hi, hsz, hby, hz, hzc, hszT⟩ := elem_info he
  unfold copyA at h
  split at h
  · rename_i d
    cases hsrc : srcA n x H with
    | none => simp [hsrc] at h
    | some q =>
      obtain ⟨k, new⟩ := q
      simp only [hsrc, Option.bind_some] at h
      obtain ⟨ys, S, hys, hone, hnil, htake⟩ := srcA_sound hr hu hsrc hb
      have hmin : Nat.min k d.len = min k d.len := rfl
      simp only [VRel] at ha
      split at h
      · rename_i hm
        simp at h
        obtain ⟨rfl, rfl⟩ := h
        have h0 := htake 0 (Nat.zero_le _)
        simp at h0
        have hmm : Nat.min k d.len = 0 := hm
        split at ha
        · obtain ⟨hl, rfl⟩ := ha
          refine ⟨goInt 0, w, ?_, Step.refl hr, by simp [VRel, goInt]⟩
          simp [Builtin.copy_, run_underlying ht, run_sizeOf hszT, S.len, h0, hl] at hmm ⊢
        · obtain ⟨L, ad, cap, e1, rfl, e3, e4, e5⟩ := ha
          refine ⟨goInt 0, w, ?_, Step.refl hr, by simp [VRel, goInt]⟩
          simp [Builtin.copy_, run_underlying ht, run_sizeOf hszT, S.len, hmm, h0, storeCells]
      · rename_i hm
        split at h
        · rename_i i o hs
          split at h
          · rename_i cs e' hg
            split at h
            · rename_i hc
              obtain ⟨c1, c2⟩ := hc
              simp at h
              obtain ⟨rfl, rfl⟩ := h
              simp only [hs] at ha
              obtain ⟨L, ad, cap, e1, rfl, e3, e4, e5⟩ := ha
              obtain ⟨rfl, hfit⟩ := e5.resolve_left (by
                have : min k d.len ≤ d.len := Nat.min_le_right _ _
                omega)
              have hmk : min k d.len ≤ k := Nat.min_le_left _ _
              have ht' := htake (min k d.len) hmk
              have hv := VRels.take (min k d.len * n) hys
              have hnl : new.length = k * n := by rw [← S.newsLen, hys.length]
              have h1 : (new.take (min k d.len * n)).all V.one = true := by
                simp only [List.all_eq_true] at hone ⊢
                intro x hx; exact hone x (List.mem_of_mem_take hx)
              obtain ⟨w', hrun, hst⟩ := hr.putCells (P := P) (n0 := n0) (o := o) e1 hg hv h1 (by rw [List.length_take, hnl]; omega)
              refine ⟨goInt (min k d.len : Nat), w', ?_, hst, by simp [VRel, goInt]⟩
              simp [Builtin.copy_, run_underlying ht, run_sizeOf hszT, S.len, hmin, ht', hrun]
            · simp at h
          · simp at h
        · simp at h
  · simp at h
theorem findA_get {eq : V → Option Bool} : ∀ {es : List ME} {i j : Nat} {e : ME}, findA eq es i = some (some (j, e)) → i ≤ j ∧ es[j - i]? = some e
  | [], i, j, e, h => by simp [findA] at h
  | a :: es, i, j, e, h => by
    simp only [findA] at h
    cases h1 : eq a.key with
    | none => simp [h1] at h
    | some b =>
      simp only [h1, Option.bind_some] at h
      split at h
      · simp at h; obtain ⟨rfl, rfl⟩ := h; simp
      · obtain ⟨h2, h3⟩ := findA_get h
        refine ⟨by omega, ?_⟩
        rw [show j - i = (j - (i + 1)) + 1 by omega]
        simpa using h3
theorem findM_get {kt : TypeId} {k : V} {es : List ME} {j : Nat} {e : ME} (h : findM P kt k es = some (some (j, e))) : es[j]? = some e := by
  unfold findM at h
  split at h
  · simpa using (findA_get h).2
  · simp at h
theorem sameOne_bits {u v : V} {x y : Value} (h : sameOne u v = true) (hx : VRel μ u x) (hy : VRel μ v y) (n : Nat) : Instr.sameBits n x y = true := by
  unfold sameOne at h
  split at h
  · simp only [VRel] at hx hy; subst hx hy; cases n <;> simpa [Instr.sameBits] using h
  · simp only [VRel] at hx hy; subst hx hy; cases n <;> simpa [Instr.sameBits] using h
  · rename_i a b
    simp only [VRel] at hx hy; subst hx hy
    have : a = b := by simpa using h
    subst this
    cases n <;> simp only [Instr.sameBits] <;> (rw [beq_toListBytes]; simp)
  · simp at h
theorem sameAll_bits : ∀ {us vs : List V} {xs ys : List Value} (n : Nat), sameAll us vs = true → VRels μ us xs → VRels μ vs ys → xs.length = ys.length ∧ ∀ p ∈ xs.zip ys, Instr.sameBits n p.1 p.2 = true
  | [], [], xs, ys, n, h, hx, hy => by simp [VRels] at hx hy; subst hx hy; simp
  | u :: us, v :: vs, xs, ys, n, h, hx, hy => by
    simp only [VRels] at hx hy
    obtain ⟨x, xs, rfl, h1, h2⟩ := hx
    obtain ⟨y, ys, rfl, h3, h4⟩ := hy
    simp only [sameAll, Bool.and_eq_true] at h
    obtain ⟨hl, ha⟩ := sameAll_bits n h.2 h2 h4
    refine ⟨by simp [hl], ?_⟩
    intro p hp
    simp only [List.zip_cons_cons, List.mem_cons] at hp
    rcases hp with rfl | hp
    · exact sameOne_bits h.1 h1 h3 n
    · exact ha p hp
  | [], v :: vs, xs, ys, n, h, hx, hy => by simp [sameAll] at h
  | u :: us, [], xs, ys, n, h, hx, hy => by simp [sameAll] at h
theorem keyStays {u v : V} {x y : Value} (h : sameV u v = true) (hx : VRel μ u x) (hy : VRel μ v y) : (Instr.keyThatStays x y).run P w = .ok y w := by
  have : Instr.sameBits 10000 x y = true := by
    unfold sameV at h
    split at h
    · simp only [VRel] at hx hy
      obtain ⟨a, rfl, h1⟩ := hx
      obtain ⟨b, rfl, h2⟩ := hy
      obtain ⟨hl, ha⟩ := sameAll_bits 9999 h h1 h2
      show Instr.sameBits (9999 + 1) (.agg a) (.agg b) = true
      simp only [Instr.sameBits, Bool.and_eq_true, beq_iff_eq, List.all_eq_true]
      exact ⟨by simpa using hl, fun p hp => ha p hp⟩
    · exact sameOne_bits h hx hy _
  simp [Instr.keyThatStays, this]
theorem MERels.append : ∀ {es fs : List ME} {xs ys : List MapEntry}, MERels μ es xs → MERels μ fs ys → MERels μ (es ++ fs) (xs ++ ys)
  | [], fs, xs, ys, h, k => by simp [MERels] at h; subst h; simpa using k
  | e :: es, fs, xs, ys, h, k => by
    simp only [MERels] at h
    obtain ⟨y, zs, rfl, a, b⟩ := h
    simp only [List.cons_append, MERels]
    exact ⟨y, zs ++ ys, rfl, a, MERels.append b k⟩
theorem MERels.set : ∀ {es : List ME} {xs : List MapEntry} (i : Nat) {e : ME} {x : MapEntry}, MERels μ es xs → MERel μ e x → MERels μ (es.set i e) (xs.set i x)
  | [], xs, i, e, x, h, k => by simp [MERels] at h; subst h; simp [MERels]
  | e :: es, xs, i, e', x, h, k => by
    simp only [MERels] at h
    obtain ⟨y, zs, rfl, a, b⟩ := h
    cases i with
    | zero => simp only [List.set_cons_zero, MERels]; exact ⟨x, zs, rfl, k, b⟩
    | succ i => simp only [List.set_cons_succ, MERels]; exact ⟨y, _, rfl, a, MERels.set i b k⟩
theorem MERels.erase : ∀ {es : List ME} {xs : List MapEntry} (i : Nat), MERels μ es xs → MERels μ (es.eraseIdx i) (xs.eraseIdx i)
  | [], xs, i, h => by simp [MERels] at h; subst h; simp [MERels]
  | e :: es, xs, i, h => by
    simp only [MERels] at h
    obtain ⟨y, zs, rfl, a, b⟩ := h
    cases i with
    | zero => simpa using b
    | succ i => simp only [List.eraseIdx_cons_succ, MERels]; exact ⟨y, _, rfl, a, MERels.erase i b⟩
theorem Rel.putMap (hr : Rel B w0 μ H w) {i : Nat} {L : Loc} {es es' : List ME} {c c' : Nat} {xs xs' : Array MapEntry} (hi : μ i = some L) (hg : H.get i = .map es c) (hb : w.heap[L.b]? = some (.map xs c)) (hB : B ≤ L.b)
    (hm : MERels μ es' xs'.toList) : ∃ w', (setObj L.b (.map xs' c')).run P w = .ok () w' ∧ Step B w0 n0 μ H w μ (H.set i (.map es' c')) w' := by
  have hlt : L.b < w.heap.size := (Array.getElem?_eq_some_iff.1 hb).1
  refine ⟨{ w with heap := w.heap.setIfInBounds L.b (.map xs' c') }, by simp [setObj, Sem.run, hb], ?_⟩
  refine hr.write (w' := { w with heap := w.heap.setIfInBounds L.b (.map xs' c') }) hi (by rw [hg]; rfl) hB rfl rfl rfl (by simp) ?_ ?_
  · intro b hb'
    simp [Array.getElem?_setIfInBounds, Ne.symm hb']
  · refine ⟨xs', ?_, hB, hm⟩
    simp [Array.getElem?_setIfInBounds, hlt]
theorem modify_set {α : Type} {xs : Array α} {j : Nat} {x : α} (f : α → α) (h : xs[j]? = some x) : (xs.modify j f).toList = xs.toList.set j (f x) := by
  apply List.ext_getElem?
  intro i
  simp only [Array.toList_modify, List.getElem?_modify, List.getElem?_set, Array.getElem?_toList]
  by_cases hij : j = i
  · subst hij
    obtain ⟨h1, h2⟩ := Array.getElem?_eq_some_iff.1 h
    simp [h1, h2]
  · simp [hij]
theorem upd_sound (hr : Rel B w0 μ H w) {t : TypeId} {v k x : V} {a b c : Value} (h : updA P t v k x H = some H') (ha : VRel μ v a) (hb : VRel μ k b) (hc : VRel μ x c) :
    ∃ w', (Instr.mapUpdate t a b c).run P w = .ok () w' ∧ Step B w0 n0 μ H w μ H' w' := by
  unfold updA at h
  split at h
  · rename_i kt et hu
    unfold updM at h
    cases hm : mapOf v H with
    | none => simp [hm] at h
    | some m =>
      obtain ⟨L, xs, e1, rfl, hg, hbl, hB, hms⟩ := mapOf_sound hr hm ha
      simp only [hm, Option.bind_some] at h
      cases hf : findM P kt k m.2.1 with
      | none => simp [hf] at h
      | some r =>
        simp only [hf, Option.bind_some] at h
        obtain ⟨hck, q, hfk, hq⟩ := findKey_run (w := w) hf hb hms
        cases r with
        | none =>
          simp only [FRel] at hq; subst hq
          simp at h; subst h
          obtain ⟨w', hrun, hst⟩ := hr.putMap (P := P) (n0 := n0) (c' := m.2.2 + 1) (xs' := xs.push { key := b, val := c, born := m.2.2 }) (es' := m.2.1 ++ [⟨k, x, m.2.2⟩]) e1 hg hbl hB
            (by rw [Array.toList_push]; exact hms.append ⟨_, _, rfl, ⟨hb, hc, rfl⟩, rfl⟩)
          refine ⟨w', ?_, hst⟩
          simp [Instr.mapUpdate, run_und hu, getObj_map hbl, hck, hfk, hrun]
        | some p =>
          obtain ⟨j, e⟩ := p
          simp only [FRel] at hq
          obtain ⟨y, rfl, hy⟩ := hq
          simp only at h
          split at h
          · rename_i hsame
            simp at h; subst h
            have hje := findM_get hf
            obtain ⟨mx, hmx, hm1, hm2, hm3⟩ := hms.get j e hje
            have hmx' : xs[j]? = some mx := by simpa using hmx
            have hks := keyStays (P := P) (w := w) hsame hm1 hb
            obtain ⟨w', hrun, hst⟩ := hr.putMap (P := P) (n0 := n0) (c' := m.2.2) (xs' := xs.modify j fun e => { e with key := b, val := c }) (es' := m.2.1.set j { e with key := k, val := x }) e1 hg hbl hB
              (by rw [modify_set _ hmx']; exact hms.set j ⟨hb, hc, hm3⟩)
            refine ⟨w', ?_, hst⟩
            simp [Instr.mapUpdate, run_und hu, getObj_map hbl, hck, hfk, hmx', hks, hrun]
          · simp at h
  · simp at h
theorem ent_sound (hr : Rel B w0 μ H w) {t : TypeId} {v k r : V} {a b : Value} (h : entA P t v k H = some (r, H')) (ha : VRel μ v a) (hb : VRel μ k b) :
    ∃ y w', (Instr.mapEntry t a b).run P w = .ok y w' ∧ Step B w0 n0 μ H w μ H' w' ∧ VRel μ r y := by
  unfold entA at h
  split at h
  · rename_i kt et hu
    split at h
    · rename_i z hz
      obtain ⟨z', hz1, hz2⟩ := run_zero (w := w) μ hz
      unfold entM at h
      cases hm : mapOf v H with
      | none => simp [hm] at h
      | some m =>
        obtain ⟨L, xs, e1, rfl, hg, hbl, hB, hms⟩ := mapOf_sound hr hm ha
        simp only [hm, Option.bind_some] at h
        cases hf : findM P kt k m.2.1 with
        | none => simp [hf] at h
        | some q' =>
          simp only [hf, Option.bind_some] at h
          obtain ⟨hck, q, hfk, hq⟩ := findKey_run (w := w) hf hb hms
          cases q' with
          | none =>
            simp only [FRel] at hq; subst hq
            simp at h
            obtain ⟨rfl, rfl⟩ := h
            obtain ⟨w', hrun, hst⟩ := hr.putMap (P := P) (n0 := n0) (c' := m.2.2 + 1) (xs' := xs.push { key := b, val := z', born := m.2.2 }) (es' := m.2.1 ++ [⟨k, z, m.2.2⟩]) e1 hg hbl hB
              (by rw [Array.toList_push]; exact hms.append ⟨_, _, rfl, ⟨hb, hz2, rfl⟩, rfl⟩)
            refine ⟨.tuple #[z', goInt m.2.2], w', ?_, hst, ?_⟩
            · simp [Instr.mapEntry, run_und hu, getObj_map hbl, hck, hfk, hz1, hrun]
            · simp only [VRel, VRels]; exact ⟨_, rfl, z', _, rfl, hz2, _, _, rfl, rfl, rfl⟩
          | some p =>
            obtain ⟨j, e⟩ := p
            simp only [FRel] at hq
            obtain ⟨y, rfl, hy⟩ := hq
            simp only at h
            split at h
            · rename_i hsame
              simp at h
              obtain ⟨rfl, rfl⟩ := h
              have hje := findM_get hf
              obtain ⟨mx, hmx, hm1, hm2, hm3⟩ := hms.get j e hje
              have hmx' : xs[j]? = some mx := by simpa using hmx
              have hks := keyStays (P := P) (w := w) hsame hm1 hb
              obtain ⟨w', hrun, hst⟩ := hr.putMap (P := P) (n0 := n0) (c' := m.2.2) (xs' := xs.modify j fun e => { e with key := b }) (es' := m.2.1.set j { e with key := k }) e1 hg hbl hB
                (by rw [modify_set _ hmx']; exact hms.set j ⟨hb, hm2, hm3⟩)
              refine ⟨.tuple #[y, goInt e.born], w', ?_, hst, ?_⟩
              · simp [Instr.mapEntry, run_und hu, getObj_map hbl, hck, hfk, hmx', hks, hrun, hm3]
              · simp only [VRel, VRels]; exact ⟨_, rfl, y, _, rfl, hy, _, _, rfl, rfl, rfl⟩
            · simp at h
    · simp at h
  · simp at h
theorem setBorn_sound {b : Int} {x : V} {y : Value} (hy : VRel μ x y) : ∀ {es es' : List ME} {xs : List MapEntry}, setBorn b x es = some es' → MERels μ es xs →
    ∃ j, xs.findIdx? (fun e => (e.born : Int) == b) = some j ∧ MERels μ es' (xs.modify j fun e => { e with val := y })
  | [], es', xs, h, hm => by simp [setBorn] at h
  | e :: es, es', xs, h, hm => by
    simp only [MERels] at hm
    obtain ⟨z, zs, rfl, ⟨m1, m2, m3⟩, q⟩ := hm
    simp only [setBorn] at h
    split at h
    · rename_i hb
      simp at h; subst h
      refine ⟨0, ?_, ?_⟩
      · rw [List.findIdx?_cons, m3]; simp [hb]
      · simp only [List.modify_zero_cons, MERels]; exact ⟨_, _, rfl, ⟨m1, hy, m3⟩, q⟩
    · rename_i hb
      cases hs : setBorn b x es with
      | none => simp [hs] at h
      | some r =>
        simp [hs] at h; subst h
        obtain ⟨j, h1, h2⟩ := setBorn_sound hy hs q
        refine ⟨j + 1, ?_, ?_⟩
        · rw [List.findIdx?_cons, m3]; simp [hb, h1]
        · simp only [List.modify_succ_cons, MERels]; exact ⟨_, _, rfl, ⟨m1, m2, m3⟩, h2⟩
theorem entSt_sound (hr : Rel B w0 μ H w) {t : TypeId} {v s x : V} {a b c : Value} (h : entStA v s x H = some H') (ha : VRel μ v a) (hb : VRel μ s b) (hc : VRel μ x c) :
    ∃ w', (Instr.entryStore t a b c).run P w = .ok () w' ∧ Step B w0 n0 μ H w μ H' w' := by
  unfold entStA at h
  cases hm : mapOf v H with
  | none => simp [hm] at h
  | some m =>
    obtain ⟨L, xs, e1, rfl, hg, hbl, hB, hms⟩ := mapOf_sound hr hm ha
    simp only [hm, Option.bind_some] at h
    cases s with
    | int k n =>
      have hb' := int_inv hb
      subst hb'
      simp only [asI, Option.bind_some] at h
      cases hs : setBorn n x m.2.1 with
      | none => simp [hs] at h
      | some es' =>
        simp [hs] at h; subst h
        obtain ⟨j, h1, h2⟩ := setBorn_sound hc hs hms
        obtain ⟨w', hrun, hst⟩ := hr.putMap (P := P) (n0 := n0) (c' := m.2.2) (xs' := xs.modify j fun e => { e with val := c }) (es' := es') e1 hg hbl hB (by rw [Array.toList_modify]; exact h2)
        refine ⟨w', ?_, hst⟩
        have h1' : xs.findIdx? (fun e => (e.born : Int) == n) = some j := by
          rw [← List.findIdx?_toArray] at h1; simpa using h1
        simp [Instr.entryStore, getObj_map hbl, asInt, asIntOf, h1', hrun]
    | _ => simp [asI] at h
theorem del_sound (hr : Rel B w0 μ H w) {t ty : TypeId} {ts : Array TypeId} (hts : ts[0]? = some t) {v k : V} {a b : Value} (h : delA P t v k H = some H') (ha : VRel μ v a) (hb : VRel μ k b) :
    ∃ w', (Builtin.delete_ ts ty #[a, b]).run P w = .ok (.tuple #[]) w' ∧ Step B w0 n0 μ H w μ H' w' := by
  unfold delA at h
  split at h
  · rename_i kt et hu
    unfold delM at h
    split at h
    · split at h
      · rename_i hk
        simp at h; subst h
        simp only [VRel] at ha; subst ha
        have hck := checkKey_run (P := P) (μ := μ) (w := w) (e := true) 8 10000 (by omega) kt k b hk hb
        exact ⟨w, by simp [Builtin.delete_, hts, run_und hu, hck], Step.refl hr⟩
      · simp at h
    · cases hm : mapOf v H with
      | none => simp [hm] at h
      | some m =>
        obtain ⟨L, xs, e1, rfl, hg, hbl, hB, hms⟩ := mapOf_sound hr hm ha
        simp only [hm, Option.bind_some] at h
        cases hf : findM P kt k m.2.1 with
        | none => simp [hf] at h
        | some r =>
          simp only [hf, Option.bind_some] at h
          obtain ⟨hck, q, hfk, hq⟩ := findKey_run (w := w) hf hb hms
          cases r with
          | none =>
            simp only [FRel] at hq; subst hq
            simp at h; subst h
            refine ⟨w, ?_, Step.refl hr⟩
            have hso : (setObj L.b (.map xs m.2.2)).run P w = .ok () w := by
              have : w.heap.setIfInBounds L.b (.map xs m.2.2) = w.heap := by
                apply Array.ext_getElem?
                intro i
                rw [Array.getElem?_setIfInBounds]
                split
                · rename_i hij; subst hij
                  split
                  · exact hbl.symm
                  · rename_i hlt; rw [Array.getElem?_eq_none (by omega)]
                · rfl
              simp [setObj, Sem.run, hbl, this]
            simp [Builtin.delete_, hts, run_und hu, getObj_map hbl, hck, hfk, hso]
          | some p =>
            obtain ⟨j, e⟩ := p
            simp only [FRel] at hq
            obtain ⟨y, rfl, hy⟩ := hq
            simp at h; subst h
            have hje := findM_get hf
            have hjl : j < xs.size := by
              have := (List.getElem?_eq_some_iff.1 hje).1
              have := hms.length
              simp at this; omega
            obtain ⟨w', hrun, hst⟩ := hr.putMap (P := P) (n0 := n0) (c' := m.2.2) (xs' := xs.eraseIdxIfInBounds j) (es' := m.2.1.eraseIdx j) e1 hg hbl hB
              (by simp [Array.eraseIdxIfInBounds, hjl]; exact hms.erase j)
            exact ⟨w', by simp [Builtin.delete_, hts, run_und hu, getObj_map hbl, hck, hfk, hrun], hst⟩
  · simp at h
theorem bytesOf_at : ∀ {cs : List V} {l : List UInt8}, bytesOf cs = some l → cs.all byteV = true → l.length = cs.length ∧ ∀ (j : Nat) (b : UInt8), l[j]? = some b → cs[j]? = some (.int .u8 (b.toNat : Int))
  | [], l, h, _ => by simp [bytesOf] at h; subst h; exact ⟨rfl, fun j b hj => by simp at hj⟩
  | c :: cs, l, h, ha => by
    simp only [List.all_cons, Bool.and_eq_true] at ha
    unfold bytesOf at h
    split at h
    · simp_all
    · rename_i n vs e
      simp at e
      obtain ⟨rfl, rfl⟩ := e
      split at h
      · rename_i l' hl
        simp at h; subst h
        obtain ⟨q1, q2⟩ := bytesOf_at hl ha.2
        refine ⟨by simp [q1], fun j b hj => ?_⟩
        rcases j with _ | j
        · simp at hj; subst hj
          have h1 := ha.1
          simp only [byteV, Bool.and_eq_true, decide_eq_true_eq] at h1
          simp only [List.getElem?_cons_zero, Option.some.injEq, V.int.injEq, true_and]
          simp
          omega
        · simp at hj ⊢; exact q2 j b hj
      · cases h
    · cases h
theorem unStr_sound (hr : Rel B w0 μ H w) {t it ty : TypeId} {v n r : V} {x y : Value} (h : unStrA P t v n H = some (r, H')) (hx : VRel μ v x) (hy : VRel μ n y) :
    ∃ z w', (Builtin.unsafeString_ #[t, it] ty #[x, y]).run P w = .ok z w' ∧ Step B w0 n0 μ H w μ H' w' ∧ VRel μ r z := by
  unfold unStrA at h
  split at h
  · rename_i a
    simp at h
    obtain ⟨rfl, rfl⟩ := h
    simp only [VRel] at hy; subst hy
    cases a with
    | none =>
      simp only [VRel] at hx; subst hx
      exact ⟨_, w, Lib.run_unsafeString_none w t it ty none, Step.refl hr, rfl⟩
    | some p =>
      obtain ⟨i, o⟩ := p
      simp only [VRel] at hx
      obtain ⟨L, -, rfl⟩ := hx
      exact ⟨_, w, Lib.run_unsafeString_none w t it ty (some _), Step.refl hr, rfl⟩
  · cases hu : unStr v n H with
    | none => rw [hu] at h; simp at h
    | some q =>
      obtain ⟨r', H1, e⟩ := q
      rw [hu] at h
      simp only at h
      split at h
      · rename_i e' hp
        split at h
        · rename_i hc
          obtain ⟨rfl, hc1⟩ := hc
          simp at h
          obtain ⟨rfl, rfl⟩ := h
          unfold unStr at hu
          split at hu
          · rename_i i k hne
            split at hu
            · rename_i cs e hg
              split at hu
              · rename_i hk
                obtain ⟨k1, k2, k3, k4⟩ := hk
                cases hb : bytesOf (cs.take k.toNat) with
                | none => rw [hb] at hu; simp at hu
                | some l =>
                  rw [hb] at hu
                  simp at hu
                  obtain ⟨rfl, rfl, rfl⟩ := hu
                  simp only [VRel] at hx hy
                  obtain ⟨L, e1, rfl⟩ := hx
                  subst hy
                  have ho := hr.objs i L e1
                  have hfl := hr.flat i L e1 (by rw [hg]; rfl)
                  rw [hg] at ho
                  obtain ⟨c, e2, fr, hbk, hsz, hle, hcell, hown⟩ := ho
                  obtain ⟨hB, rfl, rfl⟩ := hown rfl
                  have hlt : L.b < w.heap.size := (Array.getElem?_eq_some_iff.1 hbk).1
                  obtain ⟨q1, q2⟩ := bytesOf_at hb k4
                  have hll : l.length = k.toNat := by rw [q1, List.length_take]; omega
                  have hrun := Lib.run_unsafeString_row (P := P) w t it ty _ hp hc1 L.b c.size (by simp only [World.shape?, hbk]) l (by intro h0; rw [h0] at hll; simp at hll; omega) (by omega) (by omega) (fun j x hj => by
                    have hcj := q2 j x hj
                    have hjl : j < l.length := by
                      rcases Nat.lt_or_ge j l.length with h | h
                      · exact h
                      · rw [List.getElem?_eq_none h] at hj; cases hj
                    rw [List.getElem?_take, if_pos (by omega)] at hcj
                    obtain ⟨-, y, hy1, hy2⟩ := hcell j _ hcj
                    simp only [VRel] at hy2; subst hy2
                    rw [hfl, Nat.zero_add] at hy1
                    rw [addr_add, Nat.zero_add]
                    simp [World.cell?, hbk, hy1])
                  have hlk : ((l.length : Nat) : Int) = k := by omega
                  rw [hlk] at hrun
                  have hA : (⟨L.b, L.base + 0, none⟩ : Addr) = ⟨L.b, 0, none⟩ := by rw [hfl]
                  rw [hA]
                  refine ⟨_, _, hrun, ?_, rfl⟩
                  have hz : l.length ≠ 0 := by omega
                  refine hr.write e1 (by rw [hg]; rfl) hB ?_ ?_ ?_ ?_ ?_ ?_
                  · simp only [World.freeze, if_neg hz]
                  · simp only [World.freeze, if_neg hz]
                  · simp only [World.freeze, if_neg hz]
                  · simp only [World.freeze, if_neg hz, Array.size_modify]
                  · intro b hb2
                    simp only [World.freeze, if_neg hz]
                    rw [Array.getElem?_modify, if_neg (Ne.symm hb2)]
                  · refine ⟨c, e2, (0, 0 + l.length), ?_, hsz, hle, hcell, fun h => by cases h⟩
                    simp only [World.freeze, if_neg hz]
                    rw [Array.getElem?_modify, if_pos rfl, hbk]
                    rfl
              · simp at hu
            · simp at hu
          · simp at hu
        · simp at h
      · simp at h
theorem clear_sound (hr : Rel B w0 μ H w) {t ty : TypeId} {ts : Array TypeId} (hts : ts[0]? = some t) {v : V} {a : Value} (h : clearA P t v H = some H') (ha : VRel μ v a) :
    ∃ w', (Builtin.clear_ ts ty #[a]).run P w = .ok (.tuple #[]) w' ∧ Step B w0 n0 μ H w μ H' w' := by
  unfold clearA at h
  split at h
  · rename_i kt et hu
    unfold clrM at h
    split at h
    · simp at h; subst h
      simp only [VRel] at ha; subst ha
      exact ⟨w, by simp [Builtin.clear_, hts, run_und hu], Step.refl hr⟩
    · cases hm : mapOf v H with
      | none => simp [hm] at h
      | some m =>
        obtain ⟨L, xs, e1, rfl, hg, hbl, hB, hms⟩ := mapOf_sound hr hm ha
        simp [hm] at h; subst h
        obtain ⟨w', hrun, hst⟩ := hr.putMap (P := P) (n0 := n0) (c' := m.2.2) (xs' := #[]) (es' := []) e1 hg hbl hB (by simp [MERels])
        exact ⟨w', by simp [Builtin.clear_, hts, run_und hu, getObj_map hbl, hrun], hst⟩
  · rename_i e0 hu
    split at h
    · rename_i e n by_ z he
      obtain ⟨hu', hs, hn, hzl, inf, zv, hi, hi1, hi2, hi3, hi4⟩ := elemT_spec he
      unfold clrS at h
      split at h
      · rename_i d
        simp only [VRel] at ha
        split at h
        · rename_i hl
          simp at h; subst h
          split at ha
          · obtain ⟨-, rfl⟩ := ha
            exact ⟨w, by simp [Builtin.clear_, hts, run_und hu], Step.refl hr⟩
          · obtain ⟨L, ad, cap, e1, rfl, e3, e4, e5⟩ := ha
            rw [hl]
            exact ⟨w, by simp [Builtin.clear_, hts, run_und hu], Step.refl hr⟩
        · rename_i hl
          split at h
          · rename_i i o hsd
            split at h
            · rename_i cs e' hg
              split at h
              · rename_i hc
                obtain ⟨c1, c2, c3⟩ := hc
                simp at h; subst h
                simp only [hsd] at ha
                obtain ⟨L, ad, cap, e1, rfl, e3, e4, e5⟩ := ha
                obtain ⟨rfl, hfit⟩ := e5.resolve_left (by omega)
                have hzr : VRels μ z zv.cells.toList := zero_cells hi4 c2
                have hrow := rowA_rel hzr d.len
                generalize hes : (Array.range (d.len * z.length)).map (fun i => zv.cells[i % zv.cells.size]!) = es at hrow
                obtain ⟨w', hrun, hst⟩ := hr.putCells (P := P) (n0 := n0) (o := o) e1 hg hrow (rowA_one c2 d.len) (by rw [rowA_length, hzl]; omega)
                refine ⟨w', ?_, hst⟩
                have hue : e0 = e := by rw [hu'] at hu; simp at hu; exact hu.symm
                subst hue
                have hzz : zv.cells.size = z.length := by have := hzr.length; simpa using this
                have hzc : Builtin.zeroCells zv.cells d.len = es := by rw [← hes, Builtin.zeroCells, hzz]
                clear hes
                have hzv : (zeroValue e0).run P w = .ok zv w := by unfold zeroValue typeInfo; simp [hi, hi3]
                obtain ⟨m, hm⟩ : ∃ m, d.len = m + 1 := ⟨d.len - 1, by omega⟩
                rw [hm] at hzc ⊢
                simp [Builtin.clear_, hts, run_und hu, hzv, hzc, hrun]
              · simp at h
            · simp at h
          · simp at h
      · simp at h; subst h
        simp only [VRel] at ha
        rcases ha with ⟨-, -, rfl | ⟨a1, cap, -, rfl⟩⟩ | ⟨b, fz, o, cap, hm, rfl, -⟩
        · exact ⟨w, by simp [Builtin.clear_, hts, run_und hu], Step.refl hr⟩
        · exact ⟨w, by simp [Builtin.clear_, hts, run_und hu], Step.refl hr⟩
        · exact ⟨w, by simp [Builtin.clear_, hts, run_und hu], Step.refl hr⟩
      · simp at h
    · simp at h
  · simp at h
theorem range_sound (hr : Rel B w0 μ H w) {r : Option Nat} (hf : FreeId μ H n0 r) {t : TypeId} {v : V} {a : Value} {o : O} (h : rangeA P t v H = some o) (ha : VRel μ v a) :
    ∃ y μ' w', (Instr.range t a).run P w = .ok y w' ∧ Step B w0 n0 μ H w μ' (newA r o H).2 w' ∧ VRel μ' (.ptr (some ((newA r o H).1, 0))) y := by
  unfold rangeA at h
  split at h
  · rename_i hu
    cases v with
    | str s =>
      simp [rgStr] at h; subst h
      simp only [VRel] at ha; subst ha
      have := hr.alloc hf (o := .siter s 0) (obj := .stringIter ⟨s.toArray⟩ 0) (sz := 1) (w' := { w with heap := w.heap.push (.stringIter ⟨s.toArray⟩ 0) }) rfl rfl rfl rfl ⟨by simp, hr.size, rfl⟩
      refine ⟨.pointer (some ⟨w.heap.size, 0, none⟩), _, _, ?_, this, ?_⟩
      · simp [Instr.range, run_und hu]
      · simp only [VRel]; exact ⟨_, Mu.put_same, rfl⟩
    | _ => simp [rgStr] at h
  · rename_i kt et hu
    unfold rgMap at h
    split at h
    · simp at h; subst h
      simp only [VRel] at ha; subst ha
      have := hr.alloc hf (o := .miter none 0 [] 0) (obj := .mapIter none 0 #[] 0) (sz := 1) (w' := { w with heap := w.heap.push (.mapIter none 0 #[] 0) }) rfl rfl rfl rfl ⟨none, by simp, hr.size, rfl, rfl⟩
      refine ⟨.pointer (some ⟨w.heap.size, 0, none⟩), _, _, ?_, this, ?_⟩
      · simp [Instr.range, run_und hu]
      · simp only [VRel]; exact ⟨_, Mu.put_same, rfl⟩
    · cases hm : mapOf v H with
      | none => rw [hm] at h; simp at h
      | some m =>
        obtain ⟨L, xs, e1, rfl, hg, hbl, hB, hms⟩ := mapOf_sound hr hm ha
        rw [hm] at h
        simp at h; subst h
        have hfree : μ (newA r (.miter (some m.1) m.2.2 [] m.2.2) H).1 = none := by
          cases r with
          | none => exact hr.fresh (Nat.le_refl _)
          | some k => exact hf.2.1
        have hle := Mu.le_put (L := ⟨w.heap.size, 0, 1⟩) hfree
        have hgo : (getObj L.b).run P w = .ok (.map xs m.2.2) w := by simp only [getObj, Sem.run, hbl]
        have := hr.alloc hf (o := .miter (some m.1) m.2.2 [] m.2.2) (obj := .mapIter (some L.b) m.2.2 #[] m.2.2) (sz := 1) (w' := { w with heap := w.heap.push (.mapIter (some L.b) m.2.2 #[] m.2.2) }) rfl rfl rfl rfl ⟨some L.b, by simp, hr.size, rfl, L, hle.f _ _ e1, rfl⟩
        refine ⟨.pointer (some ⟨w.heap.size, 0, none⟩), _, _, ?_, this, ?_⟩
        · simp [Instr.range, run_und hu, hgo]
        · simp only [VRel]; exact ⟨_, Mu.put_same, rfl⟩
  · simp at h
theorem MERels.filter {μ : Mu} {p : Nat → Bool} : ∀ {es : List ME} {xs : List MapEntry}, MERels μ es xs → MERels μ (es.filter fun e => p e.born) (xs.filter fun x => p x.born)
  | [], xs, h => by simp only [MERels] at h; subst h; rfl
  | e :: es, xs, h => by
    simp only [MERels] at h
    obtain ⟨y, ys, rfl, a, b⟩ := h
    have ih := MERels.filter (p := p) b
    have hb := a.2.2
    simp only [List.filter_cons, hb]
    split
    · simp only [MERels]; exact ⟨y, _, rfl, a, ih⟩
    · exact ih
theorem MERels.allB {μ : Mu} {p : Nat → Bool} : ∀ {es : List ME} {xs : List MapEntry}, MERels μ es xs → (xs.all fun x => p x.born) = es.all fun e => p e.born
  | [], xs, h => by simp only [MERels] at h; subst h; rfl
  | e :: es, xs, h => by
    simp only [MERels] at h
    obtain ⟨y, ys, rfl, a, b⟩ := h
    simp only [List.all_cons, MERels.allB (p := p) b, a.2.2]
theorem MERels.emptyB {μ : Mu} : ∀ {es : List ME} {xs : List MapEntry}, MERels μ es xs → xs.isEmpty = es.isEmpty
  | [], xs, h => by simp only [MERels] at h; subst h; rfl
  | e :: es, xs, h => by
    simp only [MERels] at h
    obtain ⟨y, ys, rfl, a, b⟩ := h
    rfl
theorem next_sound (hr : Rel B w0 μ H w) {ty : TypeId} {s : Bool} {v r : V} {a : Value} (h : nextA v s H = some (r, H')) (ha : VRel μ v a) :
    ∃ y w', (Instr.next a s ty).run P w = .ok y w' ∧ Step B w0 n0 μ H w μ H' w' ∧ VRel μ r y := by
  unfold nextA at h
  split at h
  · rename_i i
    simp only [VRel] at ha
    obtain ⟨L, e1, rfl⟩ := ha
    split at h
    · rename_i st pos hg
      have ho := hr.objs i L e1
      rw [hg] at ho
      obtain ⟨hb, hB, hb0⟩ := ho
      have hgo : (getObj L.b).run P w = .ok (.stringIter ⟨st.toArray⟩ pos) w := by simp only [getObj, Sem.run, hb]
      have hlt : L.b < w.heap.size := (Array.getElem?_eq_some_iff.1 hb).1
      have hsz : (⟨st.toArray⟩ : ByteArray).size = st.length := by simp [ByteArray.size]
      split at h
      · rename_i hpos
        simp at h
        obtain ⟨rfl, rfl⟩ := h
        generalize hd : Utf8.decode ⟨st.toArray⟩ pos = cw
        obtain ⟨c, width⟩ := cw
        refine ⟨.tuple #[.bool true, goInt pos, .int .i32 c], { w with heap := w.heap.setIfInBounds L.b (.stringIter ⟨st.toArray⟩ (pos + width)) }, ?_, ?_, ?_⟩
        · simp [Instr.next, hgo, hsz, hpos, hd, setObj, Sem.run, hb, hb0]
        · refine hr.write (w' := { w with heap := w.heap.setIfInBounds L.b (.stringIter ⟨st.toArray⟩ (pos + width)) }) e1 (by rw [hg]; rfl) hB rfl rfl rfl (by simp) ?_ ⟨by simp [hlt], hB, hb0⟩
          intro b hb'
          simp [Ne.symm hb']
        · simp only [VRel, VRels]; exact ⟨_, rfl, _, _, rfl, rfl, _, _, rfl, rfl, _, _, rfl, rfl, rfl⟩
      · rename_i hpos
        simp at h
        obtain ⟨rfl, rfl⟩ := h
        refine ⟨.tuple #[.bool false], w, ?_, Step.refl hr, ?_⟩
        · simp [Instr.next, hgo, hsz, hpos, hb0]
        · simp only [VRel, VRels]; exact ⟨_, rfl, _, _, rfl, rfl, rfl⟩
    · simp at h
  · rename_i i
    simp only [VRel] at ha
    obtain ⟨L, e1, rfl⟩ := ha
    split at h
    · rename_i a1 a2 a3 hg
      have ho := hr.objs i L e1
      rw [hg] at ho
      obtain ⟨mb, hb, hB, hb0, rfl⟩ := ho
      have hgo : (getObj L.b).run P w = .ok (.mapIter none a1 a2.toArray a3) w := by simp only [getObj, Sem.run, hb]
      simp at h
      obtain ⟨rfl, rfl⟩ := h
      refine ⟨.tuple #[.bool false], w, ?_, Step.refl hr, ?_⟩
      · simp [Instr.next, hgo, hb0]
      · simp only [VRel, VRels]; exact ⟨_, rfl, _, _, rfl, rfl, rfl⟩
    · rename_i m since seen last hg
      have ho := hr.objs i L e1
      rw [hg] at ho
      obtain ⟨mb, hb, hB, hb0, M, hM, rfl⟩ := ho
      have hlt : L.b < w.heap.size := (Array.getElem?_eq_some_iff.1 hb).1
      have hgo : (getObj L.b).run P w = .ok (.mapIter (some M.b) since seen.toArray last) w := by simp only [getObj, Sem.run, hb]
      split at h
      · rename_i es clock hgm
        have hom := hr.objs m M hM
        rw [hgm] at hom
        obtain ⟨xs, hbm, _, hms⟩ := hom
        have hgm' : (getObj M.b).run P w = .ok (.map xs clock) w := by simp only [getObj, Sem.run, hbm]
        split at h
        · cases h
        · rename_i hcond
          have hE : xs.isEmpty = es.isEmpty := by rw [← hms.emptyB]; simp
          have hA : (xs.all fun x => decide (last ≤ x.born)) = es.all fun e => decide (last ≤ e.born) := by rw [← MERels.allB (p := fun b => decide (last ≤ b)) hms]; simp
          have hF := MERels.filter (p := fun b => !seen.contains b) hms
          have hleft : (xs.filter fun e => !seen.toArray.contains e.born).toList = xs.toList.filter fun x => !seen.contains x.born := by simp
          have hcond' : (!seen.toArray.isEmpty && !xs.isEmpty && xs.all fun x => decide (x.born ≥ last)) = false := by
            have : (fun x : MapEntry => decide (x.born ≥ last)) = fun x => decide (last ≤ x.born) := rfl
            rw [this, hE, hA]
            simpa using hcond
          split at h
          · rename_i hl
            simp at h
            obtain ⟨rfl, rfl⟩ := h
            have hl' : (xs.filter fun e => !seen.toArray.contains e.born) = #[] := by
              apply Array.ext'
              rw [hleft]
              unfold leftM at hl
              rw [hl] at hF
              simpa [MERels] using hF
            refine ⟨.tuple #[.bool false], w, ?_, Step.refl hr, ?_⟩
            · simp only [Instr.next, hb0, Nat.zero_add, Sem.run_bind, hgo, hgm', Result.andThen_ok]
              rw [if_neg (by rw [hcond']; simp)]
              simp only [hl']
              simp [choose, Sem.run, Question.forced]
            · simp only [VRel, VRels]; exact ⟨_, rfl, _, _, rfl, rfl, rfl⟩
          · rename_i e hl
            split at h
            · rename_i hbs
              simp at h
              obtain ⟨rfl, rfl⟩ := h
              unfold leftM at hl
              rw [hl] at hF
              simp only [MERels] at hF
              obtain ⟨y, ys, hy, hey, rfl⟩ := hF
              have hl' : (xs.filter fun e => !seen.toArray.contains e.born) = #[y] := by
                apply Array.ext'
                rw [hleft, hy]
              refine ⟨.tuple #[.bool true, y.key, y.val], { w with heap := w.heap.setIfInBounds L.b (.mapIter (some M.b) since (seen.toArray.push y.born) clock) }, ?_, ?_, ?_⟩
              · have hbs' : y.born < since := by rw [hey.2.2]; exact hbs
                simp only [Instr.next, hb0, Nat.zero_add, Sem.run_bind, hgo, hgm', Result.andThen_ok]
                rw [if_neg (by rw [hcond']; simp)]
                simp only [hl']
                simp [choose, Sem.run, Question.forced, hbs', hb, setObj]
              · refine hr.write (w' := { w with heap := w.heap.setIfInBounds L.b (.mapIter (some M.b) since (seen.toArray.push y.born) clock) }) e1 (by rw [hg]; rfl) hB rfl rfl rfl (by simp) ?_ ⟨some M.b, by simp [hlt, hey.2.2], hB, hb0, M, hM, rfl⟩
                intro b hb'
                simp [Ne.symm hb']
              · simp only [VRel, VRels]; exact ⟨_, rfl, _, _, rfl, rfl, _, _, rfl, hey.1, _, _, rfl, hey.2.1, rfl⟩
            · cases h
          · cases h
      · cases h
    · cases h
  · simp at h
end
end Go.AM
end
section
set_option linter.unusedVariables false
set_option linter.unusedSimpArgs false
namespace Go.AM
open Go.RowKit (Below)
def Gives (P : Program) (post : Value → World → Prop) : Result Next → Prop
  | .ok (.value x) w' => post x w'
  | .ok .skip w' => post undef w'
  | .ok (.enter f args) w' => Calls P f args w' fun e w'' => ∃ x, e = .returned x ∧ post x w''
  | .ok (.round l f tmps assign body) w' => RoundIn Fence.wide 0 P l f tmps assign body w' fun e w'' => ∃ x, e = .returned x ∧ post x w''
  | _ => False
def FR (ro : Option Nat) : Fence := { Fence.wide with round := ro }
theorem Gives.mono {P : Program} {post post' : Value → World → Prop} (h : ∀ x w, post x w → post' x w) : ∀ {r : Result Next}, Gives P post r → Gives P post' r := by
  intro r hr
  unfold Gives at *
  split at hr
  · exact h _ _ hr
  · exact h _ _ hr
  · exact Calls.mono hr fun e w' ⟨x, a, b⟩ => ⟨x, a, h _ _ b⟩
  · exact RoundIn.mono hr fun e w' ⟨x, a, b⟩ => ⟨x, a, h _ _ b⟩
  · exact hr.elim
theorem Gives.upon {ro : Option Nat} {P : Program} {o : Oper} {a : Act} {next : Act → World → Prop} {Q : Exit → Act → World → Prop} {post : Value → World → Prop} {r : Result Next} (hr : Gives P post r)
    (h : ∀ x w', post x w' → next (a.put o.dst x) w') : o.uponIn (FR ro) 0 P a next Q r := by
  unfold Gives at hr
  split at hr
  · exact h _ _ hr
  · exact h _ _ hr
  · refine ⟨fun h => (by simp [FR, Fence.wide] at h), (callsIn_wide (n := 0)).2 (Calls.mono hr ?_)⟩
    rintro e w' ⟨x, rfl, hx⟩
    exact h _ _ hx
  · refine ⟨fun h => (by simp [FR, Fence.wide] at h), RoundIn.mono (F := Fence.wide) hr ?_⟩
    rintro e w' ⟨x, rfl, hx⟩
    exact h _ _ hx
  · exact hr.elim
def CallSound (P : Program) (call : FuncId → List V → Heap → Option R) : Prop :=
  ∀ f args H v H', call f args H = some (v, H') → ∀ (B n0 : Nat) (w0 w : World) (μ : Mu) (xs : Array Value), Rel B w0 μ H w → n0 ≤ H.n → VRels μ args xs.toList →
    (f < yB → Gives P (fun x w' => ∃ μ', Step B w0 n0 μ H w μ' H' w' ∧ VRel μ' v x) ((callFunc f xs).run P w)) ∧
    (∀ j L, f = yB + j → μ j = some L → Gives P (fun x w' => ∃ μ', Step B w0 n0 μ H w μ' H' w' ∧ VRel μ' v x) ((Instr.yield L.b xs).run P w))
section
variable {P : Program} {B n0 : Nat} {w0 w w' w'' : World} {μ μ' μ'' ν : Mu} {H H' H'' : Heap}
theorem run_next {s : Sem Value} {y : Value} (h : s.run P w = .ok y w') : (do pure (Next.value (← s)) : Sem Next).run P w = .ok (.value y) w' := by simp [h]
theorem run_unit {s : Sem Unit} (h : s.run P w = .ok () w') : (do s; pure Next.skip : Sem Next).run P w = .ok .skip w' := by simp [h]
theorem VRel.unit : VRel μ (.tuple []) undef := by simp only [VRel]; exact ⟨#[], rfl, rfl⟩
theorem args2 {args : Array Operand} {env : Env} {x y : V} (h : args.toList.map (opd env) = [x, y]) : ∃ a b, args = #[a, b] ∧ opd env a = x ∧ opd env b = y := by
  match hl : args.toList, h with
  | [a, b], h =>
    simp at h
    exact ⟨a, b, by apply Array.ext'; simpa using hl, h.1, h.2⟩
  | [], h => simp at h
  | [a], h => simp at h
  | a :: b :: c :: l, h => simp at h
theorem args1 {args : Array Operand} {env : Env} {x : V} (h : args.toList.map (opd env) = [x]) : ∃ a, args = #[a] ∧ opd env a = x := by
  match hl : args.toList, h with
  | [a], h =>
    simp at h
    exact ⟨a, by apply Array.ext'; simpa using hl, h⟩
  | [], h => simp at h
  | a :: b :: l, h => simp at h
theorem us_ts {ts : Array TypeId} {t ty : TypeId} {a : Array Value} (h : ts[0]? = some t) : Builtin.unsafeString_ ts ty a = Builtin.unsafeString_ #[t, t] ty a := by
  unfold Builtin.unsafeString_
  rw [h]
  rfl
theorem blt_sound (hr : Rel B w0 μ H w) (hn0 : n0 ≤ H.n) {env : Env} {ρ : Operand → Value} (hρ : ∀ x, VRel μ (opd env x) (ρ x)) {b : Builtin} {args : Array Operand} {ts : Array TypeId} {ty : TypeId} {cs : Array Bool}
    {k : V → Heap → Option R} {res : R} (h : bltA P b ts (args.toList.map (opd env)) H k = some res) :
    ∃ v H1, k v H1 = some res ∧ Gives P (fun x w' => ∃ μ', Step B w0 n0 μ H w μ' H1 w' ∧ VRel μ' v x) ((builtin b ts ty cs (args.map ρ)).run P w) := by
  unfold bltA at h
  split at h
  · rename_i x y hl
    obtain ⟨a, b, rfl, rfl, rfl⟩ := args2 hl
    split at h
    · rename_i t u h1 h2
      have hts : ∀ (e : TypeId) (n by_ : Nat) (z : List V), elemT P t = some (e, n, by_, z) → ((∃ e, P.underlying u = some (.slice e)) ∨ P.underlying u = some .string) →
          (bd (appA n by_ e (opd env a) (opd env b) H) fun p => k p.1 p.2) = some res →
          ∃ v H1, k v H1 = some res ∧ Gives P (fun x w' => ∃ μ', Step B w0 n0 μ H w μ' H1 w' ∧ VRel μ' v x) ((builtin .append ts ty cs (#[a, b].map ρ)).run P w) := by
        intro e n by_ z he hu h
        cases ha : appA n by_ e (opd env a) (opd env b) H with
        | none => simp [ha] at h
        | some p =>
          rw [ha] at h
          obtain ⟨y, μ', w', hrun, hst, hv⟩ := append_sound (P := P) (ty := ty) hr hn0 he hu ha (hρ a) (hρ b)
          refine ⟨p.1, p.2, h, ?_⟩
          have : (Builtin.append_ ts ty #[ρ a, ρ b]).run P w = .ok y w' := by
            rw [← hrun]
            simp [Builtin.append_, h1, h2]
          have h3 := run_next this
          simp only [builtin, List.map_toArray, List.map_cons, List.map_nil]
          rw [h3]
          exact ⟨μ', hst, hv⟩
      split at h
      · rename_i hu1 hu2
        split at h
        · rename_i e n by_ z he; exact hts e n by_ z he (.inl ⟨_, hu2⟩) h
        · simp at h
      · rename_i hu1 hu2
        split at h
        · rename_i e n by_ z he; exact hts e n by_ z he (.inr hu2) h
        · simp at h
      · simp at h
    · simp at h
  · rename_i x y hl
    obtain ⟨a, b, rfl, rfl, rfl⟩ := args2 hl
    split at h
    · rename_i t h1
      split at h
      · rename_i e n by_ z he
        cases ha : copyA n (opd env a) (opd env b) H with
        | none => simp [ha] at h
        | some p =>
          rw [ha] at h
          obtain ⟨y, w', hrun, hst, hv⟩ := copy_sound (P := P) (ty := ty) (u := t) (n0 := n0) hr he (.inl ⟨e, (elem_info he).1⟩) ha (hρ a) (hρ b)
          refine ⟨p.1, p.2, h, ?_⟩
          have : (Builtin.copy_ ts ty #[ρ a, ρ b]).run P w = .ok y w' := by
            rw [← hrun]
            simp [Builtin.copy_, h1]
          have h3 := run_next this
          simp only [builtin, List.map_toArray, List.map_cons, List.map_nil]
          rw [h3]
          exact ⟨μ, hst, hv⟩
      · simp at h
    · simp at h
  · rename_i x y hl
    obtain ⟨a, b, rfl, rfl, rfl⟩ := args2 hl
    split at h
    · rename_i t h1
      cases ha : delA P t (opd env a) (opd env b) H with
      | none => simp [ha] at h
      | some H1 =>
        rw [ha] at h
        obtain ⟨w', hrun, hst⟩ := del_sound (P := P) (ty := ty) (n0 := n0) hr h1 ha (hρ a) (hρ b)
        refine ⟨.tuple [], H1, h, ?_⟩
        have h3 := run_next hrun
        simp only [builtin, List.map_toArray, List.map_cons, List.map_nil]
        rw [h3]
        exact ⟨μ, hst, VRel.unit⟩
    · simp at h
  · rename_i x hl
    obtain ⟨a, rfl, rfl⟩ := args1 hl
    split at h
    · rename_i t h1
      cases ha : clearA P t (opd env a) H with
      | none => simp [ha] at h
      | some H1 =>
        rw [ha] at h
        obtain ⟨w', hrun, hst⟩ := clear_sound (P := P) (ty := ty) (n0 := n0) hr h1 ha (hρ a)
        refine ⟨.tuple [], H1, h, ?_⟩
        have h3 := run_next hrun
        simp only [builtin, List.map_toArray, List.map_cons, List.map_nil]
        rw [h3]
        exact ⟨μ, hst, VRel.unit⟩
    · simp at h
  · rename_i x y hl
    obtain ⟨a, b, rfl, rfl, rfl⟩ := args2 hl
    split at h
    · rename_i t h1
      cases ha : unStrA P t (opd env a) (opd env b) H with
      | none => simp [ha] at h
      | some p =>
        rw [ha] at h
        obtain ⟨z, w', hrun, hst, hv⟩ := unStr_sound (P := P) (it := t) (ty := ty) (n0 := n0) hr ha (hρ a) (hρ b)
        refine ⟨p.1, p.2, h, ?_⟩
        have : (Builtin.unsafeString_ ts ty #[ρ a, ρ b]).run P w = .ok z w' := by
          rw [← hrun, us_ts h1]
        have h3 := run_next this
        simp only [builtin, List.map_toArray, List.map_cons, List.map_nil]
        rw [h3]
        exact ⟨μ, hst, hv⟩
    · simp at h
  · simp at h
theorem FreeId.le {r : Option Nat} (h : FreeId μ H n0 r) : n0 ≤ H.n := by
  cases r with
  | none => exact h
  | some i => have := h; unfold FreeId at this; omega
theorem make_gives (hr : Rel B w0 μ H w) {r : Option Nat} (hf : FreeId μ H n0 r) {env : Env} {ρ : Operand → Value} (hρ : ∀ x, VRel μ (opd env x) (ρ x)) {o : Oper} {obj : O} {f : Nat → V}
    (h : makeA P env o.op = some (obj, f)) :
    Gives P (fun x w' => ∃ μ', Step B w0 n0 μ H w μ' (newA r obj H).2 w' ∧ VRel μ' (f (newA r obj H).1) x) ((execOp ρ o).run P w) := by
  obtain ⟨cobj, sz, y, w', hrun, h1, h2, h3, h4, hν⟩ := make_run (P := P) hρ hr.size h
  rw [hrun]
  have hfree : μ (newA r obj H).1 = none := by
    cases r with
    | none => exact hr.fresh (Nat.le_refl _)
    | some k => exact hf.2.1
  have hle := Mu.le_put (L := ⟨w.heap.size, 0, sz⟩) hfree
  exact ⟨_, hr.alloc hf h1 h2 h3 h4 (hν _ hle).1, (hν _ hle).2 _ Mu.put_same⟩
theorem stepA_sound {call : FuncId → List V → Heap → Option R} (hc : CallSound P call) (hr : Rel B w0 μ H w) {r : Option Nat} (hf : FreeId μ H n0 r) {env : Env} {ρ : Operand → Value} (hρ : ∀ x, VRel μ (opd env x) (ρ x))
    {o : Oper} {k : V → Heap → Option R} {res : R} (h : stepA P call r env o.op H k = some res) :
    ∃ v H1, k v H1 = some res ∧ Gives P (fun x w' => ∃ μ', Step B w0 n0 μ H w μ' H1 w' ∧ VRel μ' v x) ((execOp ρ o).run P w) := by
  have hn0 := hf.le
  by_cases hk : kind P o.op = .make
  · obtain ⟨obj, f, h1, h2⟩ := stepA_make hk h
    exact ⟨_, _, h2, make_gives hr hf hρ h1⟩
  · have hval : ∀ {v : V}, valA P env o.op H = some v → k v H = some res →
        ∃ v H1, k v H1 = some res ∧ Gives P (fun x w' => ∃ μ', Step B w0 n0 μ H w μ' H1 w' ∧ VRel μ' v x) ((execOp ρ o).run P w) := by
      intro v hv hk
      obtain ⟨y, hrun, hy⟩ := valA_sound (P := P) hr hρ hv
      exact ⟨v, H, hk, by rw [hrun]; exact ⟨μ, Step.refl hr, hy⟩⟩
    have hunit : ∀ {s : Sem Unit} {H1 : Heap}, (∃ w', s.run P w = .ok () w' ∧ Step B w0 n0 μ H w μ H1 w') → (execOp ρ o = do s; pure Next.skip) → k (.tuple []) H1 = some res →
        ∃ v H1, k v H1 = some res ∧ Gives P (fun x w' => ∃ μ', Step B w0 n0 μ H w μ' H1 w' ∧ VRel μ' v x) ((execOp ρ o).run P w) := by
      rintro s H1 ⟨w', hrun, hst⟩ he hk
      refine ⟨_, H1, hk, ?_⟩
      rw [he, run_unit hrun]
      exact ⟨μ, hst, VRel.unit⟩
    have hsem : ∀ {s : Sem Value} {v : V} {H1 : Heap}, (∃ y w', s.run P w = .ok y w' ∧ Step B w0 n0 μ H w μ H1 w' ∧ VRel μ v y) → (execOp ρ o = do pure (Next.value (← s))) → k v H1 = some res →
        ∃ v H1, k v H1 = some res ∧ Gives P (fun x w' => ∃ μ', Step B w0 n0 μ H w μ' H1 w' ∧ VRel μ' v x) ((execOp ρ o).run P w) := by
      rintro s v H1 ⟨y, w', hrun, hst, hy⟩ he hk
      refine ⟨_, H1, hk, ?_⟩
      rw [he, run_next hrun]
      exact ⟨μ, hst, hy⟩
    obtain ⟨dst, op, ty, pos, after, guard⟩ := o
    simp only at h hk hval
    unfold stepA at h
    split at h
    · simp [kind] at hk
    · simp [kind] at hk
    · simp [kind] at hk
    · simp [kind] at hk
    · simp [kind] at hk
    · rename_i t a x
      split at h
      · rename_i n hs
        cases hst : stA n (opd env a) (opd env x) H with
        | none => simp [hst] at h
        | some H1 =>
          rw [hst] at h
          exact hunit (store_sound (P := P) hr hs hst (hρ a) (hρ x)) rfl h
      · simp at h
    · rename_i t m i x
      cases hst : updA P t (opd env m) (opd env i) (opd env x) H with
      | none => simp [hst] at h
      | some H1 =>
        rw [hst] at h
        exact hunit (upd_sound (P := P) hr hst (hρ m) (hρ i) (hρ x)) rfl h
    · rename_i t m i x
      cases hst : updA P t (opd env m) (opd env i) (opd env x) H with
      | none => simp [hst] at h
      | some H1 =>
        rw [hst] at h
        exact hunit (upd_sound (P := P) hr hst (hρ m) (hρ i) (hρ x)) rfl h
    · rename_i t m i
      cases hst : entA P t (opd env m) (opd env i) H with
      | none => simp [hst] at h
      | some p =>
        rw [hst] at h
        exact hsem (ent_sound (P := P) hr hst (hρ m) (hρ i)) rfl h
    · rename_i t m s x
      cases hst : entStA (opd env m) (opd env s) (opd env x) H with
      | none => simp [hst] at h
      | some H1 =>
        rw [hst] at h
        exact hunit (entSt_sound (P := P) hr hst (hρ m) (hρ s) (hρ x)) rfl h
    · rename_i t x
      cases hst : rangeA P t (opd env x) H with
      | none => simp [hst] at h
      | some q =>
        rw [hst] at h
        obtain ⟨y, μ', w', hrun, hs, hy⟩ := range_sound (P := P) hr hf hst (hρ x)
        refine ⟨_, _, h, ?_⟩
        simp only [execOp]
        rw [run_next hrun]
        exact ⟨μ', hs, hy⟩
    · rename_i x s
      cases hst : nextA (opd env x) s H with
      | none => simp [hst] at h
      | some p =>
        rw [hst] at h
        exact hsem (next_sound (P := P) hr hst (hρ x)) rfl h
    · rename_i f args ts
      unfold callV at h
      split at h
      · rename_i g first cap hfv
        split at h
        case isFalse => simp at h
        rename_i hlt
        cases hcl : call g (first ++ args.toList.map (opd env) ++ cap) H with
        | none => rw [hcl] at h; simp at h
        | some p =>
          rw [hcl] at h
          have hfr := hρ f
          rw [hfv] at hfr
          simp only [VRel] at hfr
          obtain ⟨fs, cs, hfe, _, h1, h2⟩ := hfr
          refine ⟨p.1, p.2, h, ?_⟩
          have := hc g _ H p.1 p.2 hcl B n0 w0 w μ (fs ++ args.map ρ ++ cs) hr hn0 (by
            simp only [Array.toList_append, Array.toList_map]
            exact VRels.append (VRels.append h1 (VRels.ofMap hρ args.toList)) h2)
          simp only [execOp, resolve, hfe, Deferred.ofValue, Sem.run_bind, Sem.run_pure, Result.andThen_ok, invoke]
          exact this.1 hlt
      · rename_i j hfv
        cases hcl : call (yB + j) (args.toList.map (opd env)) H with
        | none => rw [hcl] at h; simp at h
        | some p =>
          rw [hcl] at h
          have hfr := hρ f
          rw [hfv] at hfr
          simp only [VRel] at hfr
          obtain ⟨L, hL, hfe⟩ := hfr
          refine ⟨p.1, p.2, h, ?_⟩
          have := hc (yB + j) _ H p.1 p.2 hcl B n0 w0 w μ (args.map ρ) hr hn0 (by
            simp only [Array.toList_map]
            exact VRels.ofMap hρ args.toList)
          simp only [execOp, resolve, hfe, Deferred.ofValue, Sem.run_bind, Sem.run_pure, Result.andThen_ok, invoke, Array.empty_append]
          exact this.2 j L rfl hL
      · simp at h
    · rename_i args ts
      have := blt_sound (P := P) (ty := ty) (cs := args.map fun | .const _ => true | _ => false) hr hn0 hρ h
      obtain ⟨v, H1, h1, h2⟩ := this
      refine ⟨v, H1, h1, ?_⟩
      simp only [execOp, resolve, Sem.run_bind, Sem.run_pure, Result.andThen_ok, invoke]
      exact h2
    · rename_i args ts
      have := blt_sound (P := P) (ty := ty) (cs := args.map fun | .const _ => true | _ => false) hr hn0 hρ h
      obtain ⟨v, H1, h1, h2⟩ := this
      refine ⟨v, H1, h1, ?_⟩
      simp only [execOp, resolve, Sem.run_bind, Sem.run_pure, Result.andThen_ok, invoke]
      exact h2
    · rename_i args ts
      have := blt_sound (P := P) (ty := ty) (cs := args.map fun | .const _ => true | _ => false) hr hn0 hρ h
      obtain ⟨v, H1, h1, h2⟩ := this
      refine ⟨v, H1, h1, ?_⟩
      simp only [execOp, resolve, Sem.run_bind, Sem.run_pure, Result.andThen_ok, invoke]
      exact h2
    · rename_i args ts
      have := blt_sound (P := P) (ty := ty) (cs := args.map fun | .const _ => true | _ => false) hr hn0 hρ h
      obtain ⟨v, H1, h1, h2⟩ := this
      refine ⟨v, H1, h1, ?_⟩
      simp only [execOp, resolve, Sem.run_bind, Sem.run_pure, Result.andThen_ok, invoke]
      exact h2
    · rename_i args ts
      have := blt_sound (P := P) (ty := ty) (cs := args.map fun | .const _ => true | _ => false) hr hn0 hρ h
      obtain ⟨v, H1, h1, h2⟩ := this
      refine ⟨v, H1, h1, ?_⟩
      simp only [execOp, resolve, Sem.run_bind, Sem.run_pure, Result.andThen_ok, invoke]
      exact h2
    · cases hv : valA P env op H with
      | none => rw [hv] at h; simp at h
      | some v => rw [hv] at h; exact hval hv h
end
end Go.AM
end
section
set_option linter.unusedVariables false
set_option linter.unusedSimpArgs false
namespace Go.AM
def Up (H G : Heap) : Prop := ∀ i, H.get i ≠ .none → G.get i = H.get i
theorem Up.get {H G : Heap} (h : Up H G) {i : Nat} {o : O} (e : H.get i = o) (ho : o ≠ .none) : G.get i = o := by subst e; exact h i ho
theorem Up.refl (H : Heap) : Up H H := fun _ _ => rfl
structure Ext (X : Nat → Option O) (H G : Heap) : Prop where
  n : G.n = H.n
  new : ∀ i o, X i = some o → i < H.n ∧ H.get i = .none ∧ G.get i = o
  old : ∀ i, X i = none → G.get i = H.get i
theorem Ext.up {X : Nat → Option O} {H G : Heap} (h : Ext X H G) : Up H G := by
  intro i hi
  cases e : X i with
  | none => exact h.old i e
  | some o => exact absurd (h.new i o e).2.1 hi
theorem Ext.set {X : Nat → Option O} {H G : Heap} (h : Ext X H G) {i : Nat} (hi : X i = none) (o : O) : Ext X (H.set i o) (G.set i o) := by
  refine ⟨h.n, ?_, ?_⟩
  · intro j p e
    have hj : j ≠ i := by rintro rfl; rw [hi] at e; cases e
    rw [Heap.get_set, Heap.get_set, if_neg hj, if_neg hj]
    exact h.new j p e
  · intro j e
    rw [Heap.get_set, Heap.get_set, h.old j e]
theorem Ext.push {X : Nat → Option O} {H G : Heap} (h : Ext X H G) (o : O) : Ext X (H.push o) (G.push o) := by
  refine ⟨by simp [h.n], ?_, ?_⟩
  · intro j p e
    obtain ⟨h1, h2, h3⟩ := h.new j p e
    rw [Heap.get_push, Heap.get_push, h.n, if_neg (by omega), if_neg (by omega)]
    exact ⟨by simp; omega, h2, h3⟩
  · intro j e
    rw [Heap.get_push, Heap.get_push, h.n, h.old j e]
theorem Ext.more {X : Nat → Option O} {H G : Heap} (h : Ext X H G) (m : Nat) : Ext X (H.more m) (G.more m) :=
  ⟨by simp [h.n], fun j p e => by obtain ⟨h1, h2⟩ := h.new j p e; exact ⟨by simp; omega, by simpa using h2⟩, fun j e => by simpa using h.old j e⟩
theorem Ext.none {X : Nat → Option O} {H G : Heap} (h : Ext X H G) {i : Nat} {o : O} (e : H.get i = o) (ho : o ≠ .none) : X i = none := by
  cases e2 : X i with
  | none => rfl
  | some p => rw [(h.new i p e2).2.1] at e; exact absurd e.symm ho
section
variable {P : Program} {H G H1 : Heap}
theorem ld1_up (u : Up H G) {v r : V} (h : ld1 v H = some r) : ld1 v G = some r := by
  unfold ld1 at *
  split at h
  · split at h
    · rename_i hg; simp only [u.get hg (by simp)]; exact h
    · simp at h
  · exact h
  · simp at h
theorem ldN_up (u : Up H G) {n : Nat} {v r : V} (h : ldN n v H = some r) : ldN n v G = some r := by
  unfold ldN at *
  split at h
  · split at h
    · rename_i hg; simp only [u.get hg (by simp)]; exact h
    · simp at h
  · exact h
  · simp at h
theorem loadA_up (u : Up H G) {t : TypeId} {v r : V} (h : loadA P t v H = some r) : loadA P t v G = some r := by
  unfold loadA at *
  split at h
  · split at h
    · exact ldN_up u h
    · simp at h
  · exact ld1_up u h
  · simp at h
theorem rdS_up (u : Up H G) {s : Sl} {r : List V} (h : rdS s H = some r) : rdS s G = some r := by
  unfold rdS at *
  split at h
  · exact h
  · split at h
    · rename_i hn; rw [if_pos hn]; exact h
    · rename_i hn
      rw [if_neg hn]
      split at h
      · rename_i hg; simp only [u.get hg (by simp)]; exact h
      · simp at h
theorem cvBytes_up (u : Up H G) {v r : V} (h : cvBytes v H = some r) : cvBytes v G = some r := by
  unfold cvBytes at *
  split at h
  · split at h
    · rename_i s hc
      rw [if_pos hc]
      cases hr : rdS s H with
      | none => simp [hr] at h
      | some cs => rw [rdS_up u hr]; rw [hr] at h; exact h
    · simp at h
  · exact h
  · simp at h
theorem cvUp_up (u : Up H G) {n : Option Nat} {v r : V} (h : cvUp n v H = some r) : cvUp n v G = some r := by
  unfold cvUp at *
  split at h
  · exact h
  · split at h
    · rename_i hg; simp only [u.get hg (by simp)]; exact h
    · simp at h
  · simp at h
theorem cvDn_up (u : Up H G) {t : TypeId} {v r : V} (h : cvDn P t v H = some r) : cvDn P t v G = some r := by
  unfold cvDn at *
  split at h
  · exact h
  · split at h
    · rename_i hg; simp only [u.get hg (by simp)]; exact h
    · simp at h
  · simp at h
theorem convA_up (u : Up H G) {s d : TypeId} {v r : V} (h : convA P s d v H = some r) : convA P s d v G = some r := by
  unfold convA at *
  split at h
  · exact h
  · exact h
  · split at h
    · exact cvBytes_up u h
    · simp at h
  · exact cvUp_up u h
  · exact cvDn_up u h
  · simp at h
theorem slArr_up (u : Up H G) {len n : Nat} {v r : V} {lo hi : Option V} (h : slArr len n v lo hi H = some r) : slArr len n v lo hi G = some r := by
  unfold slArr at *
  split at h
  · rename_i i o
    cases h1 : bndA 0 lo with
    | none => simp [h1] at h
    | some l =>
      cases h2 : bndA len hi with
      | none => simp [h1, h2] at h
      | some m =>
        simp only [h1, h2, Option.bind_some] at h ⊢
        split at h
        · rename_i hg; simp only [u.get hg (by simp)]; exact h
        · simp at h
  · simp at h
theorem sliceA_up (u : Up H G) {t : TypeId} {v r : V} {lo hi mx : Option V} (h : sliceA P t v lo hi mx H = some r) : sliceA P t v lo hi mx G = some r := by
  unfold sliceA at *
  split at h
  · exact h
  · exact h
  · split at h
    · exact slArr_up u h
    · simp at h
  · simp at h
theorem mapOf_up (u : Up H G) {v : V} {r : Nat × List ME × Nat} (h : mapOf v H = some r) : mapOf v G = some r := by
  unfold mapOf at *
  split at h
  · split at h
    · rename_i hg; simp only [u.get hg (by simp)]; exact h
    · simp at h
  · simp at h
theorem entsOf_up (u : Up H G) {v : V} {r : List ME} (h : entsOf v H = some r) : entsOf v G = some r := by
  unfold entsOf at *
  split at h
  · exact h
  · cases hm : mapOf v H with
    | none => simp [hm] at h
    | some m => rw [mapOf_up u hm]; rw [hm] at h; exact h
theorem lookA_up (u : Up H G) {t : TypeId} {v k r : V} {ok : Bool} (h : lookA P t v k ok H = some r) : lookA P t v k ok G = some r := by
  unfold lookA at *
  split at h
  · split at h
    · unfold lookM at *
      cases hm : entsOf v H with
      | none => simp [hm] at h
      | some m => rw [entsOf_up u hm]; rw [hm] at h; exact h
    · simp at h
  · simp at h
theorem entryA_up (u : Up H G) {v r : V} (h : entryA v H = some r) : entryA v G = some r := by
  unfold entryA at *
  split at h
  · split at h
    · rename_i hg
      simp only [u.get hg (by simp)]
      split at h
      · rename_i hm
        simp only [u.get hm (by simp)]; exact h
      · simp at h
    · simp at h
  · simp at h
theorem lenMap_up (u : Up H G) {v r : V} (h : lenMap v H = some r) : lenMap v G = some r := by
  unfold lenMap at *
  split at h
  · exact h
  · split at h
    · rename_i hg; simp only [u.get hg (by simp)]; exact h
    · simp at h
  · simp at h
theorem lenA_up (u : Up H G) {t : TypeId} {v r : V} (h : lenA P t v H = some r) : lenA P t v G = some r := by
  unfold lenA at *
  split at h
  · exact h
  · exact h
  · exact h
  · exact lenMap_up u h
  · simp at h
theorem valA_up (u : Up H G) {env : Env} {o : Op} {v : V} (h : valA P env o H = some v) : valA P env o G = some v := by
  unfold valA at h ⊢
  split at h
  all_goals first
    | exact h
    | exact loadA_up u h
    | exact convA_up u h
    | exact sliceA_up u h
    | exact lookA_up u h
    | exact entryA_up u h
    | skip
  · split at h
    · exact lenA_up u h
    · simp at h
variable {X : Nat → Option O}
theorem stA_frame (e : Ext X H G) {n : Nat} {v x : V} (h : stA n v x H = some H1) : ∃ G1, stA n v x G = some G1 ∧ Ext X H1 G1 := by
  unfold stA at *
  split at h
  · split at h
    · rename_i hg
      simp only [e.up.get hg (by simp)]
      split at h
      · rename_i hc
        simp at h; subst h
        exact ⟨_, if_pos hc, e.set (e.none hg (by simp)) _⟩
      · simp at h
    · simp at h
  · simp at h
theorem srcA_up (u : Up H G) {n : Nat} {x : V} {r : Nat × List V} (h : srcA n x H = some r) : srcA n x G = some r := by
  unfold srcA at *
  split at h
  · split at h
    · rename_i s hc
      rw [if_pos hc]
      cases hr : rdS s H with
      | none => simp [hr] at h
      | some cs => rw [rdS_up u hr]; rw [hr] at h; exact h
    · simp at h
  · exact h
  · exact h
  · simp at h
theorem killA_frame (e : Ext X H G) {s : Sl} {t : TypeId} (h : killA s t H = some H1) : ∃ G1, killA s t G = some G1 ∧ Ext X H1 G1 := by
  unfold killA at *
  split at h
  · simp at h; subst h; exact ⟨G, rfl, e⟩
  · split at h
    · rename_i hf; simp at h; subst h; exact ⟨G, by simp [hf], e⟩
    · rename_i hf
      simp only [if_neg hf]
      split at h
      · rename_i hg
        simp only [e.up.get hg (by simp)]
        split at h
        · rename_i hu; simp at h; subst h; exact ⟨_, if_pos hu, e.set (e.none hg (by simp)) _⟩
        · simp at h
      · simp at h
theorem appA_frame (e : Ext X H G) {n b : Nat} {t : TypeId} {v x r : V} (h : appA n b t v x H = some (r, H1)) : ∃ G1, appA n b t v x G = some (r, G1) ∧ Ext X H1 G1 := by
  unfold appA at *
  split at h
  · rename_i s
    cases hs : srcA n x H with
    | none => simp [hs] at h
    | some q =>
      obtain ⟨k, new⟩ := q
      rw [srcA_up e.up hs]
      simp only [hs, Option.bind_some] at h ⊢
      split at h
      · rename_i hk; simp at h; obtain ⟨rfl, rfl⟩ := h; exact ⟨G, by simp [hk], e⟩
      · rename_i hk
        rw [if_neg hk]
        split at h
        · rename_i hc
          rw [if_pos hc]
          cases hr : rdS s H with
          | none => simp [hr] at h
          | some old =>
            cases hki : killA s t H with
            | none => simp [hr, hki] at h
            | some H2 =>
              obtain ⟨G2, k1, k2⟩ := killA_frame e hki
              simp only [hr, hki, Option.bind_some, Option.some.injEq, Prod.mk.injEq] at h
              obtain ⟨rfl, rfl⟩ := h
              rw [rdS_up e.up hr, k1]
              exact ⟨_, by simp [k2.n], k2.push _⟩
        · simp at h
  · simp at h
theorem copyA_frame (e : Ext X H G) {n : Nat} {v x r : V} (h : copyA n v x H = some (r, H1)) : ∃ G1, copyA n v x G = some (r, G1) ∧ Ext X H1 G1 := by
  unfold copyA at *
  split at h
  · rename_i d
    cases hs : srcA n x H with
    | none => simp [hs] at h
    | some q =>
      obtain ⟨k, new⟩ := q
      rw [srcA_up e.up hs]
      simp only [hs, Option.bind_some] at h ⊢
      split at h
      · rename_i hk; simp at h; obtain ⟨rfl, rfl⟩ := h; exact ⟨G, by rw [if_pos hk], e⟩
      · rename_i hk
        rw [if_neg hk]
        split at h
        · split at h
          · rename_i hg
            simp only [e.up.get hg (by simp)]
            split at h
            · rename_i hc; simp at h; obtain ⟨rfl, rfl⟩ := h; exact ⟨_, by rw [if_pos hc], e.set (e.none hg (by simp)) _⟩
            · simp at h
          · simp at h
        · simp at h
  · simp at h
theorem mapOf_none (e : Ext X H G) {v : V} {m : Nat × List ME × Nat} (h : mapOf v H = some m) : X m.1 = none := by
  unfold mapOf at h
  split at h
  · split at h
    · rename_i hg; simp at h; subst h; exact e.none hg (by simp)
    · simp at h
  · simp at h
theorem updA_frame (e : Ext X H G) {t : TypeId} {v k x : V} (h : updA P t v k x H = some H1) : ∃ G1, updA P t v k x G = some G1 ∧ Ext X H1 G1 := by
  unfold updA at *
  split at h
  · rename_i kt et hu
    unfold updM at *
    cases hm : mapOf v H with
    | none => simp [hm] at h
    | some m =>
      rw [mapOf_up e.up hm]
      have hX := mapOf_none e hm
      simp only [hm, Option.bind_some] at h ⊢
      cases hf : findM P kt k m.2.1 with
      | none => simp [hf] at h
      | some r =>
        simp only [hf, Option.bind_some] at h ⊢
        split at h
        · split at h
          · rename_i hs; simp at h; subst h; exact ⟨_, if_pos hs, e.set hX _⟩
          · simp at h
        · simp at h; subst h; exact ⟨_, rfl, e.set hX _⟩
  · simp at h
theorem entA_frame (e : Ext X H G) {t : TypeId} {v k r : V} (h : entA P t v k H = some (r, H1)) : ∃ G1, entA P t v k G = some (r, G1) ∧ Ext X H1 G1 := by
  unfold entA at *
  split at h
  · rename_i kt et hu
    split at h
    · rename_i z hz
      unfold entM at *
      cases hm : mapOf v H with
      | none => simp [hm] at h
      | some m =>
        rw [mapOf_up e.up hm]
        have hX := mapOf_none e hm
        simp only [hm, Option.bind_some] at h ⊢
        cases hf : findM P kt k m.2.1 with
        | none => simp [hf] at h
        | some r =>
          simp only [hf, Option.bind_some] at h ⊢
          split at h
          · split at h
            · rename_i hs; simp at h; obtain ⟨rfl, rfl⟩ := h; exact ⟨_, if_pos hs, e.set hX _⟩
            · simp at h
          · simp at h; obtain ⟨rfl, rfl⟩ := h; exact ⟨_, rfl, e.set hX _⟩
    · simp at h
  · simp at h
theorem entStA_frame (e : Ext X H G) {v s x : V} (h : entStA v s x H = some H1) : ∃ G1, entStA v s x G = some G1 ∧ Ext X H1 G1 := by
  unfold entStA at *
  cases hm : mapOf v H with
  | none => simp [hm] at h
  | some m =>
    rw [mapOf_up e.up hm]
    have hX := mapOf_none e hm
    simp only [hm, Option.bind_some] at h ⊢
    cases hs : asI s with
    | none => simp [hs] at h
    | some b =>
      simp only [hs, Option.bind_some] at h ⊢
      cases hb : setBorn b x m.2.1 with
      | none => simp [hb] at h
      | some es => simp [hb] at h; subst h; exact ⟨_, rfl, e.set hX _⟩
theorem delA_frame (e : Ext X H G) {t : TypeId} {v k : V} (h : delA P t v k H = some H1) : ∃ G1, delA P t v k G = some G1 ∧ Ext X H1 G1 := by
  unfold delA at *
  split at h
  · rename_i kt et hu
    unfold delM at *
    split at h
    · split at h
      · rename_i hk; simp at h; subst h; exact ⟨_, if_pos hk, e⟩
      · simp at h
    · cases hm : mapOf v H with
      | none => simp [hm] at h
      | some m =>
        rw [mapOf_up e.up hm]
        have hX := mapOf_none e hm
        simp only [hm, Option.bind_some] at h ⊢
        cases hf : findM P kt k m.2.1 with
        | none => simp [hf] at h
        | some r =>
          simp only [hf, Option.bind_some] at h ⊢
          split at h
          · simp at h; subst h; exact ⟨_, rfl, e.set hX _⟩
          · simp at h; subst h; exact ⟨_, rfl, e⟩
  · simp at h
theorem clearA_frame (e : Ext X H G) {t : TypeId} {v : V} (h : clearA P t v H = some H1) : ∃ G1, clearA P t v G = some G1 ∧ Ext X H1 G1 := by
  unfold clearA at *
  split at h
  · unfold clrM at *
    split at h
    · simp at h; subst h; exact ⟨_, rfl, e⟩
    · cases hm : mapOf v H with
      | none => simp [hm] at h
      | some m =>
        rw [mapOf_up e.up hm]
        have hX := mapOf_none e hm
        simp only [hm, Option.bind_some, Option.some.injEq] at h ⊢
        subst h
        exact ⟨_, rfl, e.set hX _⟩
  · split at h
    · unfold clrS at *
      split at h
      · split at h
        · rename_i hk; simp at h; subst h; exact ⟨G, by rw [if_pos hk], e⟩
        · rename_i hk
          rw [if_neg hk]
          split at h
          · split at h
            · rename_i hg
              simp only [e.up.get hg (by simp)]
              split at h
              · rename_i hc; simp at h; subst h; exact ⟨_, by rw [if_pos hc], e.set (e.none hg (by simp)) _⟩
              · simp at h
            · simp at h
          · simp at h
      · simp at h; subst h; exact ⟨G, rfl, e⟩
      · simp at h
    · simp at h
  · simp at h
theorem nextA_frame (e : Ext X H G) {v r : V} {s : Bool} (h : nextA v s H = some (r, H1)) : ∃ G1, nextA v s G = some (r, G1) ∧ Ext X H1 G1 := by
  unfold nextA at *
  split at h
  · split at h
    · rename_i hg
      simp only [e.up.get hg (by simp)]
      split at h
      · rename_i hp; simp at h; obtain ⟨rfl, rfl⟩ := h; exact ⟨_, by rw [if_pos hp], e.set (e.none hg (by simp)) _⟩
      · rename_i hp; simp at h; obtain ⟨rfl, rfl⟩ := h; exact ⟨_, by rw [if_neg hp], e⟩
    · simp at h
  · split at h
    · rename_i hg
      simp only [e.up.get hg (by simp)]
      simp at h; obtain ⟨rfl, rfl⟩ := h; exact ⟨_, rfl, e⟩
    · rename_i hg
      simp only [e.up.get hg (by simp)]
      split at h
      · rename_i hg2
        simp only [e.up.get hg2 (by simp)]
        split at h
        · cases h
        · rename_i hcond
          rw [if_neg hcond]
          revert h
          cases hl : leftM _ _ with
          | nil => intro h; simp at h; obtain ⟨rfl, rfl⟩ := h; exact ⟨_, rfl, e⟩
          | cons x xs =>
            cases xs with
            | nil =>
              intro h
              dsimp only at h ⊢
              split at h
              · rename_i hb
                rw [if_pos hb]
                simp at h; obtain ⟨rfl, rfl⟩ := h; exact ⟨_, rfl, e.set (e.none hg (by simp)) _⟩
              · cases h
            | cons y ys => intro h; cases h
      · cases h
    · cases h
  · simp at h
theorem rangeA_up (u : Up H G) {t : TypeId} {v : V} {o : O} (h : rangeA P t v H = some o) : rangeA P t v G = some o := by
  unfold rangeA at *
  split at h
  · exact h
  · unfold rgMap at *
    split at h
    · exact h
    · cases hm : mapOf v H with
      | none => rw [hm] at h; simp at h
      | some m => rw [hm] at h; rw [mapOf_up u hm]; exact h
  · cases h
theorem newA_frame (e : Ext X H G) {r : Option Nat} (hr : ∀ i, r = some i → X i = none) (o : O) : (newA r o G).1 = (newA r o H).1 ∧ Ext X (newA r o H).2 (newA r o G).2 := by
  cases r with
  | none => exact ⟨by simp [newA, e.n], e.push o⟩
  | some i => exact ⟨rfl, e.set (hr i rfl) o⟩
def FrameCall (call : FuncId → List V → Heap → Option R) : Prop :=
  ∀ f args H v H' X G, call f args H = some (v, H') → Ext X H G → ∃ G', call f args G = some (v, G') ∧ Ext X H' G'
theorem unStr_frame (e : Ext X H G) {v n : V} {p : V × Heap × TypeId} (h : unStr v n H = some p) : ∃ G1, unStr v n G = some (p.1, G1, p.2.2) ∧ Ext X p.2.1 G1 := by
  unfold unStr at *
  split at h
  · split at h
    · rename_i hg
      simp only [e.up.get hg (by simp)]
      split at h
      · rename_i hc
        rw [if_pos hc]
        cases hb : bytesOf (List.take _ _) with
        | none => rw [hb] at h; simp at h
        | some l =>
          rw [hb] at h
          simp at h; subst h
          exact ⟨_, rfl, e.set (e.none hg (by simp)) _⟩
      · simp at h
    · simp at h
  · simp at h
theorem unStrA_frame (e : Ext X H G) {t : TypeId} {v n : V} {p : V × Heap} (h : unStrA P t v n H = some p) : ∃ G1, unStrA P t v n G = some (p.1, G1) ∧ Ext X p.2 G1 := by
  unfold unStrA at *
  split at h
  · simp at h; subst h; exact ⟨G, rfl, e⟩
  · cases hu : unStr v n H with
    | none => rw [hu] at h; simp at h
    | some q =>
      rw [hu] at h
      obtain ⟨G1, g1, g2⟩ := unStr_frame e hu
      simp only [g1]
      simp only at h
      split at h
      · split at h
        · rename_i hc
          simp at h; subst h
          exact ⟨G1, by simp only [if_pos hc], g2⟩
        · simp at h
      · simp at h
theorem bltA_frame (e : Ext X H G) {b : Builtin} {ts : Array TypeId} {args : List V} {k : V → Heap → Option R} {res : R} (h : bltA P b ts args H k = some res) :
    ∃ v H1 G1, k v H1 = some res ∧ Ext X H1 G1 ∧ ∀ k' : V → Heap → Option R, bltA P b ts args G k' = k' v G1 := by
  unfold bltA at *
  split at h
  · rename_i x y
    split at h
    · split at h
      all_goals first
        | (simp at h; done)
        | (split at h
           · rename_i el n by_ z _
             cases ha : appA n by_ el x y H with
             | none => simp [ha] at h
             | some p =>
               rw [ha] at h
               obtain ⟨G1, g1, g2⟩ := appA_frame e ha
               exact ⟨p.1, p.2, G1, h, g2, fun k' => by rw [g1] <;> rfl⟩
           · simp at h)
    · simp at h
  · rename_i x y
    split at h
    · split at h
      · rename_i n _ _ _
        cases ha : copyA n x y H with
        | none => simp [ha] at h
        | some p =>
          rw [ha] at h
          obtain ⟨G1, g1, g2⟩ := copyA_frame e ha
          exact ⟨p.1, p.2, G1, h, g2, fun k' => by rw [g1] <;> rfl⟩
      · simp at h
    · simp at h
  · rename_i x y
    split at h
    · rename_i t _
      cases ha : delA P t x y H with
      | none => simp [ha] at h
      | some H1 =>
        rw [ha] at h
        obtain ⟨G1, g1, g2⟩ := delA_frame e ha
        exact ⟨_, H1, G1, h, g2, fun k' => by rw [g1] <;> rfl⟩
    · simp at h
  · rename_i x
    split at h
    · rename_i t _
      cases ha : clearA P t x H with
      | none => simp [ha] at h
      | some H1 =>
        rw [ha] at h
        obtain ⟨G1, g1, g2⟩ := clearA_frame e ha
        exact ⟨_, H1, G1, h, g2, fun k' => by rw [g1] <;> rfl⟩
    · simp at h
  · rename_i x y
    split at h
    · rename_i t _
      cases ha : unStrA P t x y H with
      | none => simp [ha] at h
      | some p =>
        rw [ha] at h
        obtain ⟨G1, g1, g2⟩ := unStrA_frame e ha
        exact ⟨p.1, p.2, G1, h, g2, fun k' => by rw [g1] <;> rfl⟩
    · simp at h
  · simp at h
end
end Go.AM
end
section
set_option linter.unusedVariables false
set_option linter.unusedSimpArgs false
set_option linter.unusedSimpArgs false
namespace Go.AM
section
variable {P : Program} {H G H1 : Heap} {X : Nat → Option O}
theorem lk_putN {d : Option Tmp} {e : Env} (t : Nat) : lk t (putN d e) = lk t (putV d (.tuple []) e) := by
  cases d with
  | none => rfl
  | some d => simp only [putN, putV, lk]; split <;> rfl
def GV (v : V) (want b : Bool) : Prop := (∃ c, v = .bool c ∧ b = (c == want)) ∨ (v = .tuple [] ∧ b = false)
theorem guarded_spec {env : Env} {g : Option (Nat × Bool)} {slot : Nat → Option Tmp} {yes no : Env → Option R} {r : R} (h : guarded env g slot yes no = some r) :
    ∃ env' b, (∀ yes' no' : Env → Option R, guarded env g slot yes' no' = (if b = true then yes' else no') env') ∧ (if b = true then yes else no) env' = some r ∧ (∀ t, lk t env' = lk t env) ∧
      (g = none → b = true ∧ env' = env) ∧ (∀ j want, g = some (j, want) → ∃ t, slot j = some t ∧ GV (lk t env) want b) := by
  unfold guarded at h
  split at h
  · refine ⟨env, true, fun _ _ => rfl, h, fun _ => rfl, fun _ => ⟨rfl, rfl⟩, ?_⟩
    intro j want e; simp at e
  · rename_i j want
    split at h
    · rename_i t ht
      by_cases hm : mk t env = true
      · rw [if_pos hm] at h
        split at h
        · rename_i hl
          refine ⟨env, false, ?_, h, fun _ => rfl, by simp, ?_⟩
          · intro yes' no'
            simp only [guarded, ht, hl]
            rw [if_pos hm]; rfl
          · intro j' want' e
            simp at e
            obtain ⟨rfl, rfl⟩ := e
            exact ⟨t, ht, .inr ⟨hl, rfl⟩⟩
        · rename_i hl
          refine ⟨(t, .bool true) :: env, true == want, ?_, ?_, ?_, by simp, ?_⟩
          · intro yes' no'
            simp only [guarded, ht, hl]
            rw [if_pos hm]
            cases want <;> rfl
          · cases want <;> exact h
          · intro u
            simp only [lk]
            split
            · rename_i hu; subst hu; exact hl.symm
            · rfl
          · intro j' want' e
            simp at e
            obtain ⟨rfl, rfl⟩ := e
            exact ⟨t, ht, .inl ⟨true, hl, rfl⟩⟩
        · rename_i hl
          refine ⟨(t, .bool false) :: env, false == want, ?_, ?_, ?_, by simp, ?_⟩
          · intro yes' no'
            simp only [guarded, ht, hl]
            rw [if_pos hm]
            cases want <;> rfl
          · cases want <;> exact h
          · intro u
            simp only [lk]
            split
            · rename_i hu; subst hu; exact hl.symm
            · rfl
          · intro j' want' e
            simp at e
            obtain ⟨rfl, rfl⟩ := e
            exact ⟨t, ht, .inl ⟨false, hl, rfl⟩⟩
        · cases h
      · rw [if_neg hm] at h
        cases hl : lk t env with
        | bool c =>
          rw [hl] at h
          simp only [asB, bd_some] at h
          refine ⟨(t, .bool c) :: env, c == want, ?_, ?_, ?_, by simp, ?_⟩
          · intro yes' no'
            simp only [guarded, ht]
            rw [if_neg hm]
            simp only [hl, asB, bd_some]
            cases c <;> cases want <;> rfl
          · cases c <;> cases want <;> exact h
          · intro u
            simp only [lk]
            split
            · rename_i hu; subst hu; exact hl.symm
            · rfl
          · intro j' want' e
            simp at e
            obtain ⟨rfl, rfl⟩ := e
            exact ⟨t, ht, .inl ⟨c, hl, rfl⟩⟩
        | _ => rw [hl] at h; simp [asB] at h
    · simp at h
theorem stepA_frame (e : Ext X H G) {call : FuncId → List V → Heap → Option R} (hc : FrameCall call) {r : Option Nat} (hr : ∀ i, r = some i → X i = none) {env : Env} {o : Op} {k : V → Heap → Option R} {res : R}
    (h : stepA P call r env o H k = some res) : ∃ v H1 G1, k v H1 = some res ∧ Ext X H1 G1 ∧ ∀ k' : V → Heap → Option R, stepA P call r env o G k' = k' v G1 := by
  unfold stepA at h ⊢
  split at h
  · split at h
    · rename_i z hz
      cases hb : boxA _ z with
      | none => simp [hb] at h
      | some q =>
        simp only [hb, bd_some] at h ⊢
        obtain ⟨h1, h2⟩ := newA_frame e hr q
        exact ⟨_, _, _, h, h2, fun k' => by rw [← h1]⟩
    · simp at h
  · rename_i t x
    cases hb : boxA t (opd env x) with
    | none => simp [hb] at h
    | some q =>
      simp only [hb, bd_some] at h ⊢
      obtain ⟨h1, h2⟩ := newA_frame e hr q
      exact ⟨_, _, _, h, h2, fun k' => by rw [← h1]⟩
  · split at h
    · rename_i t len ps _ el n by_ z he
      cases hb : bSl n el z len (ps.toList.map fun p => (p.1, opd env p.2)) with
      | none => simp [hb] at h
      | some q =>
        simp only [hb, bd_some] at h ⊢
        obtain ⟨h1, h2⟩ := newA_frame e hr q
        exact ⟨_, _, _, h, h2, fun k' => by rw [← h1]⟩
    · simp at h
  · split at h
    · obtain ⟨h1, h2⟩ := newA_frame e hr (.map [] 0)
      exact ⟨_, _, _, h, h2, fun k' => by rw [← h1]⟩
    · simp at h
  · split at h
    · rename_i t l c _ el n by_ z he
      cases hb : mkSl n by_ el z (opd env l) (opd env c) with
      | none => simp [hb] at h
      | some q =>
        simp only [hb, bd_some] at h ⊢
        obtain ⟨h1, h2⟩ := newA_frame e hr q.1
        exact ⟨_, _, _, h, h2, fun k' => by rw [← h1]⟩
    · simp at h
  · rename_i t a x
    split at h
    · rename_i n hs
      cases hb : stA n (opd env a) (opd env x) H with
      | none => simp [hb] at h
      | some H1 =>
        obtain ⟨G1, g1, g2⟩ := stA_frame e hb
        rw [hb] at h
        exact ⟨_, _, G1, h, g2, fun k' => by rw [g1] <;> rfl⟩
    · simp at h
  · rename_i t m i x
    cases hb : updA P t (opd env m) (opd env i) (opd env x) H with
    | none => simp [hb] at h
    | some H1 =>
      obtain ⟨G1, g1, g2⟩ := updA_frame e hb
      rw [hb] at h
      exact ⟨_, _, G1, h, g2, fun k' => by rw [g1] <;> rfl⟩
  · rename_i t m i x
    cases hb : updA P t (opd env m) (opd env i) (opd env x) H with
    | none => simp [hb] at h
    | some H1 =>
      obtain ⟨G1, g1, g2⟩ := updA_frame e hb
      rw [hb] at h
      exact ⟨_, _, G1, h, g2, fun k' => by rw [g1] <;> rfl⟩
  · rename_i t m i
    cases hb : entA P t (opd env m) (opd env i) H with
    | none => simp [hb] at h
    | some p =>
      obtain ⟨G1, g1, g2⟩ := entA_frame e hb
      rw [hb] at h
      exact ⟨_, _, G1, h, g2, fun k' => by rw [g1] <;> rfl⟩
  · rename_i t m s x
    cases hb : entStA (opd env m) (opd env s) (opd env x) H with
    | none => simp [hb] at h
    | some H1 =>
      obtain ⟨G1, g1, g2⟩ := entStA_frame e hb
      rw [hb] at h
      exact ⟨_, _, G1, h, g2, fun k' => by rw [g1] <;> rfl⟩
  · rename_i t x
    cases hb : rangeA P t (opd env x) H with
    | none => simp [hb] at h
    | some q =>
      have hb' := rangeA_up (P := P) e.up hb
      simp only [hb, hb', bd_some] at h ⊢
      obtain ⟨h1, h2⟩ := newA_frame e hr q
      exact ⟨_, _, _, h, h2, fun k' => by rw [← h1]⟩
  · rename_i x s
    cases hb : nextA (opd env x) s H with
    | none => simp [hb] at h
    | some p =>
      obtain ⟨G1, g1, g2⟩ := nextA_frame e hb
      rw [hb] at h
      exact ⟨_, _, G1, h, g2, fun k' => by rw [g1] <;> rfl⟩
  · rename_i f args ts
    unfold callV at h ⊢
    split at h
    · rename_i g first cap hf
      split at h
      case isFalse => simp at h
      rename_i hlt
      simp only [if_pos hlt]
      cases hb : call g (first ++ args.toList.map (opd env) ++ cap) H with
      | none => rw [hb] at h; simp at h
      | some p =>
        obtain ⟨G1, g1, g2⟩ := hc _ _ _ _ _ _ _ hb e
        rw [hb] at h
        exact ⟨_, _, G1, h, g2, fun k' => by rw [g1] <;> rfl⟩
    · rename_i j hf
      cases hb : call (yB + j) (args.toList.map (opd env)) H with
      | none => rw [hb] at h; simp at h
      | some p =>
        obtain ⟨G1, g1, g2⟩ := hc _ _ _ _ _ _ _ hb e
        rw [hb] at h
        exact ⟨_, _, G1, h, g2, fun k' => by rw [g1] <;> rfl⟩
    · simp at h
  · obtain ⟨v, H1, G1, h1, h2, h3⟩ := bltA_frame e h; exact ⟨v, H1, G1, h1, h2, h3⟩
  · obtain ⟨v, H1, G1, h1, h2, h3⟩ := bltA_frame e h; exact ⟨v, H1, G1, h1, h2, h3⟩
  · obtain ⟨v, H1, G1, h1, h2, h3⟩ := bltA_frame e h; exact ⟨v, H1, G1, h1, h2, h3⟩
  · obtain ⟨v, H1, G1, h1, h2, h3⟩ := bltA_frame e h; exact ⟨v, H1, G1, h1, h2, h3⟩
  · obtain ⟨v, H1, G1, h1, h2, h3⟩ := bltA_frame e h; exact ⟨v, H1, G1, h1, h2, h3⟩
  · cases hv : valA P env o H with
    | none => rw [hv] at h; simp at h
    | some v =>
      rw [hv] at h
      exact ⟨v, H, G, h, e, fun k' => by rw [valA_up e.up hv] <;> rfl⟩
def RX (X : Nat → Option O) (r r' : R) : Prop := r'.1 = r.1 ∧ Ext X r.2 r'.2
def KF (X : Nat → Option O) (k k' : Env → Heap → Option R) : Prop := ∀ env H G r, k env H = some r → Ext X H G → ∃ r', k' env G = some r' ∧ RX X r r'
def KX (X : Nat → Option O) (k k' : K) : Prop := ∀ x, KF X (k x) (k' x)
theorem runOps_frame {call : FuncId → List V → Heap → Option R} (hc : FrameCall call) {slot : Nat → Option Tmp} {k k' : Env → Heap → Option R} (hk : KF X k k') :
    ∀ {os : List Oper} {env : Env} {H G : Heap} {r : R}, runOps P call slot os env H k = some r → Ext X H G → ∃ r', runOps P call slot os env G k' = some r' ∧ RX X r r' := by
  intro os
  induction os with
  | nil => intro env H G r h e; exact hk _ _ _ _ h e
  | cons o os ih =>
    intro env H G r h e
    unfold runOps at h ⊢
    obtain ⟨env', b, h1, h2, _⟩ := guarded_spec h
    rw [h1]
    cases b with
    | true =>
      simp only [if_true] at h2 ⊢
      obtain ⟨v, H1, G1, g1, g2, g3⟩ := stepA_frame (P := P) e hc (r := none) (by simp) h2
      rw [g3]
      exact ih g1 g2
    | false =>
      simp only [Bool.false_eq_true, if_false] at h2 ⊢
      exact ih h2 e
theorem pastK_spec {env : Env} {o : Op} {v : V} {k : Option R} {r : R} : ∀ {Hs : List Heap}, pastK P env o v k Hs = some r → k = some r ∧ ∀ H ∈ Hs, chk (valA P env o H) v = some ()
  | [], h => ⟨h, by simp⟩
  | H :: Hs, h => by
    unfold pastK at h
    cases hc : chk (valA P env o H) v with
    | none => rw [hc] at h; simp at h
    | some u =>
      rw [hc] at h
      obtain ⟨h1, h2⟩ := pastK_spec h
      refine ⟨h1, ?_⟩
      intro H' hm
      rcases List.mem_cons.1 hm with rfl | hm
      · exact hc
      · exact h2 _ hm
theorem pastK_of {env : Env} {o : Op} {v : V} {k : Option R} : ∀ {Hs : List Heap}, (∀ H ∈ Hs, chk (valA P env o H) v = some ()) → pastK P env o v k Hs = k
  | [], _ => rfl
  | H :: Hs, h => by
    unfold pastK
    rw [h H (by simp)]
    exact pastK_of fun H' hm => h H' (by simp [hm])
def ExtL (X : Nat → Option O) : List Heap → List Heap → Prop
  | [], [] => True
  | H :: Hs, G :: Gs => Ext X H G ∧ ExtL X Hs Gs
  | _, _ => False
theorem ExtL.take : ∀ {Hs Gs : List Heap} (n : Nat), ExtL X Hs Gs → ExtL X (Hs.take n) (Gs.take n)
  | [], [], n, _ => by simp [ExtL]
  | H :: Hs, G :: Gs, 0, _ => by simp [ExtL]
  | H :: Hs, G :: Gs, n + 1, h => ⟨h.1, ExtL.take n h.2⟩
  | [], _ :: _, _, h => h.elim
  | _ :: _, [], _, h => h.elim
theorem chk_up {env : Env} {o : Op} {v : V} (u : Up H G) (h : chk (valA P env o H) v = some ()) : chk (valA P env o G) v = some () := by
  cases hv : valA P env o H with
  | none => rw [hv] at h; simp [chk] at h
  | some x => rw [valA_up u hv]; rw [hv] at h; exact h
theorem ExtL.chk {env : Env} {o : Op} {v : V} : ∀ {Hs Gs : List Heap}, ExtL X Hs Gs → (∀ H ∈ Hs, chk (valA P env o H) v = some ()) → ∀ G ∈ Gs, chk (valA P env o G) v = some ()
  | [], [], _, _ => by simp
  | H :: Hs, G :: Gs, h, k => by
    intro G' hm
    rcases List.mem_cons.1 hm with rfl | hm
    · exact chk_up h.1.up (k H (by simp))
    · exact ExtL.chk h.2 (fun H hm => k H (by simp [hm])) G' hm
  | [], _ :: _, h, _ => h.elim
  | _ :: _, [], h, _ => h.elim
theorem runD_frame {call : FuncId → List V → Heap → Option R} (hc : FrameCall call) {ops : Array Oper} {slot : Nat → Option Tmp} {base : Nat} (hX : ∀ i, base ≤ i → X i = none) {k k' : Env → Heap → Option R} (hk : KF X k k') :
    ∀ {ss : List DStep} {env : Env} {Hk Gk H G : Heap} {hist hist' : List Heap} {r : R}, runD P call ops slot base ss env Hk hist H k = some r → Ext X Hk Gk → ExtL X hist hist' → Ext X H G →
      ∃ r', runD P call ops slot base ss env Gk hist' G k' = some r' ∧ RX X r r' := by
  intro ss
  induction ss with
  | nil => intro env Hk Gk H G hist hist' r h _ _ e; exact hk _ _ _ _ h e
  | cons s ss ih =>
    intro env Hk Gk H G hist hist' r h ek el e
    unfold runD at h ⊢
    split at h
    · simp at h
    · rename_i o ho
      obtain ⟨env', b, h1, h2, _⟩ := guarded_spec h
      rw [h1]
      cases b with
      | true =>
        simp only [if_true] at h2 ⊢
        cases hkd : s.kd with
        | pure =>
          simp only [hkd] at h2 ⊢
          cases hv : valA P env' o.op ⟨0, .nil⟩ with
          | none => rw [hv] at h2; simp at h2
          | some v => rw [hv] at h2; exact ih h2 ek el e
        | read =>
          simp only [hkd] at h2 ⊢
          cases hv : valA P env' o.op Hk with
          | none => rw [hv] at h2; simp at h2
          | some v =>
            rw [hv] at h2
            rw [valA_up ek.up hv]
            obtain ⟨k1, k2⟩ := pastK_spec h2
            obtain ⟨r', r1, r2⟩ := ih k1 ek el e
            exact ⟨r', (pastK_of ((el.take s.past).chk k2)).trans r1, r2⟩
        | make =>
          simp only [hkd] at h2 ⊢
          obtain ⟨v, H1, G1, g1, g2, g3⟩ := stepA_frame (P := P) e hc (r := some (base + s.r)) (by rintro i ⟨rfl⟩; exact hX _ (by omega)) h2
          rw [g3]
          exact ih g1 ek el g2
        | eff =>
          simp only [hkd] at h2 ⊢
          obtain ⟨v, H1, G1, g1, g2, g3⟩ := stepA_frame (P := P) e hc (r := none) (by simp) h2
          rw [g3]
          exact ih g1 g2 ⟨ek, el⟩ g2
      | false =>
        simp only [Bool.false_eq_true, if_false] at h2 ⊢
        cases hkd : s.kd with
        | eff => simp only [hkd] at h2 ⊢; exact ih h2 e ⟨ek, el⟩ e
        | _ => simp only [hkd] at h2 ⊢; exact ih h2 ek el e
theorem regA_frame {call : FuncId → List V → Heap → Option R} (hc : FrameCall call) {ops : Array Oper} {draw : Bool} {k k' : Env → Heap → Option R} (hk : KF X k k') {env : Env} {r : R}
    (h : regA P call ops draw env H k = some r) (e : Ext X H G) : ∃ r', regA P call ops draw env G k' = some r' ∧ RX X r r' := by
  unfold regA at h ⊢
  split at h
  · rename_i hd
    rw [if_pos hd]
    split at h
    · rename_i m l hp
      have hX : ∀ i, H.n ≤ i → X i = none := by
        intro i hi
        cases hx : X i with
        | none => rfl
        | some o => have := (e.new i o hx).1; omega
      have := runD_frame (P := P) hc (base := H.n) hX hk h (e.more m) (hist' := []) trivial (e.more m)
      simpa only [e.n] using this
    · simp at h
  · rename_i hd
    rw [if_neg hd]
    exact runOps_frame hc hk h e
theorem kS_frame {f f' : Env → Heap → K → Option R} {L : Option (List Nat)} {k k' : K} (hk : KX X k k')
    (hf : ∀ env H G r, f env H k = some r → Ext X H G → ∃ r', f' env G k' = some r' ∧ RX X r r') : KX X (kS f L k) (kS f' L k') := by
  intro x env H G r h e
  cases x with
  | normal => exact hf _ _ _ _ h e
  | exit id => exact hk _ _ _ _ _ h e
  | ret => exact hk _ _ _ _ _ h e
theorem endA_frame {j : Nat} {env : Env} {k k' : K} (hk : KX X k k') {H G : Heap} {r : R} (h : endA j env H k = some r) (e : Ext X H G) : ∃ r', endA j env G k' = some r' ∧ RX X r r' := by
  unfold endA at h ⊢
  split at h
  · rename_i N st pend tab env' ps a b hg
    have hx := e.none hg (by simp)
    have hgG := (e.old j hx).trans hg
    simp only [hgG]
    have e2 := e.set hx .none
    split at h
    · cases h
    · split at h
      · exact hk _ _ _ _ _ h e2
      · exact hk _ _ _ _ _ h e2
      · exact hk _ _ _ _ _ h e2
      · cases h
  · cases h
theorem kY_frame {j : Nat} : KX X (kY j) (kY j) := by
  intro x env H G r h e
  unfold kY at h ⊢
  split at h
  · rename_i N st pend tab env' ps a b hg
    have hx := e.none hg (by simp)
    have hgG := (e.old j hx).trans hg
    simp only [hgG]
    cases x with
    | normal => simp at h; subst h; exact ⟨_, rfl, rfl, e.set hx _⟩
    | ret => simp at h; subst h; exact ⟨_, rfl, rfl, e.set hx _⟩
    | exit id => simp at h; subst h; exact ⟨_, rfl, rfl, e.set hx _⟩
  · cases h
theorem kG_frame {j : Nat} {run : Env → Heap → K → Option R} (hr : ∀ {k k' : K}, KX X k k' → ∀ {env : Env} {H G : Heap} {r : R}, run env H k = some r → Ext X H G → ∃ r', run env G k' = some r' ∧ RX X r r') : KX X (kG j run) (kG j run) := by
  intro x env H G r h e
  cases x with
  | exit id => cases h
  | ret => cases h
  | normal =>
    simp only [kG] at h ⊢
    split at h
    · rename_i N pend tab env' ps a b hg
      have hx := e.none hg (by simp)
      have hgG := (e.old j hx).trans hg
      simp only [hgG]
      exact hr kY_frame h (e.set hx _)
    · cases h
theorem exec_frame {call : FuncId → List V → Heap → Option R} (hc : FrameCall call) {tab : List (Nat × List Nat)} {N n : Nat} {ro : Option Nat} :
    ∀ (c : Code) {k k' : K}, KX X k k' → ∀ {env : Env} {H G : Heap} {r : R}, exec P call tab N ro n c env H k = some r → Ext X H G → ∃ r', exec P call tab N ro n c env G k' = some r' ∧ RX X r r' := by
  intro c
  induction c with
  | skip => intro k k' hk env H G r h e; exact hk _ _ _ _ _ h e
  | label l => intro k k' hk env H G r h e; exact hk _ _ _ _ _ h e
  | region id ops draw => intro k k' hk env H G r h e; unfold exec at h ⊢; exact regA_frame hc (hk _) h e
  | seq a b iha ihb =>
    intro k k' hk env H G r h e
    unfold exec at h ⊢
    exact iha (kS_frame (f := exec P call tab N ro n b) (f' := exec P call tab N ro n b) hk fun env H G r h e => ihb hk h e) h e
  | cond c a b iha ihb =>
    intro k k' hk env H G r h e
    unfold exec at h ⊢
    cases hb : asB (opd env c) with
    | none => rw [hb] at h; simp at h
    | some t =>
      rw [hb] at h
      cases t with
      | true => exact iha hk h e
      | false => exact ihb hk h e
  | block id c ih =>
    intro k k' hk env H G r h e
    unfold exec at h ⊢
    refine ih ?_ h e
    intro x env H G r h e
    cases x with
    | exit j =>
      simp only [kB] at h ⊢
      split at h
      · rename_i hj; rw [if_pos hj]; exact hk _ _ _ _ _ h e
      · rename_i hj; rw [if_neg hj]; exact hk _ _ _ _ _ h e
    | normal => exact hk _ _ _ _ _ h e
    | ret => exact hk _ _ _ _ _ h e
  | loop c ih =>
    intro k k' hk env H G r h e
    unfold exec at h ⊢
    have key : ∀ (m : Nat) {env : Env} {H G : Heap} {r : R}, loopA (exec P call tab N ro n c) (tabOf tab c) m env H k = some r → Ext X H G → ∃ r', loopA (exec P call tab N ro n c) (tabOf tab c) m env G k' = some r' ∧ RX X r r' := by
      intro m
      induction m with
      | zero => intro env H G r h e; simp [loopA] at h
      | succ m ihm =>
        intro env H G r h e
        unfold loopA at h ⊢
        exact ih (kS_frame (f := loopA (exec P call tab N ro n c) (tabOf tab c) m) (f' := loopA (exec P call tab N ro n c) (tabOf tab c) m) hk fun env H G r h e => ihm h e) h e
    exact key n h e
  | exit id => intro k k' hk env H G r h e; exact hk _ _ _ _ _ h e
  | ret => intro k k' hk env H G r h e; exact hk _ _ _ _ _ h e
  | rangeFunc f ps a b _ _ =>
    intro k k' hk env H G r h e
    unfold exec at h ⊢
    rw [e.n]
    have e1 := e.push (.loop N .ready none tab (keepR tab a b env) ps.toList a b)
    split at h
    · rename_i g fs cs hf
      split at h
      · rename_i hcond
        have hro : roOk ro G = true := by
          have h3 := hcond.2.2
          unfold roOk at h3 ⊢
          cases ro with
          | none => rfl
          | some j =>
            simp only at h3 ⊢
            split at h3
            · rename_i hg
              have hx := e.none hg (by simp)
              rw [(e.old j hx).trans hg]
            · cases h3
        rw [if_pos ⟨hcond.1, hcond.2.1, hro⟩]
        cases hb : call g (fs ++ [.yld H.n] ++ cs) (H.push (.loop N .ready none tab (keepR tab a b env) ps.toList a b)) with
        | none => rw [hb] at h; simp at h
        | some p =>
          rw [hb] at h
          obtain ⟨G1, g1, g2⟩ := hc _ _ _ _ _ _ _ hb e1
          rw [g1]
          exact endA_frame hk h g2
      · cases h
    · cases h
  | _ => intro k k' hk env H G r h e; simp [exec] at h
theorem resA_frame {env : Env} : ∀ {rs : List ResultVar} {k k' : List V → Option R} {r : R}, (∀ vs r, k vs = some r → ∃ r', k' vs = some r' ∧ RX X r r') → resA P env H rs k = some r → Ext X H G → ∃ r', resA P env G rs k' = some r' ∧ RX X r r'
  | [], k, k', r, hk, h, e => hk _ _ h
  | .tmp t :: rs, k, k', r, hk, h, e => by
    unfold resA at h ⊢
    exact resA_frame (fun vs r h => hk _ _ h) h e
  | .cell a t :: rs, k, k', r, hk, h, e => by
    unfold resA at h ⊢
    cases hv : loadA P t (lk a env) H with
    | none => rw [hv] at h; simp at h
    | some v =>
      rw [hv] at h
      rw [loadA_up e.up hv]
      exact resA_frame (fun vs r h => hk _ _ h) h e
theorem frzL_up {rc rc' : V → Option (V × List Nat)} (h0 : ∀ v r, rc v = some r → rc' v = some r) : ∀ {vs : List V} {r : List V × List Nat}, frzL rc vs = some r → frzL rc' vs = some r
  | [], r, h => h
  | v :: vs, r, h => by
    unfold frzL at h ⊢
    split at h
    · rename_i p hp
      rw [h0 _ _ hp]
      split at h
      · rename_i q hq
        rw [frzL_up h0 hq]; exact h
      · cases h
    · cases h
theorem frzV_up (u : Up H G) : ∀ (d : Nat) {v : V} {r : V × List Nat}, frzV H d v = some r → frzV G d v = some r
  | 0, v, r, h => by simp [frzV] at h
  | d + 1, v, r, h => by
    unfold frzV at h ⊢
    cases v with
    | slice s =>
      simp only at h ⊢
      split at h
      · rename_i h0; rw [if_pos h0]; exact h
      · rename_i h0
        rw [if_neg h0]
        split at h
        · cases h
        · rename_i i o hs
          split at h
          · rename_i cs e ro hg
            rw [u.get hg (by simp)]
            simp only
            split at h
            · rename_i hb
              rw [if_pos hb]
              split at h
              · rename_i p hp
                rw [frzL_up (fun v r h => frzV_up u d h) hp]; exact h
              · cases h
            · cases h
          · cases h
    | agg cs =>
      simp only at h ⊢
      split at h
      · rename_i p hp
        rw [frzL_up (fun v r h => frzV_up u d h) hp]; exact h
      · cases h
    | tuple cs =>
      simp only at h ⊢
      split at h
      · rename_i p hp
        rw [frzL_up (fun v r h => frzV_up u d h) hp]; exact h
      · cases h
    | _ => exact h
def AreThere (H : Heap) (ids : List Nat) : Prop := ∀ i ∈ ids, ∃ cs e ro, H.get i = .cells cs e ro
theorem frzL_ids {rc : V → Option (V × List Nat)} (h0 : ∀ v r, rc v = some r → AreThere H r.2) : ∀ {vs : List V} {r : List V × List Nat}, frzL rc vs = some r → AreThere H r.2
  | [], r, h => by simp [frzL] at h; subst h; intro i hi; cases hi
  | v :: vs, r, h => by
    unfold frzL at h
    split at h
    · rename_i p hp
      split at h
      · rename_i q hq
        simp at h; subst h
        intro i hi
        rcases List.mem_append.1 hi with hi | hi
        · exact h0 _ _ hp i hi
        · exact frzL_ids h0 hq i hi
      · cases h
    · cases h
theorem frzV_ids : ∀ (d : Nat) {v : V} {r : V × List Nat}, frzV H d v = some r → AreThere H r.2
  | 0, v, r, h => by simp [frzV] at h
  | d + 1, v, r, h => by
    unfold frzV at h
    cases v with
    | slice s =>
      simp only at h
      split at h
      · simp at h; subst h; intro i hi; cases hi
      · split at h
        · cases h
        · rename_i i o hs
          split at h
          · rename_i cs e ro hg
            split at h
            · split at h
              · rename_i p hp
                simp at h; subst h
                intro j hj
                rcases List.mem_cons.1 hj with rfl | hj
                · exact ⟨_, _, _, hg⟩
                · exact frzL_ids (fun v r h => frzV_ids d h) hp j hj
              · cases h
            · cases h
          · cases h
    | agg cs =>
      simp only at h
      split at h
      · rename_i p hp
        simp at h; subst h
        exact frzL_ids (fun v r h => frzV_ids d h) hp
      · cases h
    | tuple cs =>
      simp only at h
      split at h
      · rename_i p hp
        simp at h; subst h
        exact frzL_ids (fun v r h => frzV_ids d h) hp
      · cases h
    | _ => simp at h; subst h; intro i hi; cases hi
theorem fix_fix (o : O) : o.fix.fix = o.fix := by cases o <;> rfl
theorem fix_own (o : O) (h : o.fix.own = true) : o.own = true := by cases o <;> simp_all [O.fix, O.own]
theorem fix_live (o : O) (h : o.fix.live = true) : o.live = true := by cases o <;> simp_all [O.fix, O.live]
theorem killL_get : ∀ (ids : List Nat) (H : Heap) (j : Nat), (killL ids H).get j = if j ∈ ids then (H.get j).fix else H.get j
  | [], H, j => by simp [killL]
  | i :: ids, H, j => by
    simp only [killL, killL_get ids, Heap.get_set]
    by_cases h1 : j ∈ ids
    · by_cases h2 : j = i
      · subst h2; simp [h1, fix_fix]
      · simp [h1, h2]
    · by_cases h2 : j = i
      · subst h2; simp [h1]
      · simp [h1, h2]
theorem killL_n : ∀ (ids : List Nat) (H : Heap), (killL ids H).n = H.n
  | [], H => rfl
  | i :: ids, H => by simp [killL, killL_n ids]
theorem killL_frame (e : Ext X H G) {ids : List Nat} (h : AreThere H ids) : Ext X (killL ids H) (killL ids G) := by
  refine ⟨by rw [killL_n, killL_n, e.n], ?_, ?_⟩
  · intro i o hx
    have hi : ¬ i ∈ ids := by
      intro hi
      obtain ⟨cs, el, ro, hg⟩ := h i hi
      rw [e.none hg (by simp)] at hx; cases hx
    rw [killL_get, killL_get, killL_n, if_neg hi, if_neg hi]
    exact e.new i o hx
  · intro i hx
    rw [killL_get, killL_get, e.old i hx]
theorem frzR_frame (e : Ext X H G) {v : V} {r : R} (h : frzR v H = some r) : ∃ r', frzR v G = some r' ∧ RX X r r' := by
  unfold frzR at h ⊢
  split at h
  · rename_i p hp
    simp at h; subst h
    rw [frzV_up e.up 6 hp]
    exact ⟨_, rfl, rfl, killL_frame e (frzV_ids 6 hp)⟩
  · cases h
theorem frzAs_frame (e : Ext X H G) {args : List V} {r : List V × Heap} (h : frzAs args H = some r) : ∃ G', frzAs args G = some (r.1, G') ∧ Ext X r.2 G' := by
  unfold frzAs at h ⊢
  split at h
  · rename_i p hp
    simp at h; subst h
    rw [frzL_up (fun v r h => frzV_up e.up 6 h) hp]
    exact ⟨_, rfl, killL_frame e (frzL_ids (fun v r h => frzV_ids 6 h) hp)⟩
  · cases h
theorem kRet_frame {b : Bool} {rs : List ResultVar} : KX X (kRet P b rs) (kRet P b rs) := by
  intro x env H G r h e
  have key : resA P env H rs (fun vs => exitA b (oneV H vs)) = some r → ∃ r', resA P env G rs (fun vs => exitA b (oneV G vs)) = some r' ∧ RX X r r' := by
    intro h
    refine resA_frame ?_ h e
    intro vs r hx
    have one : ∀ r, oneV H vs = some r → ∃ r', oneV G vs = some r' ∧ r'.1 = r.1 ∧ r.2 = H ∧ r'.2 = G := by
      intro r h
      unfold oneV at h ⊢
      split at h
      · simp at h; subst h; exact ⟨_, rfl, rfl, rfl, rfl⟩
      · simp at h; subst h
        exact ⟨_, rfl, rfl, rfl, rfl⟩
    unfold exitA at hx ⊢
    cases hone : oneV H vs with
    | none => rw [hone] at hx; split at hx <;> cases hx
    | some q =>
      obtain ⟨q', h1, h2, h3, h4⟩ := one q hone
      rw [hone] at hx
      rw [h1]
      obtain ⟨v, H1⟩ := q
      obtain ⟨v', G1⟩ := q'
      simp only at h2 h3 h4 hx ⊢
      subst h2 h3 h4
      by_cases hb : b = true
      · rw [if_pos hb] at hx ⊢
        exact frzR_frame e hx
      · rw [if_neg hb] at hx ⊢
        simp at hx; subst hx
        exact ⟨_, rfl, rfl, e⟩
  cases x with
  | exit j => simp [kRet] at h
  | normal => exact key h
  | ret => exact key h
theorem callA_frame {C : Cfg} (hx : ∀ f g, C.ext f = some g → ∀ args H v H' X G, g args H = some (v, H') → Ext X H G → ∃ G', g args G = some (v, G') ∧ Ext X H' G') :
    ∀ n, FrameCall (callA C n) := by
  intro n
  induction n with
  | zero => intro f args H v H' X G h e; simp [callA] at h
  | succ n ih =>
    intro f args H v H' X G h e
    unfold callA at h ⊢
    by_cases hy : yB ≤ f
    · rw [if_pos hy] at h ⊢
      unfold yieldA at h ⊢
      split at h
      · rename_i N pend tab env ps a b hg
        have hxj := e.none hg (by simp)
        have hgG := (e.old _ hxj).trans hg
        simp only [hgG]
        split at h
        · rename_i hc
          rw [if_pos hc]
          obtain ⟨⟨v', G'⟩, h1, h2, h3⟩ := exec_frame ih a (kG_frame (j := f - yB) (run := exec C.P (callA C n) tab N (some (f - yB)) n b) (fun {k k'} hk {env H G r} h e => exec_frame ih b hk h e)) h e
          simp only at h2; subst h2
          exact ⟨G', h1, h3⟩
        · cases h
      · cases h
    rw [if_neg hy] at h ⊢
    split at h
    · rename_i g hg
      exact hx f g hg args H v H' X G h e
    · split at h
      · split at h
        · split at h
          · by_cases hp : C.pu f = true
            · rw [if_pos hp] at h ⊢
              unfold pureA at h ⊢
              split at h
              · rename_i p hp1
                obtain ⟨G1, g1, g2⟩ := frzAs_frame e hp1
                rw [g1]
                split at h
                · rename_i hf
                  simp only [if_pos hf]
                  split at h
                  · rename_i q hq
                    simp only [hq]
                    split at h
                    · rename_i hv
                      simp at h
                      obtain ⟨rfl, rfl⟩ := h
                      rw [if_pos hv]
                      exact ⟨G1, rfl, g2⟩
                    · cases h
                  · cases h
                · cases h
              · cases h
            rw [if_neg hp] at h ⊢
            unfold inA at h ⊢
            by_cases hb : C.fa f = true
            · rw [if_pos hb] at h ⊢
              split at h
              · rename_i p hp
                obtain ⟨G1, g1, g2⟩ := frzAs_frame e hp
                rw [g1]
                obtain ⟨⟨v', G'⟩, h1, h2, h3⟩ := exec_frame ih _ kRet_frame h g2
                simp only at h2; subst h2
                exact ⟨G', h1, h3⟩
              · cases h
            · rw [if_neg hb] at h ⊢
              obtain ⟨⟨v', G'⟩, h1, h2, h3⟩ := exec_frame ih _ kRet_frame h e
              simp only at h2; subst h2
              exact ⟨G', h1, h3⟩
          · simp at h
        · simp at h
      · simp at h
end
end Go.AM
end
section
set_option linter.unusedVariables false
set_option linter.unusedSimpArgs false
set_option linter.unusedSimpArgs false
namespace Go.AM
open Go.RowKit (Below)
section
variable {P : Program} {B n0 : Nat} {w0 w w' w'' : World} {μ μ' μ'' ν : Mu} {H H' H'' : Heap}
theorem map_congr {env env' : Env} {xs : Array Operand} (h : ∀ x ∈ xs, opd env x = opd env' x) : xs.toList.map (opd env) = xs.toList.map (opd env') :=
  List.map_congr_left fun x hx => h x (by simpa using hx)
theorem map_congr2 {env env' : Env} {ps : Array (Nat × Operand)} (h : ∀ x ∈ (ps.toList.map (·.2)).toArray, opd env x = opd env' x) :
    (ps.toList.map fun p => (p.1, opd env p.2)) = ps.toList.map fun p => (p.1, opd env' p.2) :=
  List.map_congr_left fun p hp => by rw [h p.2 (by simpa using ⟨p.1, by simpa using hp⟩)]
theorem omap_congr {env env' : Env} {x : Option Operand} (h : ∀ y ∈ x.toArray, opd env y = opd env' y) : x.map (opd env) = x.map (opd env') := by
  cases x with
  | none => rfl
  | some y => simp [h y (by simp)]
theorem valA_congr {env env' : Env} {o : Op} (h : ∀ x ∈ o.operands, opd env x = opd env' x) : valA P env o H = valA P env' o H := by
  cases o with
  | build t ps => simp only [valA, Op.operands] at *; rw [map_congr2 h]
  | makeFunc fn fs cs =>
    simp only [valA, Op.operands] at *
    rw [map_congr fun x hx => h x (by simp [hx]), map_congr (xs := cs) fun x hx => h x (by simp [hx])]
  | slice t x l hh m =>
    simp only [valA, Op.operands] at *
    rw [h x (by simp), omap_congr (x := l) fun y hy => h y (by simp at hy ⊢; simp [hy]), omap_congr (x := hh) fun y hy => h y (by simp at hy ⊢; simp [hy]), omap_congr (x := m) fun y hy => h y (by simp at hy ⊢; simp [hy])]
  | call c =>
    obtain ⟨callee, args, ts⟩ := c
    cases callee with
    | value f => rfl
    | invoke r m => rfl
    | builtin b =>
      simp only [Op.operands, Call.operands, Array.empty_append] at h
      have hm := map_congr h
      cases b <;> simp only [valA, hm]
      all_goals
        split
        · first
          | (rename_i x t hx ht
             rw [h x (by rw [← Array.mem_toList_iff, hx]; simp)])
          | (rename_i x hx
             rw [h x (by rw [← Array.mem_toList_iff, hx]; simp)])
        · rfl
  | _ =>
    simp only [Op.operands] at h
    simp only [valA]
    try first | rfl | (simp_all; done)
theorem stepA_congr {call : FuncId → List V → Heap → Option R} {r : Option Nat} {k : V → Heap → Option R} {env env' : Env} {o : Op} (h : ∀ x ∈ o.operands, opd env x = opd env' x) : stepA P call r env o H k = stepA P call r env' o H k := by
  cases o with
  | build t ps => simp only [stepA, valA_congr (P := P) (H := H) h]
  | buildSlice t len ps => simp only [stepA, Op.operands] at *; rw [map_congr2 h]
  | makeFunc fn fs cs => simp only [stepA, valA_congr (P := P) (H := H) h]
  | slice t x l hh m => simp only [stepA, valA_congr (P := P) (H := H) h]
  | call c =>
    obtain ⟨callee, args, ts⟩ := c
    cases callee with
    | value f =>
      simp only [Op.operands, Call.operands] at h
      simp only [stepA]
      rw [h f (by simp), map_congr (xs := args) fun x hx => h x (by simp [hx])]
    | invoke r m => simp only [stepA, valA_congr (P := P) (H := H) h]
    | builtin b =>
      have hv : valA P env _ H = valA P env' _ H := valA_congr (P := P) (H := H) h
      simp only [Op.operands, Call.operands, Array.empty_append] at h
      have hm := map_congr h
      cases b <;> simp only [stepA, hm, hv]
  | _ =>
    first
    | (simp only [stepA, valA_congr (P := P) (H := H) h]; done)
    | (simp only [Op.operands] at h
       simp only [stepA]
       try first | rfl | (simp_all; done))
structure St (dl : List Deferred) (N : Nat) (μ : Mu) (env : Env) (a : Act) : Prop where
  defers : a.defers = dl
  size : N ≤ a.tmps.size
  slot : ∀ t, VRel μ (lk t env) (a.tmps.getD t undef)
variable {N : Nat} {env env' : Env} {a : Act} {dl : List Deferred} {ro : Option Nat}
theorem opd_rel (h : ∀ t, VRel μ (lk t env) (a.tmps.getD t undef)) (x : Operand) : VRel μ (opd env x) (a.eval x) := by
  cases x with
  | tmp t => exact h t
  | const v => exact ofValue_rel μ v
  | global g => simp [opd, VRel]
  | func f => simp only [opd, Act.eval, VRel]; exact ⟨#[], #[], rfl, rfl, rfl, rfl⟩
theorem St.eval (h : St dl N μ env a) (x : Operand) : VRel μ (opd env x) (a.eval x) := opd_rel h.slot x
theorem St.mono (h : St dl N μ env a) (hm : μ.le μ') : St dl N μ' env a := ⟨h.defers, h.size, fun t => VRel.mono hm _ _ (h.slot t)⟩
theorem St.congr (h : St dl N μ env a) (he : ∀ t, lk t env' = lk t env) : St dl N μ env' a := ⟨h.defers, h.size, fun t => by rw [he]; exact h.slot t⟩
theorem getD_set {xs : Array Value} {d t : Nat} {x u : Value} (hd : d < xs.size) : (xs.setIfInBounds d x).getD t u = if t = d then x else xs.getD t u := by
  simp only [Array.getD_eq_getD_getElem?, Array.getElem?_setIfInBounds]
  by_cases h : d = t
  · subst h; simp [hd]
  · rw [if_neg h, if_neg (Ne.symm h)]
theorem St.put (h : St dl N μ env a) {dst : Option Tmp} (hd : ∀ d, dst = some d → d < N) {v : V} {x : Value} (hv : VRel μ v x) : St dl N μ (putV dst v env) (a.put dst x) := by
  cases dst with
  | none => exact h
  | some d =>
    have hlt : d < a.tmps.size := Nat.lt_of_lt_of_le (hd d rfl) h.size
    refine ⟨h.defers, by simp [Act.put, h.size], ?_⟩
    intro t
    simp only [putV, lk, Act.put, getD_set hlt]
    split
    · exact hv
    · exact h.slot t
theorem keep_lk (L : Option (List Nat)) (t : Nat) : lk t (keep L env) = lk t env ∨ lk t (keep L env) = .dead := by
  cases L with
  | none => exact .inl rfl
  | some l =>
    simp only [keep]
    induction l with
    | nil => exact .inr rfl
    | cons u l ih =>
      simp only [List.map_cons, lk]
      split
      · rename_i hu; subst hu; exact .inl rfl
      · exact ih
theorem St.keep (h : St dl N μ env a) (L : Option (List Nat)) : St dl N μ (keep L env) a := by
  refine ⟨h.defers, h.size, fun t => ?_⟩
  rcases keep_lk (env := env) L t with e | e
  · rw [e]; exact h.slot t
  · rw [e]; simp [VRel]
theorem wanted_spec {ops : Array Oper} {o : Oper} {b : Bool} (h : ∀ t, VRel μ (lk t env) (a.tmps.getD t undef)) (h0 : o.guard = none → b = true)
    (h1 : ∀ j want, o.guard = some (j, want) → ∃ t, (ops[j]?).bind (·.dst) = some t ∧ GV (lk t env) want b) : Region.wanted o (yielded ops a.tmps) = b := by
  unfold Region.wanted
  cases hg : o.guard with
  | none => exact (h0 hg).symm
  | some gw =>
    obtain ⟨j, want⟩ := gw
    obtain ⟨t, ht, ⟨c, hl, hb⟩ | ⟨hl, hb⟩⟩ := h1 j want hg
    · have hv := h t
      rw [hl] at hv
      simp only [VRel] at hv
      have hlt : a.tmps[t]? = some (.bool c) := by
        rw [Array.getD_eq_getD_getElem?] at hv
        cases ha : a.tmps[t]? with
        | none => rw [ha] at hv; simp [undef] at hv
        | some y => rw [ha] at hv; simp at hv; rw [hv]
      simp only [yielded, ht, Option.bind_some, hlt]
      subst hb
      cases c <;> cases want <;> rfl
    · have hv := h t
      rw [hl] at hv
      simp only [VRel] at hv
      obtain ⟨q, e, hq⟩ := hv
      have hlt : a.tmps[t]? = none ∨ ∃ q, a.tmps[t]? = some (.tuple q) := by
        rw [Array.getD_eq_getD_getElem?] at e
        cases ha : a.tmps[t]? with
        | none => exact .inl rfl
        | some y => rw [ha] at e; simp at e; exact .inr ⟨q, by rw [e]⟩
      subst hb
      rcases hlt with hlt | ⟨q, hlt⟩ <;> simp only [yielded, ht, Option.bind_some, hlt] <;> cases want <;> rfl
def okDst (N : Nat) (o : Oper) : Bool := match o.dst with
  | some d => decide (d < N)
  | none => true
theorem okDst_spec {o : Oper} (h : okDst N o = true) : ∀ d, o.dst = some d → d < N := by
  intro d hd
  simpa [okDst, hd] using h
theorem valA_nd {env : Env} {o : Op} {H : Heap} {v : V} (h : valA P env o H = some v) : ∀ c, o ≠ .defer c := by
  intro c e; subst e; simp [valA] at h
theorem stepA_nd {call : FuncId → List V → Heap → Option R} {r : Option Nat} {env : Env} {o : Op} {H : Heap} {k : V → Heap → Option R} {res : R} (h : stepA P call r env o H k = some res) : ∀ c, o ≠ .defer c := by
  intro c e; subst e; simp [stepA, valA] at h
theorem runOps_sound {call : FuncId → List V → Heap → Option R} (hc : CallSound P call) {ops : Array Oper} {Q : Exit → Act → World → Prop} {k : Env → Heap → Option R} {res : R} :
    ∀ (os : List Oper) (i : Nat) (env : Env) (H : Heap) (μ : Mu) (a : Act) (w : World), ops.toList.drop i = os → (∀ o ∈ os, okDst N o = true) → runOps P call (fun j => (ops[j]?).bind (·.dst)) os env H k = some res →
      Rel B w0 μ H w → n0 ≤ H.n → St dl N μ env a →
      (∀ a' w' env' H' μ', Step B w0 n0 μ H w μ' H' w' → St dl N μ' env' a' → k env' H' = some res → Q .normal a' w') → wpOpsIn (FR ro) 0 P ops Q (List.range' i (ops.size - i)) a w := by
  intro os
  induction os with
  | nil =>
    intro i env H μ a w hd _ h hr hn hst hk
    have : ops.size ≤ i := by
      have := congrArg List.length hd
      simp at this; omega
    rw [show ops.size - i = 0 by omega]
    simp only [List.range'_zero, wpOpsIn]
    exact hk a w env H μ (Step.refl hr) hst h
  | cons o os ih =>
    intro i env H μ a w hd hok h hr hn hst hk
    have hlt : i < ops.size := by
      have := congrArg List.length hd
      simp at this; omega
    have ho : ops[i]? = some o := by
      have : (ops.toList.drop i)[0]? = some o := by rw [hd]; rfl
      simpa using this
    have hd' : ops.toList.drop (i + 1) = os := by
      have := congrArg List.tail hd
      simpa [List.tail_drop] using this
    rw [show ops.size - i = (ops.size - (i + 1)) + 1 by omega, List.range'_succ]
    simp only [wpOpsIn, ho]
    unfold runOps at h
    obtain ⟨env', b, _, h2, h3, h4, h5⟩ := guarded_spec h
    have hw := wanted_spec (ops := ops) (o := o) hst.slot (fun e => (h4 e).1) h5
    have hst' := hst.congr h3
    rw [hw]
    have hdo := okDst_spec (hok o (by simp))
    cases b with
    | true =>
      simp only [if_true] at h2 ⊢
      refine ⟨fun _ _ => trivial, ?_⟩
      obtain ⟨v, H1, g1, g2⟩ := stepA_sound (P := P) (n0 := n0) hc hr (r := none) hn hst'.eval h2
      rw [Oper.semAt_eq _ _ _ (stepA_nd h2)]
      refine g2.upon ?_
      rintro x w1 ⟨μ1, s1, hv⟩
      exact ih (i + 1) _ H1 μ1 _ w1 hd' (fun o ho => hok o (by simp [ho])) g1 s1.rel (Nat.le_trans hn s1.n) ((hst'.mono s1.le).put hdo hv)
        (fun a' w' env'' H' μ' s hs hk' => hk a' w' env'' H' μ' (s1.trans s) hs hk')
    | false =>
      simp only [Bool.false_eq_true, if_false] at h2 ⊢
      exact ⟨fun _ _ => trivial, ih (i + 1) _ H μ _ w hd' (fun o ho => hok o (by simp [ho])) h2 hr hn ((hst'.put hdo VRel.unit).congr lk_putN) hk⟩
end
end Go.AM
end
section
set_option linter.unusedVariables false
set_option linter.unusedSimpArgs false
set_option linter.unusedSimpArgs false
namespace Go.AM
open Go.RowKit (Below)
def nodupB : List Nat → Bool
  | [] => true
  | x :: xs => !xs.contains x && nodupB xs
def okOrd (b : Array Nat) : List DStep → Bool
  | [] => true
  | s :: ss => (s :: ss).all (fun u => !(b.getD s.i 0).testBit u.i) && okOrd b ss
def okEff (b : Array Nat) : List DStep → List DStep → Bool
  | _, [] => true
  | prev, s :: ss => (!decide (s.kd = .eff) || prev.all fun u => (b.getD s.i 0).testBit u.i) && okEff b (s :: prev) ss
def okRead (b : Array Nat) : List Nat → List DStep → Bool
  | _, [] => true
  | efs, s :: ss => (!decide (s.kd = .read) || (efs.drop s.past).all fun e => (b.getD s.i 0).testBit e) && okRead b (if s.kd = .eff then s.i :: efs else efs) ss
def okWr (ops : Array Oper) (b : Array Nat) : Bool :=
  (List.range ops.size).all fun j => match (ops.getD j default).dst with
    | none => true
    | some t => (List.range ops.size).all fun i => !((ops.getD i default).looksAt ops).contains t || ((b.getD i 0).testBit j || (b.getD j 0).testBit i)
def mkR (l : List DStep) : List Nat := l.filterMap fun s => if s.kd = .make then some s.r else none
def planOk (P : Program) (ops : Array Oper) (m : Nat) (l : List DStep) : Bool :=
  let b := aheadOf ops
  (List.range ops.size).all (fun i => l.any fun s => s.i == i) && nodupB (l.map (·.i)) &&
  l.all (fun s => decide (s.i < ops.size) && decide (s.kd = kind P (ops.getD s.i default).op)) &&
  okOrd b l && okWr ops b && nodupB (ops.toList.filterMap (·.dst)) && okEff b [] l && okRead b [] l &&
  nodupB (mkR l) && (mkR l).all (fun r => decide (r < m)) &&
  (List.range ops.size).all fun i => (ops.getD i default).after.all fun e => !Region.binds .any e || decide (e.on < i)
def cntE (l : List DStep) (p : Nat) : Nat := (l.take p).countP fun s => decide (s.kd = .eff)
structure PlanOk (P : Program) (ops : Array Oper) (m : Nat) (l : List DStep) : Prop where
  all : ∀ i : Nat, i < ops.size → ∃ (p : Nat) (s : DStep), l[p]? = some s ∧ s.i = i
  inj : ∀ (p q : Nat) (s u : DStep), l[p]? = some s → l[q]? = some u → s.i = u.i → p = q
  op : ∀ (p : Nat) (s : DStep), l[p]? = some s → ∃ o : Oper, ops[s.i]? = some o ∧ s.kd = kind P o.op
  ord : ∀ (p q : Nat) (s u : DStep), l[p]? = some s → l[q]? = some u → ((aheadOf ops).getD s.i 0).testBit u.i = true → q < p
  wr : ∀ (i j : Nat) (oi oj : Oper) (t : Tmp), ops[i]? = some oi → ops[j]? = some oj → oj.dst = some t → t ∈ oi.looksAt ops → ((aheadOf ops).getD i 0).testBit j = true ∨ ((aheadOf ops).getD j 0).testBit i = true
  dst : ∀ (i j : Nat) (oi oj : Oper) (t : Tmp), ops[i]? = some oi → ops[j]? = some oj → oi.dst = some t → oj.dst = some t → i = j
  eff : ∀ (p q : Nat) (s u : DStep), p < q → l[p]? = some s → l[q]? = some u → u.kd = .eff → ((aheadOf ops).getD u.i 0).testBit s.i = true
  read : ∀ (p : Nat) (s : DStep), l[p]? = some s → s.kd = .read → ∀ (q : Nat) (u : DStep), q < p → l[q]? = some u → u.kd = .eff → ((aheadOf ops).getD s.i 0).testBit u.i = true ∨ cntE l p - cntE l q ≤ s.past
  makeInj : ∀ (p q : Nat) (s u : DStep), l[p]? = some s → l[q]? = some u → s.kd = .make → u.kd = .make → s.r = u.r → p = q
  makeLt : ∀ (p : Nat) (s : DStep), l[p]? = some s → s.kd = .make → s.r < m
  edge : ∀ (i : Nat) (o : Oper), ops[i]? = some o → ∀ e ∈ o.after, Region.binds .any e = true → e.on < i
theorem nodupB_get : ∀ {xs : List Nat}, nodupB xs = true → ∀ {p q : Nat} {x : Nat}, xs[p]? = some x → xs[q]? = some x → p = q
  | [], _, p, q, x, h, _ => by simp at h
  | y :: ys, hn, p, q, x, h1, h2 => by
    simp only [nodupB, Bool.and_eq_true, Bool.not_eq_true', List.contains_eq_mem, decide_eq_false_iff_not] at hn
    cases p with
    | zero =>
      cases q with
      | zero => rfl
      | succ q =>
        simp at h1 h2; subst h1
        exact absurd (List.mem_of_getElem? h2) hn.1
    | succ p =>
      cases q with
      | zero =>
        simp at h1 h2; subst h2
        exact absurd (List.mem_of_getElem? h1) hn.1
      | succ q => simp at h1 h2; rw [nodupB_get hn.2 h1 h2]
theorem okOrd_spec {b : Array Nat} : ∀ {l : List DStep}, okOrd b l = true → ∀ {p q : Nat} {s u : DStep}, l[p]? = some s → l[q]? = some u → (b.getD s.i 0).testBit u.i = true → q < p
  | [], _, p, q, s, u, h, _, _ => by simp at h
  | x :: l, ho, p, q, s, u, h1, h2, hb => by
    simp only [okOrd, Bool.and_eq_true, List.all_eq_true] at ho
    cases p with
    | zero =>
      simp at h1; subst h1
      have := ho.1 u (List.mem_of_getElem? h2)
      rw [hb] at this; simp at this
    | succ p =>
      cases q with
      | zero => omega
      | succ q =>
        simp at h1 h2
        have := okOrd_spec ho.2 h1 h2 hb
        omega
theorem okEff_spec {b : Array Nat} : ∀ {l prev : List DStep}, okEff b prev l = true → ∀ {q : Nat} {u : DStep}, l[q]? = some u → u.kd = .eff →
    (∀ s ∈ prev, (b.getD u.i 0).testBit s.i = true) ∧ ∀ (p : Nat) (s : DStep), p < q → l[p]? = some s → (b.getD u.i 0).testBit s.i = true
  | [], prev, _, q, u, h, _ => by simp at h
  | x :: l, prev, ho, q, u, h, hk => by
    simp only [okEff, Bool.and_eq_true, Bool.or_eq_true, Bool.not_eq_true', decide_eq_false_iff_not, List.all_eq_true] at ho
    cases q with
    | zero =>
      simp at h; subst h
      refine ⟨(ho.1).resolve_left (by simp [hk]), ?_⟩
      intro p s hp; omega
    | succ q =>
      simp at h
      obtain ⟨h1, h2⟩ := okEff_spec ho.2 h hk
      refine ⟨fun s hs => h1 s (by simp [hs]), ?_⟩
      intro p s hp hs
      cases p with
      | zero => simp at hs; subst hs; exact h1 _ (by simp)
      | succ p => simp at hs; exact h2 p s (by omega) hs
theorem okRead_spec {b : Array Nat} : ∀ {l : List DStep} {efs : List Nat}, okRead b efs l = true → ∀ {p : Nat} {s : DStep}, l[p]? = some s → s.kd = .read →
    (∀ (j e : Nat), efs[j]? = some e → (b.getD s.i 0).testBit e = true ∨ j + cntE l p < s.past) ∧
    ∀ (q : Nat) (u : DStep), q < p → l[q]? = some u → u.kd = .eff → (b.getD s.i 0).testBit u.i = true ∨ cntE l p - cntE l q ≤ s.past
  | [], efs, _, p, s, h, _ => by simp at h
  | x :: l, efs, ho, p, s, h, hk => by
    simp only [okRead, Bool.and_eq_true, Bool.or_eq_true, Bool.not_eq_true', decide_eq_false_iff_not, List.all_eq_true] at ho
    cases p with
    | zero =>
      simp at h; subst h
      have h1 := (ho.1).resolve_left (by simp [hk])
      refine ⟨?_, fun q u hq => by omega⟩
      intro j e he
      by_cases hj : j < x.past
      · exact .inr (by simp [cntE]; omega)
      · refine .inl (h1 e ?_)
        refine List.mem_of_getElem? (i := j - x.past) ?_
        rw [List.getElem?_drop, show x.past + (j - x.past) = j by omega]; exact he
    | succ p =>
      simp at h
      obtain ⟨h1, h2⟩ := okRead_spec ho.2 h hk
      have hc : cntE (x :: l) (p + 1) = cntE l p + if x.kd = .eff then 1 else 0 := by simp [cntE, List.countP_cons]
      refine ⟨?_, ?_⟩
      · intro j e he
        by_cases hx : x.kd = .eff
        · rw [if_pos hx] at h1 hc
          rcases h1 (j + 1) e (by simpa using he) with h | h
          · exact .inl h
          · exact .inr (by omega)
        · rw [if_neg hx] at h1 hc
          rcases h1 j e he with h | h
          · exact .inl h
          · exact .inr (by omega)
      · intro q u hq hu hku
        cases q with
        | zero =>
          simp at hu; subst hu
          rw [if_pos hku] at h1 hc
          rcases h1 0 x.i (by simp) with h | h
          · exact .inl h
          · exact .inr (by rw [hc]; simp [cntE] at h ⊢; omega)
        | succ q =>
          simp at hu
          have hc2 : cntE (x :: l) (q + 1) = cntE l q + if x.kd = .eff then 1 else 0 := by simp [cntE, List.countP_cons]
          rcases h2 q u (by omega) hu hku with h | h
          · exact .inl h
          · exact .inr (by omega)
theorem mkR_inj : ∀ {l : List DStep}, nodupB (mkR l) = true → ∀ {p q : Nat} {s u : DStep}, l[p]? = some s → l[q]? = some u → s.kd = .make → u.kd = .make → s.r = u.r → p = q
  | [], _, p, q, s, u, h, _, _, _, _ => by simp at h
  | x :: l, hn, p, q, s, u, h1, h2, k1, k2, hr => by
    have hmem : ∀ {q : Nat} {u : DStep}, l[q]? = some u → u.kd = .make → u.r ∈ mkR l := by
      intro q u h k
      exact List.mem_filterMap.2 ⟨u, List.mem_of_getElem? h, by simp [k]⟩
    by_cases hx : x.kd = .make
    · simp only [mkR, List.filterMap_cons, hx, if_true, nodupB, Bool.and_eq_true, Bool.not_eq_true', List.contains_eq_mem, decide_eq_false_iff_not] at hn
      cases p with
      | zero =>
        simp at h1; subst h1
        cases q with
        | zero => rfl
        | succ q => simp at h2; exact absurd (hr ▸ hmem h2 k2) hn.1
      | succ p =>
        simp at h1
        cases q with
        | zero => simp at h2; subst h2; exact absurd (hr ▸ hmem h1 k1) hn.1
        | succ q => simp at h2; rw [mkR_inj hn.2 h1 h2 k1 k2 hr]
    · simp only [mkR, List.filterMap_cons, hx, if_false] at hn
      cases p with
      | zero => simp at h1; subst h1; exact absurd k1 hx
      | succ p =>
        cases q with
        | zero => simp at h2; subst h2; exact absurd k2 hx
        | succ q => simp at h1 h2; rw [mkR_inj hn h1 h2 k1 k2 hr]
theorem filterMap_inj {ops : List Oper} (hn : nodupB (ops.filterMap (·.dst)) = true) : ∀ {i j : Nat} {oi oj : Oper} {t : Tmp}, ops[i]? = some oi → ops[j]? = some oj → oi.dst = some t → oj.dst = some t → i = j := by
  induction ops with
  | nil => intro i j oi oj t h; simp at h
  | cons x xs ih =>
    intro i j oi oj t h1 h2 d1 d2
    have hmem : ∀ {q : Nat} {u : Oper}, xs[q]? = some u → u.dst = some t → t ∈ xs.filterMap (·.dst) := by
      intro q u h k
      exact List.mem_filterMap.2 ⟨u, List.mem_of_getElem? h, k⟩
    cases hx : x.dst with
    | none =>
      simp only [List.filterMap_cons, hx] at hn
      cases i with
      | zero => simp at h1; subst h1; rw [hx] at d1; cases d1
      | succ i =>
        cases j with
        | zero => simp at h2; subst h2; rw [hx] at d2; cases d2
        | succ j => simp at h1 h2; rw [ih hn h1 h2 d1 d2]
    | some t' =>
      simp only [List.filterMap_cons, hx, nodupB, Bool.and_eq_true, Bool.not_eq_true', List.contains_eq_mem, decide_eq_false_iff_not] at hn
      cases i with
      | zero =>
        simp at h1; subst h1
        rw [hx] at d1; cases d1
        cases j with
        | zero => rfl
        | succ j => simp at h2; exact absurd (hmem h2 d2) hn.1
      | succ i =>
        cases j with
        | zero => simp at h1 h2; subst h2; rw [hx] at d2; cases d2; exact absurd (hmem h1 d1) hn.1
        | succ j => simp at h1 h2; rw [ih hn.2 h1 h2 d1 d2]
theorem getD_of {ops : Array Oper} {i : Nat} {o : Oper} (h : ops[i]? = some o) : ops.getD i default = o := by
  rw [Array.getD_eq_getD_getElem?, h]; rfl
theorem planOk_spec {P : Program} {ops : Array Oper} {m : Nat} {l : List DStep} (h : planOk P ops m l = true) : PlanOk P ops m l := by
  simp only [planOk, Bool.and_eq_true] at h
  obtain ⟨⟨⟨⟨⟨⟨⟨⟨⟨⟨h1, h2⟩, h3⟩, h4⟩, h5⟩, h6⟩, h7⟩, h8⟩, h9⟩, h10⟩, h11⟩ := h
  refine ⟨?_, ?_, ?_, fun p q s u a b c => okOrd_spec h4 a b c, ?_, ?_, fun p q s u a b c d => (okEff_spec h7 c d).2 p s a b, fun p s a b => (okRead_spec h8 a b).2, fun p q s u a b c d e => mkR_inj h9 a b c d e, ?_, ?_⟩
  · intro i hi
    simp only [List.all_eq_true, List.mem_range, List.any_eq_true, beq_iff_eq] at h1
    obtain ⟨s, hs, e⟩ := h1 i hi
    obtain ⟨p, hp⟩ := List.getElem?_of_mem hs
    exact ⟨p, s, hp, e⟩
  · intro p q s u a b e
    exact nodupB_get h2 (x := s.i) (by simp [a]) (by simp [b, e])
  · intro p s a
    simp only [List.all_eq_true, Bool.and_eq_true, decide_eq_true_eq] at h3
    obtain ⟨k1, k2⟩ := h3 s (List.mem_of_getElem? a)
    refine ⟨ops[s.i], Array.getElem?_eq_getElem k1, ?_⟩
    rw [k2, getD_of (Array.getElem?_eq_getElem k1)]
  · intro i j oi oj t a b c d
    simp only [okWr, List.all_eq_true, List.mem_range] at h5
    have hi := (Array.getElem?_eq_some_iff.1 a).1
    have hj := (Array.getElem?_eq_some_iff.1 b).1
    have := h5 j hj
    rw [getD_of b, c] at this
    simp only [List.all_eq_true, List.mem_range, Bool.or_eq_true, Bool.not_eq_true', List.contains_eq_mem, decide_eq_false_iff_not] at this
    have := this i hi
    rw [getD_of a] at this
    exact this.resolve_left (by simpa using d)
  · intro i j oi oj t a b c d
    exact filterMap_inj h6 (i := i) (j := j) (by simpa using a) (by simpa using b) c d
  · intro p s a b
    simp only [List.all_eq_true, decide_eq_true_eq] at h10
    exact h10 s.r (List.mem_filterMap.2 ⟨s, List.mem_of_getElem? a, by simp [b]⟩)
  · intro i o a e he hb
    simp only [List.all_eq_true, List.mem_range] at h11
    have hi := (Array.getElem?_eq_some_iff.1 a).1
    have := h11 i hi
    rw [getD_of a, Array.all_eq_true_iff_forall_mem] at this
    have := this e he
    simpa [hb] using this
theorem before_go (g : Array Nat → Oper → Nat) : ∀ (os : List Oper) (acc : Array Nat), let r := os.foldl (fun acc o => acc.push (g acc o)) acc
    r.size = acc.size + os.length ∧ (∀ j, j < acc.size → r.getD j 0 = acc.getD j 0) ∧
    ∀ (i : Nat) (o : Oper), os[i]? = some o → ∃ a : Array Nat, a.size = acc.size + i ∧ (∀ j, j < acc.size + i → a.getD j 0 = r.getD j 0) ∧ r.getD (acc.size + i) 0 = g a o
  | [], acc => by simp
  | o :: os, acc => by
    obtain ⟨h1, h2, h3⟩ := before_go g os (acc.push (g acc o))
    simp only [List.foldl_cons]
    refine ⟨by rw [h1]; simp; omega, ?_, ?_⟩
    · intro j hj
      rw [h2 j (by simp; omega)]
      simp [Array.getD_eq_getD_getElem?, Array.getElem?_push, show j ≠ acc.size by omega]
    · intro i p hp
      cases i with
      | zero =>
        simp at hp; subst hp
        refine ⟨acc, by simp, ?_, ?_⟩
        · intro j hj
          rw [h2 j (by simp; omega)]
          simp [Array.getD_eq_getD_getElem?, Array.getElem?_push, show j ≠ acc.size by omega]
        · rw [h2 _ (by simp)]
          simp [Array.getD_eq_getD_getElem?]
      | succ i =>
        simp at hp
        obtain ⟨a, a1, a2, a3⟩ := h3 i p hp
        refine ⟨a, by rw [a1]; simp; omega, fun j hj => a2 j (by simp; omega), ?_⟩
        rw [← a3]; congr 1; simp; omega
theorem fold_bits {acc : Array Nat} : ∀ (es : List Edge) (s j : Nat), (es.foldl (fun s e => if Region.binds .any e then s ||| 2 ^ e.on ||| acc.getD e.on 0 else s) s).testBit j = true →
    s.testBit j = true ∨ ∃ e ∈ es, Region.binds .any e = true ∧ (j = e.on ∨ (acc.getD e.on 0).testBit j = true)
  | [], s, j, h => .inl h
  | e :: es, s, j, h => by
    simp only [List.foldl_cons] at h
    rcases fold_bits es _ j h with h | ⟨e', h1, h2⟩
    · split at h
      · rename_i hb
        rw [Nat.testBit_or, Nat.testBit_or, Bool.or_eq_true, Bool.or_eq_true] at h
        rcases h with (h | h) | h
        · exact .inl h
        · rw [Nat.testBit_two_pow] at h
          exact .inr ⟨e, by simp, hb, .inl (by simpa using (of_decide_eq_true h).symm)⟩
        · exact .inr ⟨e, by simp, hb, .inr h⟩
      · exact .inl h
    · exact .inr ⟨e', by simp [h1], h2⟩
theorem before_spec {ops : Array Oper} {i : Nat} {o : Oper} (ho : ops[i]? = some o) {j : Nat} (h : ((aheadOf ops).getD i 0).testBit j = true) :
    ∃ e ∈ o.after, Region.binds .any e = true ∧ (j = e.on ∨ (e.on < i ∧ ((aheadOf ops).getD e.on 0).testBit j = true)) := by
  obtain ⟨_, _, h3⟩ := before_go (fun acc o => o.after.foldl (fun s e => if Region.binds .any e then s ||| 2 ^ e.on ||| acc.getD e.on 0 else s) 0) ops.toList #[]
  obtain ⟨a, a1, a2, a3⟩ := h3 i o (by simpa using ho)
  have hb : aheadOf ops = ops.toList.foldl (fun acc o => acc.push (o.after.foldl (fun s e => if Region.binds .any e then s ||| 2 ^ e.on ||| acc.getD e.on 0 else s) 0)) #[] := by
    unfold aheadOf Region.before
    rw [← Array.foldl_toList]
  rw [hb] at h ⊢
  simp only [List.size_toArray, List.length_nil, Nat.zero_add] at a1 a2 a3
  have a3' := a3
  rw [a3'] at h
  rw [← Array.foldl_toList] at h
  rcases fold_bits _ _ _ h with h | ⟨e, e1, e2, e3⟩
  · simp at h
  · refine ⟨e, by simpa using e1, e2, ?_⟩
    rcases e3 with e3 | e3
    · exact .inl e3
    · have hlt : e.on < i := by
        rcases Nat.lt_or_ge e.on i with h | h
        · exact h
        · rw [Array.getD_eq_getD_getElem?, Array.getElem?_eq_none (by omega)] at e3
          simp at e3
      refine .inr ⟨hlt, ?_⟩
      rw [← a2 _ hlt]; exact e3
def Closed (ops : Array Oper) (D : Nat → Prop) : Prop := ∀ (i : Nat) (o : Oper), ops[i]? = some o → D i → ∀ e ∈ o.after, Region.binds .any e = true → D e.on
theorem Closed.before {ops : Array Oper} {D : Nat → Prop} (hD : Closed ops D) (hlt : ∀ i, D i → i < ops.size) : ∀ (i : Nat) (o : Oper), ops[i]? = some o → (∀ e ∈ o.after, Region.binds .any e = true → D e.on) →
    ∀ j, ((aheadOf ops).getD i 0).testBit j = true → D j := by
  intro i
  induction i using Nat.strongRecOn with
  | _ i ih =>
    intro o ho he j hj
    obtain ⟨e, h1, h2, h3⟩ := before_spec ho hj
    have hd := he e h1 h2
    rcases h3 with rfl | ⟨h3, h4⟩
    · exact hd
    · have hs := hlt _ hd
      exact ih e.on h3 ops[e.on] (Array.getElem?_eq_getElem hs) (hD _ _ (Array.getElem?_eq_getElem hs) hd) j h4
theorem Closed.back {ops : Array Oper} {D : Nat → Prop} (hD : Closed ops D) (hlt : ∀ i, D i → i < ops.size) {i j : Nat} (hj : D j) (h : ((aheadOf ops).getD j 0).testBit i = true) : D i := by
  obtain ⟨o, ho⟩ : ∃ o, ops[j]? = some o := ⟨_, Array.getElem?_eq_getElem (hlt j hj)⟩
  exact hD.before hlt j o ho (hD j o ho hj) i h
end Go.AM
end
