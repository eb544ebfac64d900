/- Merged by program from: AmKeep AmArg2 AmLaw AmFT JeA JeB JeC JeD JeE JvST JvLC AmStr JvLR0 JvLR1. -/
import Derived.WideShapes
import Derived.Test.YtklnjhedbafknaaGreatDoorX3
section
set_option linter.unusedVariables false
set_option linter.unusedSimpArgs false
set_option linter.unusedSimpArgs false
namespace Go.AM
structure Keep (lo : Nat) (H H' : Heap) : Prop where
  n : H.n ≤ H'.n
  get : ∀ i, lo ≤ i → i < H.n → H'.get i = H.get i
theorem Keep.refl {lo : Nat} {H : Heap} : Keep lo H H := ⟨Nat.le_refl _, fun _ _ _ => rfl⟩
theorem Keep.call {lo : Nat} {H H' H'' : Heap} (h : Keep lo H H') (c : Ext0 H' H'') : Keep lo H H'' :=
  ⟨Nat.le_trans h.n c.n, fun i h1 h2 => (c.get i (Nat.lt_of_lt_of_le h2 h.n) fun f => f).trans (h.get i h1 h2)⟩
theorem Keep.push {lo : Nat} {H H' : Heap} {o : O} (h : Keep lo H H') : Keep lo H (H'.push o) := h.call Ch.push
theorem Keep.more {lo m : Nat} {H H' : Heap} (h : Keep lo H H') : Keep lo H (H'.more m) := h.call Ch.more
theorem Keep.set {lo j : Nat} {H H' : Heap} {o : O} (h : Keep lo H H') (hj : j < lo ∨ H.n ≤ j) : Keep lo H (H'.set j o) :=
  ⟨by simpa using h.n, fun i h1 h2 => by rw [Heap.gtz (by omega)]; exact h.get i h1 h2⟩
theorem Keep.ext {H H' : Heap} (h : Keep 0 H H') : Ext0 H H' := ⟨h.n, fun i hi _ => h.get i (Nat.zero_le _) hi⟩
theorem Row.keep {lo : Nat} {H H' : Heap} {k : IntKind} {s : Sl} {l : List Nat} (h : Row H k s l) (f : Fr lo s) (c : Keep lo H H') : Row H' k s l := by
  refine ⟨h.len, fun b o hs => ⟨Nat.lt_of_lt_of_le (h.low b o hs).1 c.n, (h.low b o hs).2⟩, fun hl => ?_⟩
  obtain ⟨b, o, cs, e', ro, h1, h2, h3, h4⟩ := h.mem hl
  exact ⟨b, o, cs, e', ro, h1, by rw [c.get b (f b ⟨o, h1⟩) (h.low b o h1).1]; exact h2, h3, h4⟩
theorem Fr.zero {s : Sl} : Fr 0 s := fun _ _ => Nat.zero_le _
theorem Fr.mono {m n : Nat} {s : Sl} (h : Fr n s) (hm : m ≤ n) : Fr m s := fun i hi => Nat.le_trans hm (h i hi)
theorem gmz {H : Heap} {m j : Nat} : (H.more m).get j = H.get j := (Eq.refl _).trans (Eq.refl _)
theorem lhz {i o : Nat} {H : Heap} : ld1 (.ptr (some (i, o))) H = (match H.get i with | .cells cs _ _ => cs[o]? | _ => none) := (Eq.refl _).trans (Eq.refl _)
theorem lgz {n i o : Nat} {H : Heap} : ldN n (.ptr (some (i, o))) H = (match H.get i with | .cells cs _ _ => if o + n ≤ cs.length then some (.agg ((cs.drop o).take n)) else none | _ => none) := (Eq.refl _).trans (Eq.refl _)
theorem sgz {n i o : Nat} {x : V} {H : Heap} : stA n (.ptr (some (i, o))) x H = (match H.get i with
    | .cells cs e false => if x.cells.length = n ∧ o + n ≤ cs.length ∧ x.cells.all V.one = true then some (H.set i (.cells (lset cs o x.cells) e false)) else none
    | _ => none) := (Eq.refl _).trans (Eq.refl _)
theorem chk_agg {l : List V} (h : ∀ v, v ∈ l → V.beq v v = true) : chk (some (.agg l)) (.agg l) = some () := by simp [chk, V.beq, beqs_self l h]
theorem beq_bool {b : Bool} : V.beq (.bool b) (.bool b) = true := by simp [V.beq]
theorem beq_int {k : IntKind} {n : Int} : V.beq (.int k n) (.int k n) = true := by simp [V.beq]
theorem beq_slice {s : Sl} : V.beq (.slice s) (.slice s) = true := by simp [V.beq]
theorem gs {a : V} {l : List V} {i : Nat} : (a :: l)[i + 1]? = l[i]? := by simp
theorem chk_i {b : Bool} {s : Sl} : chk (some (.agg [.bool b, .slice s])) (.agg [.bool b, .slice s]) = some () := chk_agg (by simp [V.beq])
theorem chk_r {b : Bool} {s t : Sl} : chk (some (.agg [.bool b, .slice s, .slice t])) (.agg [.bool b, .slice s, .slice t]) = some () := chk_agg (by simp [V.beq])
theorem chk_i' {k : IntKind} {b : Int} {s : Sl} : chk (some (.agg [.int k b, .slice s])) (.agg [.int k b, .slice s]) = some () := chk_agg (by simp [V.beq])
theorem chk_r' {k l : IntKind} {b c : Int} {s t : Sl} : chk (some (.agg [.int k b, .slice s, .int l c, .slice t])) (.agg [.int k b, .slice s, .int l c, .slice t]) = some () := chk_agg (by simp [V.beq])
attribute [simp] chk_i chk_r chk_i' chk_r'
attribute [simp] beq_bool beq_int beq_slice
theorem Tot.pure {α : Type} {x : Option α} {a : α} {k : Nat → α → Option R} {Q : V → Heap → Prop} (h : x = some a) (hk : Tot (fun n => k n a) Q) : Tot (fun n => bnd x (k n)) Q := by
  subst h; exact hk
theorem Tot.chk {x : Option Unit} {k : Nat → Unit → Option R} {Q : V → Heap → Prop} (h : x = some ()) (hk : Tot (fun n => k n ()) Q) : Tot (fun n => bnd x (k n)) Q := by
  subst h; exact hk
theorem Keep.auto {lo : Nat} {H H' : Heap} (h : Keep lo H H' := by (repeat (first | exact Keep.refl | refine Keep.call ?_ (by assumption) | refine Keep.push ?_ | refine Keep.more ?_ | refine Keep.set ?_ (by first | omega | (simp only [npz, nsz, nmz] <;> omega) | fail)))) : Keep lo H H' := h
theorem Tot.autoP {α : Type} {x : Option α} {a : α} {k : Nat → α → Option R} {Q : V → Heap → Prop} (hk : Tot (fun n => k n a) Q) (h : x = some a := by simp (disch := first | omega | (simp only [npz, nsz, nmz] <;> omega) | fail) [lhz, lgz, sgz, boxA, gz, gs, Heap.gqz, Heap.gpz, Heap.gtz, Heap.gsz, gmz, npz, nsz, nmz]; try exact rfl) : Tot (fun n => bnd x (k n)) Q := Tot.pure h hk
theorem Tot.autoC {x : Option Unit} {k : Nat → Unit → Option R} {Q : V → Heap → Prop} (hk : Tot (fun n => k n ()) Q) (h : x = some () := by simp (disch := first | omega | (simp only [npz, nsz, nmz] <;> omega) | fail) [lhz, lgz, sgz, boxA, gz, gs, Heap.gqz, Heap.gpz, Heap.gtz, Heap.gsz, gmz, npz, nsz, nmz]; done) : Tot (fun n => bnd x (k n)) Q := Tot.chk h hk
end Go.AM
end
section
set_option linter.unusedVariables false
set_option linter.unusedSimpArgs false
set_option linter.unusedSimpArgs false
namespace Go.AM
open Go.RowKit (Below)
section
variable {P : Program} {B n0 N : Nat} {w0 w1 w w' w'' : World} {μ0 μ μ' μ'' ν : Mu} {H0 H H' H'' : Heap} {T : Type} {enc : TypeId × Value → T}
theorem got_one {k : Nat} {t : TypeId} {v : V} {x : Value} (hr : Rel B w0 μ H w) (ho : ∀ j M, μ j = some M → (H.get j).own = false) (h1 : VRel μ v x) (h2 : v.one = true) (h3 : P.cellsOf t = 1) (h4 : WT P k t [v] H) : Got P B w0 μ H w k t [x] :=
  ⟨μ, H, [v], Grows.refl, hr, ho, by simp only [VRels]; exact ⟨x, [], rfl, h1, rfl⟩, by simp [h2], by simp [h3], h4⟩
theorem cells_spec {base n : Nat} {a : Addr} {xs : List Value} (h : w.cells? base a n = some xs) : xs.length = n ∧ ∀ (i : Nat), i < n → w.cell? (a.add i) = xs[i]? := by
  unfold World.cells? at h
  split at h
  · obtain ⟨h1, h2⟩ := mapM_some h
    simp at h1
    refine ⟨h1.symm, fun i hi => ?_⟩
    obtain ⟨y, h3, h4⟩ := h2 i i (by simp [hi])
    rw [h3, h4]
  · simp at h
theorem cell_spot {a : Addr} {x : Value} (h : w.cell? a = some x) : ∃ c e fr, w.heap[a.block]? = some (.cells c e fr) ∧ a.spot = none ∧ c[a.off]? = some x := by
  unfold World.cell? at h
  split at h
  · rename_i c e fr hb
    split at h
    · simp at h
    · rename_i hs; exact ⟨c, e, fr, hb, by simpa using hs, h⟩
  · simp at h
theorem flatten_get {α : Type} {k : Nat} {xss : List (List α)} {i j : Nat} {xs : List α} (hl : ∀ (i : Nat) (u : List α), xss[i]? = some u → u.length = k) (hi : xss[i]? = some xs) (hj : j < k) : xss.flatten[i * k + j]? = xs[j]? := by
  have := flatten_chunk hl hi
  rw [← this, List.getElem?_take, if_pos hj, List.getElem?_drop]
theorem build_list {A : Type} : ∀ (n : Nat) {Q : Nat → A → Prop}, (∀ i, i < n → ∃ x, Q i x) → ∃ l : List A, l.length = n ∧ ∀ (i : Nat) (x : A), l[i]? = some x → Q i x
  | 0, Q, _ => ⟨[], rfl, by simp⟩
  | n + 1, Q, h => by
    obtain ⟨x, hx⟩ := h 0 (by omega)
    obtain ⟨l, hl, hq⟩ := build_list n (Q := fun i x => Q (i + 1) x) fun i hi => h (i + 1) (by omega)
    refine ⟨x :: l, by simp [hl], ?_⟩
    intro i y hy
    cases i with
    | zero => simp at hy; subst hy; exact hx
    | succ i => simp at hy; exact hq i y hy
theorem chunk_whole {α : Type} {k : Nat} {cs : List α} : ∀ {xss : List (List α)} {off : Nat}, off + xss.length * k = cs.length → (∀ (i : Nat) (u : List α), xss[i]? = some u → u = (cs.drop (off + i * k)).take k) → xss.flatten = cs.drop off
  | [], off, h, _ => by simp at h; simp [h]
  | u :: xss, off, h, hu => by
    have h0 := hu 0 u (by simp)
    simp only [Nat.zero_mul, Nat.add_zero] at h0
    have ih := chunk_whole (k := k) (cs := cs) (xss := xss) (off := off + k) (by simp [Nat.succ_mul] at h; omega) fun i v hv => by
      have := hu (i + 1) v (by simpa using hv)
      rw [this, Nat.succ_mul]
      congr 2
      omega
    simp only [List.flatten_cons, ih, h0]
    rw [← List.drop_drop]
    exact List.take_append_drop _ _
theorem add_off (a : Addr) (i : Nat) (hs : a.spot = none) : a.add i = ⟨a.block, a.off + i, none⟩ := by
  cases a with
  | mk b o s =>
    simp only at hs; subst hs
    unfold Addr.add
    split
    · rename_i h; subst h; rfl
    · rfl
theorem got_slice {k fuel len cap : Nat} {t e : TypeId} {a : Addr} (hr : Rel B w0 μ H w) (ho : ∀ j M, μ j = some M → (H.get j).own = false)
    (hu : P.underlying t = some (.slice e)) (hp1 : P.cellsOf t = 1) (hp2 : 0 < P.cellsOf e) (hlc : len ≤ cap) (hcm : cap ≤ maxLen)
    (hstep : ∀ (x : {xs : List Value // ∃ d ps, DataW.trod enc P w 0 (fun _ => true) true fuel e xs = some (d, ps)}) (μ : Mu) (H : Heap), Rel B w0 μ H w → (∀ j M, μ j = some M → (H.get j).own = false) → Got P B w0 μ H w k e x.1)
    (hE : ∀ i, i < cap → ∃ xs, w.cells? 0 (a.add (i * P.cellsOf e)) (P.cellsOf e) = some xs ∧ ∃ d ps, DataW.trod enc P w 0 (fun _ => true) true fuel e xs = some (d, ps)) :
    Got P B w0 μ H w (k + 1) t [.slice (some a) len cap] := by
  by_cases hc0 : cap = 0
  · subst hc0
    have hl0 : len = 0 := by omega
    subst hl0
    have hfr : μ H.n = none := hr.fresh (Nat.le_refl _)
    refine ⟨μ.put H.n ⟨0, 0, 0⟩, H.push .none, [.slice ⟨some (H.n, 0), 0, P.cellsOf e, false⟩], ⟨Mu.le_put hfr, by simp, fun i hi => by rw [Heap.get_push, if_neg (by omega)]⟩,
      hr.lay (by simp [O.live]) rfl ho trivial, ?_, ?_, rfl, by simp [hp1], ?_⟩
    · intro j M e1
      rw [Heap.get_push]
      simp only [Mu.put] at e1
      split at e1
      · rename_i hj; rw [if_pos hj]; rfl
      · rename_i hj; rw [if_neg hj]; exact ho j M e1
    · simp only [VRels, VRel]
      exact ⟨_, _, rfl, ⟨⟨0, 0, 0⟩, a, 0, by simp [Mu.put], rfl, Nat.le_refl _, by simp, .inl rfl⟩, rfl⟩
    · unfold WT
      simp only [hu]
      exact .inr ⟨H.n, 0, false, rfl, by simp, by omega, by simp⟩
  · obtain ⟨las, hl, hq⟩ := build_list (A := {xs : List Value // ∃ d ps, DataW.trod enc P w 0 (fun _ => true) true fuel e xs = some (d, ps)}) len
      (Q := fun i x => w.cells? 0 (a.add (i * P.cellsOf e)) (P.cellsOf e) = some x.1) fun i hi => by
        obtain ⟨xs, h1, h2⟩ := hE i (by omega)
        exact ⟨⟨xs, h2⟩, h1⟩
    obtain ⟨μ1, H1, vss, g1, r1, o1, l1, v1, n1, t1⟩ := got_list (P := P) (fuel := k) (w := w) (w0 := w0) (B := B) (fun _ => e) (fun x => x.1) hstep las μ H hr ho
    have hget : ∀ (i : Nat) (u : List V), vss[i]? = some u → u.length = P.cellsOf e ∧ WT P k e u H1 := by
      intro i u h2
      have hi : i < las.length := by rw [← l1]; exact (List.getElem?_eq_some_iff.mp h2).1
      exact t1 i _ u (List.getElem?_eq_getElem hi) h2
    have hfl := flatten_len fun i u hi => (hget i u hi).1
    rw [l1, hl] at hfl
    have hlast : ∃ c e' fr, w.heap[a.block]? = some (.cells c e' fr) ∧ a.spot = none ∧ a.off + cap * P.cellsOf e ≤ c.size := by
      obtain ⟨xs, h1, _⟩ := hE (cap - 1) (by omega)
      obtain ⟨hx1, hx2⟩ := cells_spec h1
      have h3 := hx2 (P.cellsOf e - 1) (by omega)
      have h4 : xs[P.cellsOf e - 1]? = some (xs[P.cellsOf e - 1]'(by omega)) := List.getElem?_eq_getElem _
      rw [h4] at h3
      obtain ⟨c, e', fr, k1, k2, k3⟩ := cell_spot h3
      have hs : a.spot = none := by
        obtain ⟨ys, j1, _⟩ := hE 0 (by omega)
        obtain ⟨jx1, jx2⟩ := cells_spec j1
        have j3 := jx2 0 hp2
        have j4 : ys[0]? = some (ys[0]'(by omega)) := List.getElem?_eq_getElem _
        rw [j4] at j3
        obtain ⟨_, _, _, _, m2, _⟩ := cell_spot j3
        simpa [Addr.add] using m2
      rw [add_off a _ hs, add_off _ _ rfl] at k1 k3
      simp only at k1 k3
      have k4 := (Array.getElem?_eq_some_iff.mp k3).1
      refine ⟨c, e', fr, k1, hs, ?_⟩
      have : cap * P.cellsOf e = (cap - 1) * P.cellsOf e + P.cellsOf e := by
        rw [← Nat.succ_mul]; congr 1; omega
      omega
    obtain ⟨c, e', fr, hb, hs, hsz⟩ := hlast
    have hfr : μ1 H1.n = none := r1.fresh (Nat.le_refl _)
    have hle := Mu.le_put (L := ⟨a.block, a.off, c.size⟩) hfr
    have hmul : len * P.cellsOf e ≤ cap * P.cellsOf e := Nat.mul_le_mul_right _ hlc
    refine ⟨μ1.put H1.n ⟨a.block, a.off, c.size⟩, H1.push (.cells vss.flatten e true), [.slice ⟨some (H1.n, 0), len, P.cellsOf e, false⟩],
      g1.trans ⟨hle, by simp, fun i hi => by rw [Heap.get_push, if_neg (by omega)]⟩,
      r1.lay (fun _ => (Array.getElem?_eq_some_iff.mp hb).1) rfl o1 ?_, ?_, ?_, rfl, by simp [hp1], ?_⟩
    · refine ⟨c, e', fr, hb, rfl, by simp only [hfl]; omega, ?_, by simp⟩
      intro j v hv
      have hj : j < len * P.cellsOf e := by rw [← hfl]; exact (List.getElem?_eq_some_iff.mp hv).1
      refine ⟨?_, ?_⟩
      · have := List.all_eq_true.mp n1 v (List.mem_of_getElem? hv)
        exact this
      · obtain ⟨x, hx, hv'⟩ := VRels.get v1 j v hv
        refine ⟨x, ?_, VRel.mono hle _ _ hv'⟩
        have hdm : j / P.cellsOf e < len := (Nat.div_lt_iff_lt_mul hp2).mpr hj
        have hja : las[j / P.cellsOf e]? = some (las[j / P.cellsOf e]'(by omega)) := List.getElem?_eq_getElem _
        have hq1 := hq _ _ hja
        obtain ⟨hx1, hx2⟩ := cells_spec hq1
        have hmod : j % P.cellsOf e < P.cellsOf e := Nat.mod_lt _ hp2
        have h3 := hx2 _ hmod
        have hlens : ∀ (i : Nat) (u : List Value), (las.map fun x => x.1)[i]? = some u → u.length = P.cellsOf e := by
          intro i u hi
          rw [List.getElem?_map] at hi
          cases ha : las[i]? with
          | none => rw [ha] at hi; simp at hi
          | some y => rw [ha] at hi; simp at hi; rw [← hi]; exact (cells_spec (hq i y ha)).1
        have h4 := flatten_get (xss := las.map fun x => x.1) (i := j / P.cellsOf e) (j := j % P.cellsOf e) (k := P.cellsOf e) hlens (by rw [List.getElem?_map, hja]; rfl) hmod
        have hjj : j / P.cellsOf e * P.cellsOf e + j % P.cellsOf e = j := by rw [Nat.mul_comm]; exact Nat.div_add_mod _ _
        rw [hjj, hx] at h4
        rw [← h4, add_off a _ hs, add_off _ _ rfl] at h3
        obtain ⟨c', e'', fr', k1, k2, k3⟩ := cell_spot h3
        simp only at k1 k3
        rw [hb] at k1
        cases k1
        rw [show a.off + j / P.cellsOf e * P.cellsOf e + j % P.cellsOf e = a.off + j by omega] at k3
        exact k3
    · intro j M e1
      rw [Heap.get_push]
      simp only [Mu.put] at e1
      split at e1
      · rename_i hj; rw [if_pos hj]; rfl
      · rename_i hj; rw [if_neg hj]; exact o1 j M e1
    · simp only [VRels, VRel]
      refine ⟨_, _, rfl, ⟨⟨a.block, a.off, c.size⟩, a, cap, by simp [Mu.put], rfl, hlc, by simp, .inr ⟨?_, by simpa using hsz⟩⟩, rfl⟩
      cases a with
      | mk b o s => simp at hs; subst hs; simp
    · unfold WT
      simp only [hu]
      refine .inr ⟨H1.n, len, false, rfl, by simp, by omega, fun _ => ⟨e, vss.flatten, by rw [Heap.get_push, if_pos rfl], hfl, fun j hj => ?_⟩⟩
      have h2 : vss[j]? = some vss[j] := List.getElem?_eq_getElem (by omega)
      rw [flatten_chunk (fun i u hi => (hget i u hi).1) h2]
      exact (hget j _ h2).2.mono (by simp) fun i hi => by rw [Heap.get_push, if_neg (by omega)]
theorem got : ∀ (k : Nat) (t : TypeId), plainT P k t = true → ∀ (fuel : Nat) (cs : List Value) (d : DataW T) (ps : List MemPlace),
    DataW.trod enc P w 0 (fun _ => true) true fuel t cs = some (d, ps) → ∀ (μ : Mu) (H : Heap), Rel B w0 μ H w → (∀ j M, μ j = some M → (H.get j).own = false) → Got P B w0 μ H w k t cs
  | 0, t, hp, _, _, _, _, _, _, _, _, _ => by simp [plainT] at hp
  | k + 1, t, hp, 0, cs, d, ps, h, μ, H, hr, ho => by simp [DataW.trod] at h
  | k + 1, t, hp, fuel + 1, cs, d, ps, h, μ, H, hr, ho => by
    unfold plainT at hp
    unfold DataW.trod at h
    split at hp
    · rename_i hu
      simp only [hu] at h
      split at h
      all_goals first
        | (rename_i heq; cases heq; done)
        | (simp at h; done)
        | skip
      rename_i b _
      exact got_one hr ho (v := .bool b) (by simp only [VRel]) rfl (by simpa using hp) (by unfold WT; simp [hu])
    · rename_i q hu
      simp only [hu] at h
      split at h
      all_goals first
        | (rename_i heq; cases heq; done)
        | (simp at h; done)
        | skip
      rename_i q' k' n heq
      cases heq
      split at h
      · rename_i hc
        obtain ⟨rfl, hw⟩ := hc
        exact got_one hr ho (v := .int k' n) (by simp only [VRel]) rfl (by simpa using hp) (by unfold WT; simp [hu]; exact hw)
      · simp at h
    · rename_i hu
      simp only [hu] at h
      split at h
      all_goals first
        | (rename_i heq; cases heq; done)
        | (simp at h; done)
        | skip
      rename_i s _
      split at h
      · rename_i hc
        exact got_one hr ho (v := .str s.data.toList) (by simp only [VRel]) rfl (by simpa using hp) (by unfold WT; simp only [hu]; exact ⟨_, rfl, by simpa using hc⟩)
      · simp at h
    · rename_i e hu
      simp only [Bool.and_eq_true, decide_eq_true_eq] at hp
      obtain ⟨⟨hp1, hp2⟩, hp3⟩ := hp
      simp only [hu] at h
      split at h
      all_goals first
        | (rename_i heq; cases heq; done)
        | (simp at h; done)
        | skip
      · exact got_one hr ho (v := .slice ⟨none, 0, 0, false⟩) (by simp only [VRel]; exact ⟨trivial, trivial⟩) rfl hp1 (by unfold WT; simp [hu])
      · rename_i e' a len cap heq
        cases heq
        split at h
        · rename_i hc
          obtain ⟨_, hlc, hcm⟩ := hc
          cases hes : (List.range len).mapM fun i => (w.cells? 0 (a.add (i * P.cellsOf e)) (P.cellsOf e)).bind (DataW.trod enc P w 0 (fun _ => true) true fuel e) with
          | none => rw [hes] at h; simp at h
          | some elems =>
            rw [hes] at h
            simp only [Option.bind_some, if_true] at h
            cases hrs : (List.range (cap - len)).mapM fun j => (w.cells? 0 (a.add ((len + j) * P.cellsOf e)) (P.cellsOf e)).bind (DataW.trod enc P w 0 (fun _ => true) true fuel e) with
            | none => rw [hrs] at h; simp at h
            | some rest =>
              clear h
              have hE : ∀ i, i < cap → ∃ xs, w.cells? 0 (a.add (i * P.cellsOf e)) (P.cellsOf e) = some xs ∧ ∃ d ps, DataW.trod enc P w 0 (fun _ => true) true fuel e xs = some (d, ps) := by
                intro i hi
                by_cases hil : i < len
                · obtain ⟨y, h1, _⟩ := (mapM_some hes).2 i i (by simp [hil])
                  cases hx : w.cells? 0 (a.add (i * P.cellsOf e)) (P.cellsOf e) with
                  | none => rw [hx] at h1; simp at h1
                  | some xs => rw [hx] at h1; exact ⟨xs, rfl, y.1, y.2, h1⟩
                · obtain ⟨y, h1, _⟩ := (mapM_some hrs).2 (i - len) (i - len) (by rw [List.getElem?_range (by omega)])
                  rw [show len + (i - len) = i by omega] at h1
                  cases hx : w.cells? 0 (a.add (i * P.cellsOf e)) (P.cellsOf e) with
                  | none => rw [hx] at h1; simp at h1
                  | some xs => rw [hx] at h1; exact ⟨xs, rfl, y.1, y.2, h1⟩
              exact got_slice hr ho hu hp1 hp2 hlc hcm (fun x μ H r o => got k e hp3 fuel x.1 _ _ x.2.choose_spec.choose_spec μ H r o) hE
        · simp at h
    · rename_i fs hu
      simp only [Bool.and_eq_true, List.all_eq_true] at hp
      obtain ⟨hp1, hp2⟩ := hp
      simp only [hu] at h
      split at h
      · rename_i hlen
        cases hm : fs.toList.mapM fun f => DataW.trod enc P w 0 (fun _ => true) true fuel f.type ((cs.drop f.offset).take (P.cellsOf f.type)) with
        | none => rw [hm] at h; simp at h
        | some xs =>
          clear h
          obtain ⟨_, hm2⟩ := mapM_some hm
          obtain ⟨las, hl, hq⟩ := build_list (A := {p : Field × List Value // plainT P k p.1.type = true ∧ ∃ d ps, DataW.trod enc P w 0 (fun _ => true) true fuel p.1.type p.2 = some (d, ps)}) fs.toList.length
            (Q := fun i x => fs.toList[i]? = some x.1.1 ∧ x.1.2 = (cs.drop x.1.1.offset).take (P.cellsOf x.1.1.type)) fun i hi => by
              have hf : fs.toList[i]? = some fs.toList[i] := List.getElem?_eq_getElem hi
              obtain ⟨y, h1, _⟩ := hm2 i _ hf
              exact ⟨⟨(fs.toList[i], (cs.drop fs.toList[i].offset).take (P.cellsOf fs.toList[i].type)), hp2 _ (List.getElem_mem hi), y.1, y.2, h1⟩, hf, rfl⟩
          obtain ⟨μ1, H1, vss, g1, r1, o1, l1, v1, n1, t1⟩ := got_list (P := P) (fuel := k) (w := w) (w0 := w0) (B := B) (fun x => x.1.1.type) (fun x => x.1.2) (fun x μ H r o => got k x.1.1.type x.2.1 fuel x.1.2 _ _ x.2.2.choose_spec.choose_spec μ H r o) las μ H hr ho
          have hlen' : vss.length = fs.toList.length := by rw [l1, hl]
          have hget : ∀ (i : Nat) (f : Field) (u : List V), fs.toList[i]? = some f → vss[i]? = some u → u.length = P.cellsOf f.type ∧ WT P k f.type u H1 := by
            intro i f u h1 h2
            have hi : i < las.length := by rw [hl]; exact (List.getElem?_eq_some_iff.mp h1).1
            have ha := List.getElem?_eq_getElem hi
            have hq1 := hq i _ ha
            have := t1 i _ u ha h2
            rw [h1] at hq1
            have hff : f = las[i].1.1 := by simpa using hq1.1
            rw [hff]; exact this
          obtain ⟨q1, q2, q3⟩ := tiles_chunk hp1 hlen' fun i f u h1 h2 => (hget i f u h1 h2).1
          have hcs : (las.map fun x => x.1.2).flatten = cs := by
            have he : (las.map fun x => x.1.2) = fs.toList.map fun f => (cs.drop f.offset).take (P.cellsOf f.type) := by
              apply List.ext_getElem?
              intro i
              simp only [List.getElem?_map]
              cases ha : las[i]? with
              | none =>
                have : fs.toList[i]? = none := by rw [List.getElem?_eq_none_iff] at ha ⊢; omega
                rw [this]; rfl
              | some x =>
                obtain ⟨h1, h2⟩ := hq i x ha
                rw [h1]; simp [h2]
            rw [he, (tiles_whole hlen hp1).2]; rfl
          rw [hcs] at v1
          refine ⟨μ1, H1, vss.flatten, g1, r1, o1, v1, n1, by simpa using q2, ?_⟩
          unfold WT
          simp only [hu]
          refine ⟨by simpa using q2, fun f hf => ?_⟩
          obtain ⟨i, hi, rfl⟩ := List.getElem_of_mem hf
          have h1 : fs.toList[i]? = some fs.toList[i] := List.getElem?_eq_getElem hi
          have h2 : vss[i]? = some vss[i] := List.getElem?_eq_getElem (by omega)
          have := (q3 i _ _ h1 h2).2
          simp only [Nat.sub_zero] at this
          rw [this]
          exact (hget i _ _ h1 h2).2
      · simp at h
    · rename_i n e hu
      simp only [Bool.and_eq_true, decide_eq_true_eq] at hp
      obtain ⟨hp1, hp2⟩ := hp
      simp only [hu] at h
      split at h
      · rename_i hlen
        cases hm : (List.range n).mapM fun i => DataW.trod enc P w 0 (fun _ => true) true fuel e ((cs.drop (i * P.cellsOf e)).take (P.cellsOf e)) with
        | none => rw [hm] at h; simp at h
        | some xs =>
          clear h
          obtain ⟨_, hm2⟩ := mapM_some hm
          obtain ⟨las, hl, hq⟩ := build_list (A := {p : List Value // ∃ d ps, DataW.trod enc P w 0 (fun _ => true) true fuel e p = some (d, ps)}) n
            (Q := fun i x => x.1 = (cs.drop (i * P.cellsOf e)).take (P.cellsOf e)) fun i hi => by
              obtain ⟨y, h1, _⟩ := hm2 i i (by simp [hi])
              exact ⟨⟨_, y.1, y.2, h1⟩, rfl⟩
          obtain ⟨μ1, H1, vss, g1, r1, o1, l1, v1, n1, t1⟩ := got_list (P := P) (fuel := k) (w := w) (w0 := w0) (B := B) (fun _ => e) (fun x => x.1) (fun x μ H r o => got k e hp2 fuel x.1 _ _ x.2.choose_spec.choose_spec μ H r o) las μ H hr ho
          have hget : ∀ (i : Nat) (u : List V), vss[i]? = some u → u.length = P.cellsOf e ∧ WT P k e u H1 := by
            intro i u h2
            have hi : i < las.length := by rw [← l1]; exact (List.getElem?_eq_some_iff.mp h2).1
            exact t1 i _ u (List.getElem?_eq_getElem hi) h2
          have hcs : (las.map fun x => x.1).flatten = cs := by
            have := chunk_whole (cs := cs) (k := P.cellsOf e) (xss := las.map fun x => x.1) (off := 0) (by simp [hl, hp1, hlen]) fun i u hi => by
              rw [List.getElem?_map] at hi
              cases ha : las[i]? with
              | none => rw [ha] at hi; simp at hi
              | some x => rw [ha] at hi; simp at hi; rw [← hi, hq i x ha]; simp
            simpa using this
          rw [hcs] at v1
          have hfl := flatten_len fun i u hi => (hget i u hi).1
          rw [l1, hl, hp1] at hfl
          refine ⟨μ1, H1, vss.flatten, g1, r1, o1, v1, n1, hfl, ?_⟩
          unfold WT
          simp only [hu]
          refine ⟨hfl, fun i hi => ?_⟩
          have h2 : vss[i]? = some vss[i] := List.getElem?_eq_getElem (by omega)
          rw [flatten_chunk (fun i u hi => (hget i u hi).1) h2]
          exact (hget i _ h2).2
      · simp at h
    · simp at hp
end
end Go.AM
end
section
set_option linter.unusedVariables false
set_option linter.unusedSimpArgs false
set_option linter.unusedSimpArgs false
namespace Go.AM
open Go.RowKit (Below)
def argV (P : Program) (t : TypeId) (vs : List V) : V := match P.underlying t with
  | some (.struct _) | some (.array _ _) => .agg vs
  | _ => vs.headD .dead
def WTs (P : Program) (k : Nat) (H : Heap) : List TypeId → List V → Prop
  | [], vs => vs = []
  | t :: ts, vs => ∃ cs us, vs = argV P t cs :: us ∧ WT P k t cs H ∧ WTs P k H ts us
theorem WTs.mono {P : Program} {k : Nat} {H H' : Heap} (hn : H.n ≤ H'.n) (hg : ∀ i, i < H.n → H'.get i = H.get i) : ∀ (ts : List TypeId) (vs : List V), WTs P k H ts vs → WTs P k H' ts vs
  | [], _, h => h
  | t :: ts, vs, ⟨cs, us, e, h, r⟩ => ⟨cs, us, e, WT.mono hn hg k t cs h, WTs.mono hn hg ts us r⟩
section
variable {P : Program} {B : Nat} {w0 w : World} {μ : Mu} {H : Heap} {T : Type} {enc : TypeId × Value → T}
theorem argV_rel {k b : Nat} {t : TypeId} {v : Value} {vs : List V} (h : VRels μ vs v.cells.toList) (hv : Value.okWide P w .any b t v) (hp : plainT P k t = true) : VRel μ (argV P t vs) v := by
  unfold argV
  cases k with
  | zero => simp [plainT] at hp
  | succ k =>
    unfold plainT at hp
    have key : ∀ x, v = x → x.cells = #[x] → VRel μ (vs.headD .dead) v := by
      intro x e1 e2
      subst e1
      rw [e2] at h
      cases vs with
      | nil => simp [VRel]
      | cons u us =>
        simp only [VRels] at h
        obtain ⟨y, ys, e, a, _⟩ := h
        simp at e
        rw [e.1]; exact a
    split at hp
    · rename_i hu; simp only [hu]
      obtain ⟨x, rfl⟩ := WideShapes.okWide_bool hu hv
      exact key _ rfl rfl
    · rename_i q hu; simp only [hu]
      obtain ⟨x, rfl⟩ := WideShapes.okWide_int hu hv
      exact key _ rfl rfl
    · rename_i hu; simp only [hu]
      obtain ⟨x, rfl⟩ := WideShapes.okWide_string hu hv
      exact key _ rfl rfl
    · rename_i e hu; simp only [hu]
      obtain ⟨a, l, c, rfl⟩ := WideShapes.okWide_slice hu hv
      exact key _ rfl rfl
    · rename_i fs hu
      simp only [hu]
      unfold Value.okWide at hv
      simp only [hu] at hv
      obtain ⟨cs, rfl, _⟩ := hv
      simp only [VRel]
      exact ⟨cs, rfl, by simpa [Value.cells] using h⟩
    · rename_i n e hu
      simp only [hu]
      unfold Value.okWide at hv
      simp only [hu] at hv
      obtain ⟨cs, rfl, _⟩ := hv
      simp only [VRel]
      exact ⟨cs, rfl, by simpa [Value.cells] using h⟩
    · cases hp
theorem got_all {k : Nat} : ∀ (ts : List TypeId) (vs : List Value) (ds : List (DataW T)) (ps : List MemPlace) (μ : Mu) (H : Heap),
    ts.all (fun t => plainT P k t) = true → DataW.TrodAll enc P w 0 (fun _ => true) true ts vs ds ps → (∀ (j : Nat) t v, ts[j]? = some t → vs[j]? = some v → ∃ b, Value.okWide P w .any b t v) →
    Rel B w0 μ H w → (∀ j M, μ j = some M → (H.get j).own = false) →
    ∃ μ' H' us, Grows μ H μ' H' ∧ Rel B w0 μ' H' w ∧ (∀ j M, μ' j = some M → (H'.get j).own = false) ∧ VRels μ' us vs ∧ WTs P k H' ts us
  | [], vs, ds, ps, μ, H, _, h, _, hr, ho => by
    cases vs with
    | nil => exact ⟨μ, H, [], Grows.refl, hr, ho, rfl, rfl⟩
    | cons v vs => simp [DataW.TrodAll] at h
  | t :: ts, vs, ds, ps, μ, H, hp, h, hv, hr, ho => by
    cases vs with
    | nil => simp [DataW.TrodAll] at h
    | cons v vs =>
      cases ds with
      | nil => simp [DataW.TrodAll] at h
      | cons d ds =>
        obtain ⟨p, q, ⟨fuel, h1⟩, h2, _⟩ := h
        simp only [List.all_cons, Bool.and_eq_true] at hp
        obtain ⟨μ1, H1, us, g1, r1, o1, v1, n1, l1, t1⟩ := got k t hp.1 fuel _ _ _ h1 μ H hr ho
        obtain ⟨μ2, H2, us2, g2, r2, o2, v2, t2⟩ := got_all ts vs ds q μ1 H1 hp.2 h2 (fun j t v a b => hv (j + 1) t v (by simpa using a) (by simpa using b)) r1 o1
        obtain ⟨b, hw⟩ := hv 0 t v (by simp) (by simp)
        refine ⟨μ2, H2, argV P t us :: us2, g1.trans g2, r2, o2, ?_, us, us2, rfl, WT.mono g2.n g2.get _ _ _ t1, t2⟩
        simp only [VRels]
        exact ⟨v, vs, rfl, VRel.mono g2.le _ _ (argV_rel v1 hw hp.1), v2⟩
theorem Rel.start (w : World) : Rel w.heap.size w ⟨fun _ => none, fun _ => none⟩ ⟨0, .nil⟩ w :=
  ⟨Below.refl _ _, Nat.le_refl _, fun i L h => (by cases h), fun i L h => (by cases h), fun i j L M h => (by cases h), fun i _ => by simp [Heap.get, T.get], fun b vs h => (by cases h), fun b vs h => (by cases h)⟩
theorem law_calls {C : Cfg} (ok : C.Ok) {f : FuncId} {k : Nat} {ts : List TypeId} {args : Array Value} {ds : List (DataW T)} {ps : List MemPlace} {W : World}
    (hp : ts.all (fun t => plainT C.P k t) = true) (hA : DataW.TrodAll enc C.P W 0 (fun _ => true) true ts args.toList ds ps)
    (hv : ∀ (j : Nat) t v, ts[j]? = some t → args.toList[j]? = some v → ∃ b, Value.okWide C.P W .any b t v)
    (hent : (callFunc f args).run C.P W = .ok (.enter f args) W)
    (hlaw : ∀ (H : Heap) (us : List V), WTs C.P k H ts us → ∃ n H', callA C n f us H = some (.bool true, H')) (hy : f < yB := by decide) :
    Calls C.P f args W (fun e W' => e = .returned (.bool true) ∧ Below W.heap.size W W') := by
  obtain ⟨μ, H, us, _, hr, _, hvs, hwt⟩ := got_all (P := C.P) (B := W.heap.size) (w0 := W) (w := W) ts args.toList ds ps _ _ hp hA hv (Rel.start W) (by intro j M h; cases h)
  obtain ⟨n, H', hc⟩ := hlaw H us hwt
  have := (callA_sound ok n f us H _ H' hc W.heap.size 0 W W μ args hr (Nat.zero_le _) hvs).1 hy
  rw [hent] at this
  simp only [Gives] at this
  refine this.mono fun e w' ⟨x, he, μ', s, hx⟩ => ?_
  simp only [VRel] at hx
  subst hx
  exact ⟨he, s.rel.below⟩
end
end Go.AM
end
section
set_option linter.unusedVariables false
set_option linter.unusedSimpArgs false
set_option linter.unusedSimpArgs false
set_option linter.unusedVariables false
namespace Go.AM
open Go.RowKit (Below)
def FT (P : Program) : Nat → TypeId → List V → Prop
  | 0, _, _ => False
  | fuel + 1, t, cs => match P.underlying t with
    | some .bool => ∃ b, cs = [.bool b]
    | some (.int k) => ∃ n, cs = [.int k n] ∧ (Lit.int k n).wf = true
    | some .string => ∃ s : List UInt8, cs = [.str s] ∧ s.length ≤ maxLen
    | some (.slice e) => ∃ len z xs, cs = [.list len z xs] ∧ len ≤ maxLen ∧ (len = 0 → z = 0 ∧ xs = []) ∧ (len ≠ 0 → z = P.cellsOf e) ∧ xs.length = len * P.cellsOf e ∧ ∀ j, j < len → FT P fuel e ((xs.drop (j * P.cellsOf e)).take (P.cellsOf e))
    | some (.struct fs) => cs.length = P.cellsOf t ∧ ∀ f ∈ fs.toList, FT P fuel f.type ((cs.drop f.offset).take (P.cellsOf f.type))
    | some (.array n e) => cs.length = P.cellsOf t ∧ ∀ i, i < n → FT P fuel e ((cs.drop (i * P.cellsOf e)).take (P.cellsOf e))
    | _ => False
def sdep (P : Program) : Nat → TypeId → Nat
  | 0, _ => 0
  | fuel + 1, t => match P.underlying t with
    | some (.slice e) => sdep P fuel e + 1
    | some (.struct fs) => (fs.toList.map fun f => sdep P fuel f.type).foldr max 1
    | some (.array _ e) => max 1 (sdep P fuel e)
    | _ => 1
theorem frzL_app {f : V → Option (V × List Nat)} : ∀ {a b a' b' : List V} {i j : List Nat}, frzL f a = some (a', i) → frzL f b = some (b', j) → frzL f (a ++ b) = some (a' ++ b', i ++ j)
  | [], b, a', b', i, j, h1, h2 => by simp only [frzL, Option.some.injEq, Prod.mk.injEq] at h1; obtain ⟨rfl, rfl⟩ := h1; exact h2
  | v :: a, b, a', b', i, j, h1, h2 => by
    simp only [frzL] at h1
    cases hv : f v with
    | none => rw [hv] at h1; cases h1
    | some p =>
      rw [hv] at h1
      cases ha : frzL f a with
      | none => rw [ha] at h1; cases h1
      | some q =>
        rw [ha] at h1
        simp only [Option.some.injEq, Prod.mk.injEq] at h1
        obtain ⟨rfl, rfl⟩ := h1
        have := frzL_app (a := a) (b := b) ha h2
        simp only [List.cons_append, frzL, hv, this, List.append_assoc]
theorem frzL_flat {f : V → Option (V × List Nat)} {A : Type} (part : A → List V) (R : A → List V → Prop) : ∀ (l : List A), (∀ a ∈ l, ∃ u i, frzL f (part a) = some (u, i) ∧ R a u) →
    ∃ (us : List (List V)) (ids : List Nat), frzL f (l.map part).flatten = some (us.flatten, ids) ∧ us.length = l.length ∧ ∀ (i : Nat) (a : A) (u : List V), l[i]? = some a → us[i]? = some u → R a u
  | [], _ => ⟨[], [], rfl, rfl, fun i a u h => by simp at h⟩
  | a :: l, h => by
    obtain ⟨u, i, h1, h2⟩ := h a (by simp)
    obtain ⟨us, ids, k1, k2, k3⟩ := frzL_flat part R l fun b hb => h b (by simp [hb])
    refine ⟨u :: us, i ++ ids, ?_, by simp [k2], ?_⟩
    · simp only [List.map_cons, List.flatten_cons]; exact frzL_app h1 k1
    · intro j b w hb hw
      cases j with
      | zero => simp at hb hw; subst hb hw; exact h2
      | succ j => simp at hb hw; exact k3 j b w hb hw
theorem foldr_le {l : List Nat} {d : Nat} (h : l.foldr max 1 ≤ d) : 1 ≤ d ∧ ∀ x ∈ l, x ≤ d := by
  induction l with
  | nil => exact ⟨by simpa using h, fun x hx => by simp at hx⟩
  | cons y l ih =>
    simp only [List.foldr_cons] at h
    obtain ⟨a, b⟩ := ih (by omega)
    refine ⟨a, fun x hx => ?_⟩
    rcases List.mem_cons.1 hx with rfl | hx
    · omega
    · exact b x hx
section
variable {P : Program}
theorem FT.len : ∀ {k : Nat} {t : TypeId} {cs : List V}, plainT P k t = true → FT P k t cs → cs.length = P.cellsOf t
  | 0, t, cs, hp, h => by simp [plainT] at hp
  | k + 1, t, cs, hp, h => by
    unfold plainT at hp
    unfold FT at h
    split at h
    · rename_i hu; simp only [hu, decide_eq_true_eq] at hp; obtain ⟨b, rfl⟩ := h; simp [hp]
    · rename_i hu; simp only [hu, decide_eq_true_eq] at hp; obtain ⟨b, rfl, -⟩ := h; simp [hp]
    · rename_i hu; simp only [hu, decide_eq_true_eq] at hp; obtain ⟨b, rfl, -⟩ := h; simp [hp]
    · rename_i hu; simp only [hu, Bool.and_eq_true, decide_eq_true_eq] at hp; obtain ⟨a, b, c, rfl, -⟩ := h; simp [hp.1.1]
    · exact h.1
    · exact h.1
    · exact h.elim
theorem chunks_len {α : Type} {m n : Nat} {cs : List α} (h : cs.length = n * m) : ((List.range n).map fun i => (cs.drop (i * m)).take m).flatten = cs := by
  induction n generalizing cs with
  | zero => simp at h; simp [h]
  | succ n ih =>
    rw [List.range_succ_eq_map, List.map_cons, List.flatten_cons, List.map_map]
    have e : ((fun i => (cs.drop (i * m)).take m) ∘ Nat.succ) = fun i => ((cs.drop m).drop (i * m)).take m := by
      funext i
      simp only [Function.comp, List.drop_drop]
      rw [show m + i * m = i.succ * m by rw [Nat.succ_mul]; omega]
    rw [e, ih (by rw [List.length_drop, h, Nat.succ_mul]; omega)]
    simp
theorem WT.frz {H : Heap} : ∀ {k : Nat} {t : TypeId} {cs : List V} {d : Nat}, plainT P k t = true → WT P k t cs H → sdep P k t ≤ d → ∃ us ids, frzL (frzV H d) cs = some (us, ids) ∧ FT P k t us
  | 0, t, cs, d, hp, h, hd => by simp [plainT] at hp
  | k + 1, t, cs, d, hp, h, hd => by
    unfold plainT at hp
    unfold WT at h
    unfold sdep at hd
    split at h
    · rename_i hu
      simp only [hu] at hd
      obtain ⟨b, rfl⟩ := h
      obtain ⟨d', rfl⟩ : ∃ d', d = d' + 1 := ⟨d - 1, by omega⟩
      exact ⟨_, [], frzL_fro1 rfl, by unfold FT; simp only [hu]; exact ⟨b, rfl⟩⟩
    · rename_i q hu
      simp only [hu] at hd
      obtain ⟨b, rfl, w⟩ := h
      obtain ⟨d', rfl⟩ : ∃ d', d = d' + 1 := ⟨d - 1, by omega⟩
      exact ⟨_, [], frzL_fro1 rfl, by unfold FT; simp only [hu]; exact ⟨b, rfl, w⟩⟩
    · rename_i hu
      simp only [hu] at hd
      obtain ⟨b, rfl, w⟩ := h
      obtain ⟨d', rfl⟩ : ∃ d', d = d' + 1 := ⟨d - 1, by omega⟩
      exact ⟨_, [], frzL_fro1 rfl, by unfold FT; simp only [hu]; exact ⟨b, rfl, w⟩⟩
    · rename_i e hu
      simp only [hu] at hd hp
      simp only [Bool.and_eq_true, decide_eq_true_eq] at hp
      obtain ⟨d', rfl⟩ : ∃ d', d = d' + 1 := ⟨d - 1, by omega⟩
      have hnil : ∀ (s : Sl), s.len = 0 → frzL (frzV H (d' + 1)) [.slice s] = some ([.list 0 0 []], []) := by
        intro s hs
        simp only [frzL, frzV, hs, if_true, List.append_nil]
      have hft : FT P (k + 1) t [.list 0 0 []] := by
        unfold FT; simp only [hu]
        exact ⟨0, 0, [], rfl, Nat.zero_le _, fun _ => ⟨rfl, rfl⟩, fun h => (h rfl).elim, by simp, fun j hj => by omega⟩
      rcases h with rfl | ⟨i, len, full, rfl, h1, h2, h3⟩
      · exact ⟨_, _, hnil _ rfl, hft⟩
      · by_cases h0 : len = 0
        · subst h0; exact ⟨_, _, hnil _ rfl, hft⟩
        · obtain ⟨el, xs, g, hl, hx⟩ := h3 h0
          have := frzL_flat (f := frzV H d') (fun i => (xs.drop (i * P.cellsOf e)).take (P.cellsOf e)) (fun _ u => FT P k e u) (List.range len) fun j hj => by
            obtain ⟨us, ids, a, b⟩ := WT.frz (d := d') hp.2 (hx j (List.mem_range.1 hj)) (by omega)
            exact ⟨us, ids, a, b⟩
          obtain ⟨us, ids, a1, a2, a3⟩ := this
          rw [chunks_len hl] at a1
          rw [List.length_range] at a2
          have hul : ∀ (i : Nat) (u : List V), us[i]? = some u → u.length = P.cellsOf e := by
            intro i u hi
            have hi2 : i < us.length := by
              rcases Nat.lt_or_ge i us.length with h | h
              · exact h
              · rw [List.getElem?_eq_none h] at hi; cases hi
            exact FT.len hp.2 (a3 i i u (by simp [List.getElem?_range (show i < len by omega)]) hi)
          refine ⟨[.list len (P.cellsOf e) us.flatten], i :: ids, ?_, ?_⟩
          · have ht : (xs.drop 0).take (len * P.cellsOf e) = xs := by rw [List.drop_zero, ← hl, List.take_length]
            have hf : frzV H (d' + 1) (.slice ⟨some (i, 0), len, P.cellsOf e, full⟩) = some (.list len (P.cellsOf e) us.flatten, i :: ids) := by
              unfold frzV
              simp only [if_neg h0, g, ht, a1, Nat.zero_add]
              rw [if_pos (by omega)]
            simp only [frzL, hf, List.append_nil]
          · unfold FT; simp only [hu]
            refine ⟨len, _, _, rfl, h2, fun h => (h0 h).elim, fun _ => rfl, by rw [flatten_len hul, a2], fun j hj => ?_⟩
            have hj2 : j < us.length := by omega
            have hg : us[j]? = some us[j] := by simp [hj2]
            rw [flatten_chunk hul hg]
            exact a3 j j us[j] (by simp [List.getElem?_range (show j < len by omega)]) hg
    · rename_i fs hu
      simp only [hu] at hd hp
      simp only [Bool.and_eq_true, List.all_eq_true] at hp
      obtain ⟨hd1, hd2⟩ := foldr_le hd
      obtain ⟨h1, h2⟩ := h
      have hw := (tiles_whole h1 hp.1).2
      rw [List.drop_zero] at hw
      have := frzL_flat (f := frzV H d) (fun f : Field => (cs.drop f.offset).take (P.cellsOf f.type)) (fun f u => FT P k f.type u) fs.toList fun f hf => by
        obtain ⟨us, ids, a, b⟩ := WT.frz (d := d) (hp.2 f hf) (h2 f hf) (hd2 _ (List.mem_map.2 ⟨f, hf, rfl⟩))
        exact ⟨us, ids, a, b⟩
      obtain ⟨us, ids, a1, a2, a3⟩ := this
      rw [hw] at a1
      have hs : ∀ (i : Nat) (f : Field) (u : List V), fs.toList[i]? = some f → us[i]? = some u → u.length = P.cellsOf f.type := fun i f u x y => FT.len (hp.2 f (List.mem_of_getElem? x)) (a3 i f u x y)
      obtain ⟨_, t2, t3⟩ := tiles_chunk hp.1 a2 hs
      refine ⟨us.flatten, ids, a1, ?_⟩
      unfold FT; simp only [hu]
      refine ⟨by rw [t2]; simp, fun f hf => ?_⟩
      obtain ⟨i, hi⟩ := List.getElem?_of_mem hf
      have hi2 : i < us.length := by
        rw [a2]
        rcases Nat.lt_or_ge i fs.toList.length with h | h
        · exact h
        · rw [List.getElem?_eq_none h] at hi; cases hi
      have hg : us[i]? = some us[i] := by simp [hi2]
      have := (t3 i f us[i] hi hg).2
      rw [Nat.sub_zero] at this
      rw [this]
      exact a3 i f us[i] hi hg
    · rename_i n e hu
      simp only [hu] at hd hp
      simp only [Bool.and_eq_true, decide_eq_true_eq] at hp
      obtain ⟨h1, h2⟩ := h
      have := frzL_flat (f := frzV H d) (fun i => (cs.drop (i * P.cellsOf e)).take (P.cellsOf e)) (fun _ u => FT P k e u) (List.range n) fun j hj => by
        obtain ⟨us, ids, a, b⟩ := WT.frz (d := d) hp.2 (h2 j (List.mem_range.1 hj)) (by omega)
        exact ⟨us, ids, a, b⟩
      obtain ⟨us, ids, a1, a2, a3⟩ := this
      rw [chunks_len (by rw [h1, hp.1])] at a1
      rw [List.length_range] at a2
      have hul : ∀ (i : Nat) (u : List V), us[i]? = some u → u.length = P.cellsOf e := by
        intro i u hi
        have hi2 : i < us.length := by
          rcases Nat.lt_or_ge i us.length with h | h
          · exact h
          · rw [List.getElem?_eq_none h] at hi; cases hi
        exact FT.len hp.2 (a3 i i u (by simp [List.getElem?_range (show i < n by omega)]) hi)
      refine ⟨us.flatten, ids, a1, ?_⟩
      unfold FT; simp only [hu]
      refine ⟨by rw [flatten_len hul, a2, hp.1], fun j hj => ?_⟩
      have hg : us[j]? = some us[j] := by simp [show j < us.length by omega]
      rw [flatten_chunk hul hg]
      exact a3 j j us[j] (by simp [List.getElem?_range (show j < n by omega)]) hg
    · exact h.elim
theorem frees_app {a b : List V} : V.frees (a ++ b) = (V.frees a && V.frees b) := by
  induction a with
  | nil => simp [V.frees]
  | cons x a ih => simp [V.frees, ih, Bool.and_assoc]
theorem chunks_all {α : Type} {p : List α → Prop} (hn : p []) (hadd : ∀ a b, p a → p b → p (a ++ b)) {n m : Nat} {cs : List α} (h : cs.length = n * m) (hc : ∀ j, j < n → p ((cs.drop (j * m)).take m)) : p cs := by
  have : ∀ l : List (List α), (∀ x ∈ l, p x) → p l.flatten := by
    intro l
    induction l with
    | nil => intro _; exact hn
    | cons x l ih => intro hx; simp only [List.flatten_cons]; exact hadd _ _ (hx x (by simp)) (ih fun y hy => hx y (by simp [hy]))
  rw [← chunks_len h]
  refine this _ fun x hx => ?_
  obtain ⟨j, hj, rfl⟩ := List.mem_map.1 hx
  exact hc j (List.mem_range.1 hj)
theorem FT.fro : ∀ {k : Nat} {t : TypeId} {cs : List V}, plainT P k t = true → FT P k t cs → cs.all V.fro1 = true ∧ V.frees cs = true
  | 0, t, cs, hp, h => by simp [plainT] at hp
  | k + 1, t, cs, hp, h => by
    have add : ∀ a b : List V, (a.all V.fro1 = true ∧ V.frees a = true) → (b.all V.fro1 = true ∧ V.frees b = true) → ((a ++ b).all V.fro1 = true ∧ V.frees (a ++ b) = true) := by
      intro a b ⟨a1, a2⟩ ⟨b1, b2⟩
      exact ⟨by rw [List.all_append, a1, b1]; rfl, by rw [frees_app, a2, b2]; rfl⟩
    unfold plainT at hp
    unfold FT at h
    split at h
    · obtain ⟨b, rfl⟩ := h; exact ⟨rfl, rfl⟩
    · obtain ⟨b, rfl, -⟩ := h; exact ⟨rfl, rfl⟩
    · obtain ⟨b, rfl, -⟩ := h; exact ⟨rfl, rfl⟩
    · rename_i e hu
      simp only [hu, Bool.and_eq_true, decide_eq_true_eq] at hp
      obtain ⟨len, z, xs, rfl, -, -, -, h4, h5⟩ := h
      have := chunks_all (p := fun xs : List V => xs.all V.fro1 = true ∧ V.frees xs = true) ⟨rfl, rfl⟩ add h4 fun j hj => FT.fro hp.2 (h5 j hj)
      exact ⟨rfl, by simp only [V.frees, V.free, this.2, Bool.and_true]⟩
    · rename_i fs hu
      simp only [hu, Bool.and_eq_true, List.all_eq_true] at hp
      obtain ⟨h1, h2⟩ := h
      have hw := (tiles_whole h1 hp.1).2
      rw [List.drop_zero] at hw
      rw [← hw]
      have : ∀ l : List Field, (∀ f ∈ l, f ∈ fs.toList) → ((l.map fun f => (cs.drop f.offset).take (P.cellsOf f.type)).flatten.all V.fro1 = true ∧ V.frees (l.map fun f => (cs.drop f.offset).take (P.cellsOf f.type)).flatten = true) := by
        intro l
        induction l with
        | nil => intro _; exact ⟨rfl, rfl⟩
        | cons x l ih =>
          intro hx
          simp only [List.map_cons, List.flatten_cons]
          exact add _ _ (FT.fro (hp.2 x (hx x (by simp))) (h2 x (hx x (by simp)))) (ih fun y hy => hx y (by simp [hy]))
      exact this fs.toList fun f hf => hf
    · rename_i n e hu
      simp only [hu, Bool.and_eq_true, decide_eq_true_eq] at hp
      obtain ⟨h1, h2⟩ := h
      exact chunks_all (p := fun xs : List V => xs.all V.fro1 = true ∧ V.frees xs = true) ⟨rfl, rfl⟩ add (n := n) (m := P.cellsOf e) (by rw [h1, hp.1]) fun j hj => FT.fro hp.2 (h2 j hj)
    · exact h.elim
end
theorem enter_run {P : Program} {f : FuncId} {xs : Array Value} {w : World} (h : hasBody P f = true) : (callFunc f xs).run P w = .ok (.enter f xs) w := by
  unfold hasBody at h
  split at h
  · rename_i fn hfn
    simp only [Bool.and_eq_true, Bool.not_eq_true'] at h
    obtain ⟨h1, h2⟩ := h
    obtain ⟨c, hc⟩ := Option.isSome_iff_exists.1 h1
    have hne : ¬ fn.name = "runtime.NumGoroutine" := by simpa using h2
    simp [callFunc, hfn, hc, hne]
  · cases h
def FTs (P : Program) (k : Nat) : List TypeId → List V → Prop
  | [], vs => vs = []
  | t :: ts, vs => ∃ cs us, vs = argV P t cs :: us ∧ FT P k t cs ∧ FTs P k ts us
theorem argV_frz {P : Program} {k : Nat} {t : TypeId} {cs us : List V} {H : Heap} {ids : List Nat} (hp : plainT P k t = true) (hc : cs.length = P.cellsOf t) (h : frzL (frzV H 5) cs = some (us, ids)) (h6 : frzL (frzV H 6) cs = some (us, ids)) :
    ∃ ids, frzV H 6 (argV P t cs) = some (argV P t us, ids) := by
  have one : P.cellsOf t = 1 → ∃ ids, frzV H 6 (cs.headD .dead) = some (us.headD .dead, ids) := by
    intro h1
    match cs, h1 ▸ hc with
    | [v], _ =>
      simp only [frzL] at h6
      cases hv : frzV H 6 v with
      | none => rw [hv] at h6; cases h6
      | some p =>
        rw [hv] at h6
        simp only [Option.some.injEq, Prod.mk.injEq] at h6
        obtain ⟨rfl, -⟩ := h6
        exact ⟨p.2, by simp [hv]⟩
  have agg : ∃ ids, frzV H 6 (.agg cs) = some (.agg us, ids) := ⟨ids, by unfold frzV; simp only [h]⟩
  unfold argV
  cases k with
  | zero => simp [plainT] at hp
  | succ k =>
    unfold plainT at hp
    split at hp
    · rename_i hu; simp only [hu]; exact one (by simpa using hp)
    · rename_i hu; simp only [hu]; exact one (by simpa using hp)
    · rename_i hu; simp only [hu]; exact one (by simpa using hp)
    · rename_i e hu; simp only [hu]; simp only [Bool.and_eq_true, decide_eq_true_eq] at hp; exact one hp.1.1
    · rename_i fs hu; simp only [hu]; exact agg
    · rename_i fs hu; simp only [hu]; exact agg
    · cases hp
theorem WT.len {P : Program} {H : Heap} {k : Nat} {t : TypeId} {cs : List V} (hp : plainT P k t = true) (h : WT P k t cs H) : cs.length = P.cellsOf t := by
  cases k with
  | zero => simp [plainT] at hp
  | succ k =>
    unfold plainT at hp
    unfold WT at h
    split at h
    · rename_i hu; simp only [hu, decide_eq_true_eq] at hp; obtain ⟨b, rfl⟩ := h; simp [hp]
    · rename_i hu; simp only [hu, decide_eq_true_eq] at hp; obtain ⟨b, rfl, -⟩ := h; simp [hp]
    · rename_i hu; simp only [hu, decide_eq_true_eq] at hp; obtain ⟨b, rfl, -⟩ := h; simp [hp]
    · rename_i hu; simp only [hu, Bool.and_eq_true, decide_eq_true_eq] at hp
      rcases h with rfl | ⟨i, len, full, rfl, -⟩ <;> simp [hp.1.1]
    · exact h.1
    · exact h.1
    · exact h.elim
theorem frzL_more {H : Heap} : ∀ (d : Nat), (∀ v r, frzV H d v = some r → frzV H (d + 1) v = some r) := by
  intro d
  induction d with
  | zero => intro v r h; simp [frzV] at h
  | succ d ih =>
    have hl : ∀ cs r, frzL (frzV H d) cs = some r → frzL (frzV H (d + 1)) cs = some r := by
      intro cs
      induction cs with
      | nil => intro r h; exact h
      | cons v cs ihc =>
        intro r h
        simp only [frzL] at h ⊢
        cases hv : frzV H d v with
        | none => rw [hv] at h; cases h
        | some p =>
          rw [hv] at h
          cases hc : frzL (frzV H d) cs with
          | none => rw [hc] at h; cases h
          | some q =>
            rw [hc] at h
            rw [ih _ _ hv, ihc _ hc]
            exact h
    intro v r h
    unfold frzV at h ⊢
    split at h
    · rename_i s
      split at h
      · rename_i h0; rw [if_pos h0]; exact h
      · rename_i h0
        rw [if_neg h0]
        split at h
        · cases h
        · rename_i i o had
          split at h
          · rename_i cs e r hg
            try simp only [had]
            try simp only [hg]
            split at h
            · rename_i hle
              rw [if_pos hle]
              split at h
              · rename_i p hp
                rw [hl _ _ hp]; exact h
              · cases h
            · cases h
          · cases h
    · split at h
      · rename_i p hp; rw [hl _ _ hp]; exact h
      · cases h
    · split at h
      · rename_i p hp; rw [hl _ _ hp]; exact h
      · cases h
    · exact h
theorem frzL_more1 {H : Heap} {d : Nat} : ∀ {cs : List V} {r : List V × List Nat}, frzL (frzV H d) cs = some r → frzL (frzV H (d + 1)) cs = some r
  | [], r, h => h
  | v :: cs, r, h => by
    simp only [frzL] at h ⊢
    cases hv : frzV H d v with
    | none => rw [hv] at h; cases h
    | some p =>
      rw [hv] at h
      cases hc : frzL (frzV H d) cs with
      | none => rw [hc] at h; cases h
      | some q =>
        rw [hc] at h
        rw [frzL_more d _ _ hv, frzL_more1 hc]
        exact h
theorem argV_fro {P : Program} {k : Nat} {t : TypeId} {cs : List V} (hp : plainT P k t = true) (h : cs.all V.fro1 = true ∧ V.frees cs = true) (hc : cs.length = P.cellsOf t) : (argV P t cs).fro = true ∧ (argV P t cs).free = true := by
  have one : P.cellsOf t = 1 → (cs.headD .dead).fro = true ∧ (cs.headD .dead).free = true := by
    intro h1
    match cs, h1 ▸ hc with
    | [v], _ =>
      obtain ⟨a, b⟩ := h
      simp only [List.all_cons, List.all_nil, Bool.and_true] at a
      simp only [V.frees, Bool.and_true] at b
      refine ⟨?_, by simpa using b⟩
      cases v <;> simp_all [V.fro, V.fro1]
  have agg : (V.agg cs).fro = true ∧ (V.agg cs).free = true := ⟨by simpa [V.fro] using h.1, by simpa [V.free] using h.2⟩
  unfold argV
  cases k with
  | zero => simp [plainT] at hp
  | succ k =>
    unfold plainT at hp
    split at hp
    · rename_i hu; simp only [hu]; exact one (by simpa using hp)
    · rename_i hu; simp only [hu]; exact one (by simpa using hp)
    · rename_i hu; simp only [hu]; exact one (by simpa using hp)
    · rename_i e hu; simp only [hu]; simp only [Bool.and_eq_true, decide_eq_true_eq] at hp; exact one hp.1.1
    · rename_i fs hu; simp only [hu]; exact agg
    · rename_i fs hu; simp only [hu]; exact agg
    · cases hp
theorem WTs.frz {P : Program} {k : Nat} {H : Heap} : ∀ {ts : List TypeId} {us : List V}, ts.all (fun t => plainT P k t && decide (sdep P k t ≤ 5)) = true → WTs P k H ts us →
    ∃ us' ids, frzL (frzV H 6) us = some (us', ids) ∧ FTs P k ts us' ∧ us'.all V.fro = true ∧ V.frees us' = true
  | [], us, _, h => by cases h; exact ⟨[], [], rfl, rfl, rfl, rfl⟩
  | t :: ts, us, hp, ⟨cs, us2, e, h, r⟩ => by
    subst e
    simp only [List.all_cons, Bool.and_eq_true, decide_eq_true_eq] at hp
    obtain ⟨v, ids, a, b⟩ := WT.frz (d := 5) hp.1.1 h hp.1.2
    obtain ⟨vs, ids2, c1, c2, c3, c4⟩ := WTs.frz (ts := ts) (by simpa using hp.2) r
    obtain ⟨ids3, e3⟩ := argV_frz hp.1.1 (WT.len hp.1.1 h) a (frzL_more1 a)
    have f1 := argV_fro hp.1.1 (FT.fro hp.1.1 b) (FT.len hp.1.1 b)
    refine ⟨argV P t v :: vs, ids3 ++ ids2, by simp only [frzL, e3, c1], ⟨_, _, rfl, b, c2⟩, by simp only [List.all_cons, f1.1, c3, Bool.and_self], by simp only [V.frees, f1.2, c4, Bool.and_self]⟩
theorem law_pure {f : Nat → List V → Heap → Option R} {kk : Nat → List V → Option R} (he : ∀ n a H, f (n + 1) a H = pureA a H (kk n)) {P : Program} {k : Nat} {ts : List TypeId} (hp : ts.all (fun t => plainT P k t && decide (sdep P k t ≤ 5)) = true)
    (hlaw : ∀ (H : Heap) (us : List V), FTs P k ts us → us.all V.fro = true → V.frees us = true → Tot (fun n => f n us H) fun v _ => v = .bool true) {H : Heap} {us : List V} (h : WTs P k H ts us) : ∃ n H', f n us H = some (.bool true, H') := by
  obtain ⟨us', ids, h1, h2, h3, h4⟩ := WTs.frz hp h
  obtain ⟨v, G, rfl, n0, hn⟩ := hlaw (killL ids H) us' h2 h3 h4
  refine ⟨n0 + 1, G, ?_⟩
  have := hn (n0 + 1) (by omega)
  simp only [he] at this ⊢
  unfold pureA at this ⊢
  rw [frzAs_fro h3] at this
  have e : frzAs us H = some (us', killL ids H) := by unfold frzAs; rw [h1]
  rw [e]
  exact this
end Go.AM
end
section
set_option linter.unusedVariables false
set_option linter.unusedSimpArgs false
set_option linter.unusedSimpArgs false
set_option linter.unusedVariables false
set_option maxRecDepth 100000
namespace Go.AM
abbrev Gv (f : Nat → Option R) (u : V) (H : Heap) : Prop := Tot f fun v H' => H' = H ∧ v = u
theorem Gv.bind {f : Nat → Option R} {u : V} {H : Heap} {k : Nat → R → Option R} {Q : V → Heap → Prop} (hf : Gv f u H) (hk : Tot (fun n => k n (u, H)) Q) : Tot (fun n => bnd (f n) (k n)) Q :=
  Tot.bind hf fun v H' ⟨h1, h2⟩ => by subst h1 h2; exact hk
namespace N
variable {H : Heap}
abbrev nilS : V := .slice ⟨none, 0, 0, false⟩
def oArena : O := .cells [nilS, .int .i64 (-1), .int .i64 0] ty_arena_Arena false
def oMesh (n : Int) (a b c d : Nat) : O := .cells [.int .i64 n, .ptr (some (a, 0)), .ptr (some (b, 0)), nilS, nilS, .map (some c), .map (some d)] ty_mesh_Mesh false
def oEng (n m : Int) (a b : Nat) (l s : Int) (p : V) : O := .cells [.int .i64 n, .int .i64 m, .map (some a), .map (some b), .int .i64 l, .int .i64 s, p] ty_pdt_Engine false
theorem eq_mesh {i o : Nat} : eqlA P ty_p_mesh_Mesh (.ptr (some (i, o))) (.ptr none) = some (.bool false) := by kernel_rfl
theorem eq_arena {i o : Nat} : eqlA P ty_p_arena_Arena (.ptr (some (i, o))) (.ptr none) = some (.bool false) := by kernel_rfl
theorem eq_eng {i o : Nat} : eqlA P ty_p_pdt_Engine (.ptr (some (i, o))) (.ptr none) = some (.bool false) := by kernel_rfl
theorem bT : asB (.bool true) = some true := rfl
theorem bF : asB (.bool false) = some false := rfl
theorem arena_New_P : Tot (fun n => f_arena_New n [] H) fun v H' => v = .ptr (some (H.n, 0)) ∧ H' = H.push oArena := by
  refine arena_New_tot ?_
  simp only [arena_New_b]
  refine Tot.pure (show flA _ _ _ = some (.agg [nilS, .int .i64 (-1), .int .i64 0]) from rfl) ?_
  refine Tot.pure (show boxA _ _ = some oArena from rfl) ?_
  exact Tot.ret ⟨rfl, rfl⟩
theorem mesh_New_P {n : Int} (h : 1 ≤ n ∧ n ≤ 17179869184) : Tot (fun k => f_mesh_New k [.int .i64 n] H) fun v H' => v = .ptr (some (H.n + 4, 0)) ∧ H' = ((((H.push oArena).push oArena).push (.map [] 0)).push (.map [] 0)).push (oMesh n H.n (H.n + 1) (H.n + 2) (H.n + 3)) := by
  refine mesh_New_tot ?_
  simp only [mesh_New_b]
  have e1 : arA .lss (.int .i64 n) (.int .i64 1) = some (.bool false) := by simp (disch := omega) []; omega
  have e2 : arA .gtr (.int .i64 n) (.int .i64 17179869184) = some (.bool false) := by simp (disch := omega) []; omega
  refine Tot.pure e1 ?_
  refine Tot.pure bF ?_
  simp only [Bool.false_eq_true, if_false]
  refine Tot.pure e2 ?_
  refine Tot.pure bF ?_
  simp only [Bool.false_eq_true, if_false]
  refine Tot.bind arena_New_P ?_
  rintro v H1 ⟨rfl, rfl⟩
  refine Tot.bind arena_New_P ?_
  rintro v H1 ⟨rfl, rfl⟩
  dsimp only
  refine Tot.pure (show flA _ _ _ = some (.agg [.int .i64 n, .ptr (some (H.n, 0)), .ptr (some (H.n + 1, 0)), nilS, nilS, .map (some (H.n + 2)), .map (some (H.n + 3))]) from rfl) ?_
  refine Tot.pure (show boxA _ _ = some (oMesh n H.n (H.n + 1) (H.n + 2) (H.n + 3)) from rfl) ?_
  exact Tot.ret ⟨rfl, rfl⟩
theorem bucket_New_P {n : Int} (h : 1 ≤ n ∧ n ≤ 17179869184) : Tot (fun k => f_bucket_New k [.int .i64 n, .int .i64 16] H) fun v H' => v = .ptr (some (H.n + 1, 0)) ∧ ∃ o p, H' = (H.push o).push p := by
  refine bucket_New_tot ?_
  simp only [bucket_New_b]
  have e1 : arA .lss (.int .i64 n) (.int .i64 1) = some (.bool false) := by simp (disch := omega) []; omega
  have e2 : arA .gtr (.int .i64 n) (.int .i64 17179869184) = some (.bool false) := by simp (disch := omega) []; omega
  refine Tot.pure e1 ?_
  refine Tot.pure bF ?_
  simp only [Bool.false_eq_true, if_false]
  refine Tot.pure e2 ?_
  refine Tot.pure bF ?_
  simp only [Bool.false_eq_true, if_false]
  refine Tot.pure (show arA .lss (.int .i64 16) (.int .i64 1) = some (.bool false) from rfl) ?_
  refine Tot.pure bF ?_
  simp only [Bool.false_eq_true, if_false]
  refine Tot.pure (show arA .gtr (.int .i64 16) (.int .i64 64) = some (.bool false) from rfl) ?_
  refine Tot.pure bF ?_
  simp only [Bool.false_eq_true, if_false]
  refine Tot.pure (show arA .mul (.int .i64 16) (.int .i64 16) = some (.int .i64 256) from rfl) ?_
  obtain ⟨o, ho⟩ : ∃ o, mkSl 1 24 ty_sl_int [nilS] (.int .i64 256) (.int .i64 256) = some (o, 256) := ⟨_, rfl⟩
  refine Tot.pure ho ?_
  dsimp only
  refine Tot.pure (show flA _ _ _ = some (.agg [.int .i64 n, .int .i64 16, .slice ⟨some (H.n, 0), 256, 1, false⟩, .int .i64 0]) from rfl) ?_
  refine Tot.pure (show boxA _ _ = some (.cells [.int .i64 n, .int .i64 16, .slice ⟨some (H.n, 0), 256, 1, false⟩, .int .i64 0] ty_bucket_Grid false) from rfl) ?_
  exact Tot.ret ⟨rfl, _, _, rfl⟩
theorem side_P {i : Nat} {n : Int} {a b c d : Nat} (h : H.get i = oMesh n a b c d) : Tot (fun k => f_mesh_Mesh_Side k [.ptr (some (i, 0))] H) fun v H' => v = .int .i64 n ∧ H' = H := by
  refine mesh_Mesh_Side_tot ?_
  simp only [mesh_Mesh_Side_b]
  refine Tot.pure eq_mesh ?_
  refine Tot.pure bF ?_
  simp only [Bool.false_eq_true, if_false]
  refine Tot.pure (show nilC (.ptr (some (i, 0))) = some (.ptr (some (i, 0))) from rfl) ?_
  refine Tot.pure (show faA 0 (.ptr (some (i, 0))) = some (.ptr (some (i, 0))) from rfl) ?_
  refine Tot.pure (show ld1 (.ptr (some (i, 0))) H = some (.int .i64 n) by simp [ld1, h, oMesh]) ?_
  exact Tot.ret ⟨rfl, rfl⟩
theorem nil_frz : frzR nilS H = some (.list 0 0 [], H) := rfl
theorem all_P {i : Nat} (h : H.get i = oArena) : Tot (fun k => f_arena_Arena_All k [.ptr (some (i, 0))] H) fun v H' => v = .list 0 0 [] ∧ H' = H := by
  refine arena_Arena_All_tot ?_
  simp only [arena_Arena_All_b]
  refine Tot.pure eq_arena ?_
  refine Tot.pure bF ?_
  simp only [Bool.false_eq_true, if_false]
  refine Tot.pure (show nilC (.ptr (some (i, 0))) = some (.ptr (some (i, 0))) from rfl) ?_
  refine Tot.pure (show faA 0 (.ptr (some (i, 0))) = some (.ptr (some (i, 0))) from rfl) ?_
  refine Tot.pure (show ld1 (.ptr (some (i, 0))) H = some nilS by simp [ld1, h, oArena]) ?_
  refine Tot.pure (show lenSl nilS = some (.int .i64 0) from rfl) ?_
  refine arena_Arena_All.l0_tot Big.id fun m' _ => ?_
  simp only [arena_Arena_All.l0_b]
  refine Tot.pure (show arA .lss (.int .i64 0) (.int .i64 0) = some (.bool false) from rfl) ?_
  refine Tot.pure bF ?_
  simp only [Bool.false_eq_true, if_false]
  exact Tot.frz nil_frz ⟨rfl, rfl⟩
theorem dump_P {i : Nat} {n : Int} {a b c d : Nat} (h : H.get i = oMesh n a b c d) (ha : H.get a = oArena) (hb : H.get b = oArena) (hi : i < H.n) (hA : a < H.n) (hB : b < H.n) :
    Tot (fun k => f_mesh_Mesh_Dump k [.ptr (some (i, 0))] H) fun v H' => v = .agg [.int .i64 n, .list 0 0 [], .list 0 0 []] ∧ Ext0 H H' := by
  refine mesh_Mesh_Dump_tot ?_
  simp only [mesh_Mesh_Dump_b]
  refine Tot.pure eq_mesh ?_
  refine Tot.pure bF ?_
  simp only [Bool.false_eq_true, if_false]
  refine Tot.pure (show nilC (.ptr (some (i, 0))) = some (.ptr (some (i, 0))) from rfl) ?_
  refine Tot.pure (show faA 0 (.ptr (some (i, 0))) = some (.ptr (some (i, 0))) from rfl) ?_
  obtain ⟨G, hG⟩ : ∃ G, G = H.push (.cells [.int .i64 0, nilS, nilS] ty_api_Dump false) := ⟨_, rfl⟩
  rw [← hG]
  have Gi : G.get i = oMesh n a b c d := by rw [hG, Heap.gqz (by omega)]; exact h
  have Gn : G.n = H.n + 1 := by rw [hG]; rfl
  refine Tot.pure (show ld1 (.ptr (some (i, 0))) G = some (.int .i64 n) by simp [ld1, Gi, oMesh]) ?_
  refine Tot.pure (show flA _ _ _ = some (.agg [.int .i64 n, nilS, nilS]) from rfl) ?_
  have st : stA 3 (.ptr (some (G.n, 0))) (.agg [.int .i64 n, nilS, nilS]) (G.push (.cells [.int .i64 0, nilS, nilS] ty_api_Dump false)) = some ((G.push (.cells [.int .i64 0, nilS, nilS] ty_api_Dump false)).set G.n (.cells [.int .i64 n, nilS, nilS] ty_api_Dump false)) := by
    simp [stA, Heap.gpz, V.cells, V.one, lset]
  refine Tot.pure st ?_
  obtain ⟨F, hF⟩ : ∃ F, F = (G.push (.cells [.int .i64 0, nilS, nilS] ty_api_Dump false)).set G.n (.cells [.int .i64 n, nilS, nilS] ty_api_Dump false) := ⟨_, rfl⟩
  rw [← hF]
  have kF : Ext0 H F := by rw [hF, hG]; exact Keep.ext (Keep.auto)
  have Fi : F.get i = oMesh n a b c d := by rw [kF.g hi]; exact h
  have Fa : F.get a = oArena := by rw [kF.g hA]; exact ha
  have Fb : F.get b = oArena := by rw [kF.g hB]; exact hb
  have F0 : F.get H.n = .cells [.int .i64 0, nilS, nilS] ty_api_Dump false := by rw [hF, Heap.gtz (by omega), Heap.gqz (by omega), hG, Heap.gpz rfl]
  have F1 : F.get G.n = .cells [.int .i64 n, nilS, nilS] ty_api_Dump false := by rw [hF, Heap.gsz rfl]
  have Fn : F.n = H.n + 2 := by rw [hF]; simp [Gn]
  clear hF hG st
  refine Tot.pure (show nilC (.ptr (some (i, 0))) = some (.ptr (some (i, 0))) from rfl) ?_
  refine Tot.pure (show faA 1 (.ptr (some (i, 0))) = some (.ptr (some (i, 1))) from rfl) ?_
  refine Tot.pure (show ld1 (.ptr (some (i, 1))) F = some (.ptr (some (a, 0))) by simp [ld1, Fi, oMesh]) ?_
  refine Tot.bind (all_P Fa) ?_
  rintro v H1 ⟨rfl, hH⟩
  rw [hH]
  clear hH
  dsimp only
  refine Tot.pure (show lenSl (.list 0 0 []) = some (.int .i64 0) from rfl) ?_
  refine mesh_Mesh_Dump.l0_tot Big.id fun m' _ => ?_
  simp only [mesh_Mesh_Dump.l0_b]
  refine Tot.pure (show arA .lss (.int .i64 0) (.int .i64 0) = some (.bool false) from rfl) ?_
  refine Tot.pure bF ?_
  simp only [Bool.false_eq_true, if_false]
  refine mesh_Mesh_Dump.p1_tot ?_
  simp only [mesh_Mesh_Dump.p1_b]
  refine Tot.pure (show nilC (.ptr (some (i, 0))) = some (.ptr (some (i, 0))) from rfl) ?_
  refine Tot.pure (show faA 2 (.ptr (some (i, 0))) = some (.ptr (some (i, 2))) from rfl) ?_
  refine Tot.pure (show ld1 (.ptr (some (i, 2))) F = some (.ptr (some (b, 0))) by simp [ld1, Fi, oMesh]) ?_
  refine Tot.bind (all_P Fb) ?_
  rintro v H1 ⟨rfl, hH⟩
  rw [hH]
  clear hH
  dsimp only
  refine Tot.pure (show lenSl (.list 0 0 []) = some (.int .i64 0) from rfl) ?_
  refine mesh_Mesh_Dump.l2_tot Big.id fun m' _ => ?_
  simp only [mesh_Mesh_Dump.l2_b]
  refine Tot.pure (show arA .lss (.int .i64 0) (.int .i64 0) = some (.bool false) from rfl) ?_
  refine Tot.pure bF ?_
  simp only [Bool.false_eq_true, if_false]
  refine Tot.pure (show ldN 3 (.ptr (some (G.n, 0))) F = some (.agg [.int .i64 n, nilS, nilS]) by simp [ldN, F1]) ?_
  have st2 : stA 3 (.ptr (some (H.n, 0))) (.agg [.int .i64 n, nilS, nilS]) F = some (F.set H.n (.cells [.int .i64 n, nilS, nilS] ty_api_Dump false)) := by
    simp [stA, F0, V.cells, V.one, lset]
  refine Tot.pure st2 ?_
  refine Tot.pure (show ldN 3 (.ptr (some (H.n, 0))) (F.set H.n (.cells [.int .i64 n, nilS, nilS] ty_api_Dump false)) = some (.agg [.int .i64 n, nilS, nilS]) by simp [ldN, Heap.gsz]) ?_
  refine Tot.frz (v' := .agg [.int .i64 n, .list 0 0 [], .list 0 0 []]) rfl ⟨rfl, ?_⟩
  exact kF.trans (Ch.set (X := fun i => i = H.n) rfl) fun i hi hx => by omega
end N
end Go.AM
end
section
set_option linter.unusedVariables false
set_option linter.unusedSimpArgs false
set_option linter.unusedSimpArgs false
set_option linter.unusedVariables false
set_option maxRecDepth 100000
namespace Go.AM
namespace N
variable {H : Heap}
theorem lay_P {i : Nat} {n : Int} {a b c d : Nat} (hn : 1 ≤ n ∧ n ≤ 17179869184) (h : H.get i = oMesh n a b c d) (ha : H.get a = oArena) (hb : H.get b = oArena) (hi : i < H.n) (hA : a < H.n) (hB : b < H.n) :
    Tot (fun k => f_pdt_lay k [.ptr (some (i, 0)), .int .i64 n] H) fun v H' => (∃ j, v = .ptr (some (j, 0))) ∧ Ext0 H H' := by
  refine pdt_lay_tot ?_
  simp only [pdt_lay_b]
  refine Tot.bind (side_P h) ?_
  rintro v H1 ⟨rfl, hH⟩
  rw [hH]
  clear hH
  dsimp only
  refine Tot.bind (bucket_New_P hn) ?_
  rintro v H1 ⟨rfl, o, p, hH⟩
  rw [hH]
  clear hH
  dsimp only
  refine Tot.pure (show flA _ _ _ = some (.agg [.ptr (some (i, 0)), .ptr (some (H.n + 1, 0)), .int .i64 n, .map (some (H.n + 2)), .map (some (H.n + 3))]) from rfl) ?_
  refine Tot.pure (show boxA _ _ = some (.cells [.ptr (some (i, 0)), .ptr (some (H.n + 1, 0)), .int .i64 n, .map (some (H.n + 2)), .map (some (H.n + 3))] ty_pdt_sheet false) from rfl) ?_
  obtain ⟨G, hG⟩ : ∃ G, G = ((((H.push o).push p).push (.map [] 0)).push (.map [] 0)).push (.cells [.ptr (some (i, 0)), .ptr (some (H.n + 1, 0)), .int .i64 n, .map (some (H.n + 2)), .map (some (H.n + 3))] ty_pdt_sheet false) := ⟨_, rfl⟩
  have kG : Ext0 H G := by rw [hG]; exact Keep.ext (Keep.auto)
  have Gn : G.n = H.n + 5 := by rw [hG]; rfl
  rw [← hG]
  clear hG
  refine Tot.bind (dump_P (by rw [kG.g hi]; exact h) (by rw [kG.g hA]; exact ha) (by rw [kG.g hB]; exact hb) (by omega) (by omega) (by omega)) ?_
  rintro v F ⟨rfl, kF⟩
  have kF' : Ext0 H F := kG.t kF
  dsimp only
  obtain ⟨s, hs⟩ : ∃ s, stA 3 (.ptr (some (F.n, 0))) (.agg [.int .i64 n, .list 0 0 [], .list 0 0 []]) (F.push (.cells [.int .i64 0, nilS, nilS] ty_api_Dump false)) = some s ∧ s.get F.n = .cells [.int .i64 n, .list 0 0 [], .list 0 0 []] ty_api_Dump false ∧ Ext0 F s := by
    refine ⟨(F.push (.cells [.int .i64 0, nilS, nilS] ty_api_Dump false)).set F.n (.cells [.int .i64 n, .list 0 0 [], .list 0 0 []] ty_api_Dump false), by simp [stA, Heap.gpz, V.cells, V.one, lset], Heap.gsz rfl, Keep.ext (Keep.auto)⟩
  obtain ⟨hs1, hs2, hs3⟩ := hs
  refine Tot.pure hs1 ?_
  refine Tot.pure (show faA 1 (.ptr (some (F.n, 0))) = some (.ptr (some (F.n, 1))) from rfl) ?_
  refine Tot.pure (show ld1 (.ptr (some (F.n, 1))) s = some (.list 0 0 []) by simp [ld1, hs2]) ?_
  refine Tot.pure (show lenSl (.list 0 0 []) = some (.int .i64 0) from rfl) ?_
  refine pdt_lay.l0_tot Big.id fun m' _ => ?_
  simp only [pdt_lay.l0_b]
  refine Tot.pure (show arA .lss (.int .i64 0) (.int .i64 0) = some (.bool false) from rfl) ?_
  refine Tot.pure bF ?_
  simp only [Bool.false_eq_true, if_false]
  refine pdt_lay.p1_tot ?_
  simp only [pdt_lay.p1_b]
  refine Tot.pure (show faA 2 (.ptr (some (F.n, 0))) = some (.ptr (some (F.n, 2))) from rfl) ?_
  refine Tot.pure (show ld1 (.ptr (some (F.n, 2))) s = some (.list 0 0 []) by simp [ld1, hs2]) ?_
  refine Tot.pure (show lenSl (.list 0 0 []) = some (.int .i64 0) from rfl) ?_
  refine pdt_lay.l2_tot Big.id fun m' _ => ?_
  simp only [pdt_lay.l2_b]
  refine Tot.pure (show arA .lss (.int .i64 0) (.int .i64 0) = some (.bool false) from rfl) ?_
  refine Tot.pure bF ?_
  simp only [Bool.false_eq_true, if_false]
  exact Tot.ret ⟨⟨_, rfl⟩, kF'.t hs3⟩
theorem clear_P {i : Nat} {n m l s : Int} {a b : Nat} {p : V} (hn : 1 ≤ n ∧ n ≤ 17179869184) (h : H.get i = oEng n m a b l s p) (ha : H.get a = .map [] 0) (hb : H.get b = .map [] 0) (hi : i < H.n) (hA : a < H.n) (hB : b < H.n) (n1 : a ≠ i) (n2 : b ≠ i) :
    Tot (fun k => f_pdt_Engine_clear k [.ptr (some (i, 0))] H) fun v H' => ∃ j, H'.get i = oEng n m a b 0 0 (.ptr (some (j, 0))) ∧ H'.get a = .map [] 0 ∧ H.n ≤ H'.n := by
  refine pdt_Engine_clear_tot ?_
  simp only [pdt_Engine_clear_b]
  simp only [show ∀ H : Heap, H.more 0 = H from fun _ => rfl]
  refine Tot.pure (show nilC (.ptr (some (i, 0))) = some (.ptr (some (i, 0))) from rfl) ?_
  refine Tot.pure (show faA 2 (.ptr (some (i, 0))) = some (.ptr (some (i, 2))) from rfl) ?_
  refine Tot.pure (show ld1 (.ptr (some (i, 2))) H = some (.map (some a)) by simp [ld1, h, oEng]) ?_
  refine Tot.pure (show clrM (.map (some a)) H = some (H.set a (.map [] 0)) by simp [clrM, mapOf, ha]) ?_
  refine Tot.pure (show nilC (.ptr (some (i, 0))) = some (.ptr (some (i, 0))) from rfl) ?_
  refine Tot.pure (show faA 3 (.ptr (some (i, 0))) = some (.ptr (some (i, 3))) from rfl) ?_
  have h1 : (H.set a (.map [] 0)).get i = oEng n m a b l s p := by rw [Heap.gtz (Ne.symm n1)]; exact h
  refine Tot.pure (show ld1 (.ptr (some (i, 3))) (H.set a (.map [] 0)) = some (.map (some b)) by simp [ld1, h1, oEng]) ?_
  have hb1 : (H.set a (.map [] 0)).get b = .map [] 0 := by rw [Heap.get_set]; split <;> simp [hb]
  refine Tot.pure (show clrM (.map (some b)) (H.set a (.map [] 0)) = some ((H.set a (.map [] 0)).set b (.map [] 0)) by simp [clrM, mapOf, hb1]) ?_
  obtain ⟨G, hG⟩ : ∃ G, G = (H.set a (.map [] 0)).set b (.map [] 0) := ⟨_, rfl⟩
  rw [← hG]
  have Gi : G.get i = oEng n m a b l s p := by rw [hG, Heap.gtz (Ne.symm n2)]; exact h1
  have Ga : G.get a = .map [] 0 := by rw [hG, Heap.get_set]; split; rfl; exact Heap.gsz rfl
  have Gn : G.n = H.n := by rw [hG]; simp
  clear hG h1 hb1
  refine Tot.pure (show nilC (.ptr (some (i, 0))) = some (.ptr (some (i, 0))) from rfl) ?_
  refine Tot.pure (show faA 4 (.ptr (some (i, 0))) = some (.ptr (some (i, 4))) from rfl) ?_
  have s1 : stA 1 (.ptr (some (i, 4))) (.int .i64 0) G = some (G.set i (oEng n m a b 0 s p)) := by simp [stA, Gi, oEng, V.cells, V.one, lset]
  refine Tot.pure s1 ?_
  obtain ⟨F, hF⟩ : ∃ F, F = G.set i (oEng n m a b 0 s p) := ⟨_, rfl⟩
  rw [← hF]
  have Fi : F.get i = oEng n m a b 0 s p := by rw [hF, Heap.gsz rfl]
  have Fa : F.get a = .map [] 0 := by rw [hF, Heap.gtz n1]; exact Ga
  have Fn : F.n = H.n := by rw [hF]; simp [Gn]
  clear hF s1 Gi Ga
  refine Tot.pure (show nilC (.ptr (some (i, 0))) = some (.ptr (some (i, 0))) from rfl) ?_
  refine Tot.pure (show faA 0 (.ptr (some (i, 0))) = some (.ptr (some (i, 0))) from rfl) ?_
  have l0 : ld1 (.ptr (some (i, 0))) F = some (.int .i64 n) := by simp [ld1, Fi, oEng]
  refine Tot.pure l0 ?_
  refine Tot.bind (mesh_New_P hn) ?_
  rintro v K ⟨rfl, hK⟩
  have kK : Ext0 F K := by rw [hK]; exact Keep.ext (Keep.auto)
  have Kn : K.n = F.n + 5 := by rw [hK]; rfl
  have Km : K.get (F.n + 4) = oMesh n F.n (F.n + 1) (F.n + 2) (F.n + 3) := by rw [hK]; exact Heap.gpz (by rfl)
  have K0 : K.get F.n = oArena := by rw [hK]; simp (disch := first | omega | (simp only [npz, nsz, nmz] <;> omega) | (simp <;> omega) | fail) [lhz, lgz, sgz, faA_mk, boxA_agg, Heap.gqz, Heap.gpz, Heap.gtz, Heap.gsz, gmz, npz, nsz, nmz, chk_agg, ]
  have K1 : K.get (F.n + 1) = oArena := by rw [hK]; simp (disch := first | omega | (simp only [npz, nsz, nmz] <;> omega) | (simp <;> omega) | fail) [lhz, lgz, sgz, faA_mk, boxA_agg, Heap.gqz, Heap.gpz, Heap.gtz, Heap.gsz, gmz, npz, nsz, nmz, chk_agg, ]
  clear hK
  have Ki : K.get i = oEng n m a b 0 s p := by rw [kK.g (by omega)]; exact Fi
  have Ka : K.get a = .map [] 0 := by rw [kK.g (by omega)]; exact Fa
  dsimp only
  refine Tot.pure (show nilC (.ptr (some (i, 0))) = some (.ptr (some (i, 0))) from rfl) ?_
  refine Tot.pure (show faA 0 (.ptr (some (i, 0))) = some (.ptr (some (i, 0))) from rfl) ?_
  refine Tot.pure (show ld1 (.ptr (some (i, 0))) K = some (.int .i64 n) by simp [ld1, Ki, oEng]) ?_
  refine Tot.chk (by rw [l0]; simp [chk, V.beq]) ?_
  refine Tot.bind (lay_P hn Km K0 K1 (by omega) (by omega) (by omega)) ?_
  rintro v M ⟨⟨j, rfl⟩, kM⟩
  have Mi : M.get i = oEng n m a b 0 s p := by rw [kM.g (by omega)]; exact Ki
  have Ma : M.get a = .map [] 0 := by rw [kM.g (by omega)]; exact Ka
  have Mn := kM.n
  dsimp only
  refine Tot.pure (show nilC (.ptr (some (i, 0))) = some (.ptr (some (i, 0))) from rfl) ?_
  refine Tot.pure (show faA 5 (.ptr (some (i, 0))) = some (.ptr (some (i, 5))) from rfl) ?_
  refine Tot.pure (show stA 1 (.ptr (some (i, 5))) (.int .i64 0) M = some (M.set i (oEng n m a b 0 0 p)) by simp [stA, Mi, oEng, V.cells, V.one, lset]) ?_
  refine Tot.pure (show nilC (.ptr (some (i, 0))) = some (.ptr (some (i, 0))) from rfl) ?_
  refine Tot.pure (show faA 6 (.ptr (some (i, 0))) = some (.ptr (some (i, 6))) from rfl) ?_
  have s3 : ∀ G : Heap, G.get i = oEng n m a b 0 0 p → stA 1 (.ptr (some (i, 6))) (.ptr (some (j, 0))) G = some (G.set i (oEng n m a b 0 0 (.ptr (some (j, 0))))) := by
    intro G hg
    simp [stA, hg, oEng, V.cells, V.one, lset]
  refine Tot.pure (s3 _ (Heap.gsz rfl)) ?_
  exact Tot.ret ⟨j, Heap.gsz rfl, by rw [Heap.gtz n1, Heap.gtz n1]; exact Ma, by simp; omega⟩
end N
end Go.AM
end
section
set_option linter.unusedVariables false
set_option linter.unusedSimpArgs false
set_option linter.unusedSimpArgs false
set_option linter.unusedVariables false
set_option maxRecDepth 100000
namespace Go.AM
namespace N
variable {H : Heap}
theorem open_good {n m : Int} (h : (1 ≤ n ∧ n ≤ 1073741824) ∧ 1 ≤ m ∧ m ≤ 16777216) :
    Tot (fun k => f_pdt_Open k [.int .i64 n, .int .i64 m] H) fun v H' => v = .tuple [.ptr (some (H.n + 2, 0)), .int .i64 0] ∧ ∃ j, H'.get (H.n + 2) = oEng n m H.n (H.n + 1) 0 0 (.ptr (some (j, 0))) ∧ H'.get H.n = .map [] 0 ∧ H.n + 3 ≤ H'.n := by
  refine pdt_Open_tot ?_
  simp only [pdt_Open_b]
  have e1 : arA .lss (.int .i64 n) (.int .i64 1) = some (.bool false) := by simp (disch := omega) []; omega
  have e2 : arA .gtr (.int .i64 n) (.int .i64 1073741824) = some (.bool false) := by simp (disch := omega) []; omega
  have e3 : arA .lss (.int .i64 m) (.int .i64 1) = some (.bool false) := by simp (disch := omega) []; omega
  have e4 : arA .gtr (.int .i64 m) (.int .i64 16777216) = some (.bool false) := by simp (disch := omega) []; omega
  refine Tot.pure e1 ?_
  refine Tot.pure bF ?_
  simp only [Bool.false_eq_true, if_false]
  refine Tot.pure e2 ?_
  refine Tot.pure bF ?_
  simp only [Bool.false_eq_true, if_false]
  refine Tot.pure e3 ?_
  refine Tot.pure bF ?_
  simp only [Bool.false_eq_true, if_false]
  refine Tot.pure e4 ?_
  refine Tot.pure bF ?_
  simp only [Bool.false_eq_true, if_false]
  refine Tot.pure (show flA _ _ _ = some (.agg [.int .i64 n, .int .i64 m, .map (some H.n), .map (some (H.n + 1)), .int .i64 0, .int .i64 0, .ptr none]) from rfl) ?_
  refine Tot.pure (show boxA _ _ = some (oEng n m H.n (H.n + 1) 0 0 (.ptr none)) from rfl) ?_
  obtain ⟨G, hG⟩ : ∃ G, G = ((H.push (.map [] 0)).push (.map [] 0)).push (oEng n m H.n (H.n + 1) 0 0 (.ptr none)) := ⟨_, rfl⟩
  rw [← hG]
  have G0 : G.get H.n = .map [] 0 := by rw [hG]; simp (disch := first | omega | (simp only [npz, nsz, nmz] <;> omega) | (simp <;> omega) | fail) [lhz, lgz, sgz, faA_mk, boxA_agg, Heap.gqz, Heap.gpz, Heap.gtz, Heap.gsz, gmz, npz, nsz, nmz, chk_agg, ]
  have G1 : G.get (H.n + 1) = .map [] 0 := by rw [hG]; simp (disch := first | omega | (simp only [npz, nsz, nmz] <;> omega) | (simp <;> omega) | fail) [lhz, lgz, sgz, faA_mk, boxA_agg, Heap.gqz, Heap.gpz, Heap.gtz, Heap.gsz, gmz, npz, nsz, nmz, chk_agg, ]
  have G2 : G.get (H.n + 2) = oEng n m H.n (H.n + 1) 0 0 (.ptr none) := by rw [hG]; exact Heap.gpz (by rfl)
  have Gn : G.n = H.n + 3 := by rw [hG]; rfl
  clear hG
  refine Tot.bind (clear_P (i := H.n + 2) (by omega) G2 G0 G1 (by omega) (by omega) (by omega) (by omega) (by omega)) ?_
  rintro v K ⟨j, k1, k2, k3⟩
  exact Tot.ret ⟨rfl, j, k1, k2, show _ ≤ K.n by omega⟩
theorem open_bad {n m : Int} (h : ¬ ((1 ≤ n ∧ n ≤ 1073741824) ∧ 1 ≤ m ∧ m ≤ 16777216)) :
    Tot (fun k => f_pdt_Open k [.int .i64 n, .int .i64 m] H) fun v H' => v = .tuple [.ptr none, .int .i64 10] ∧ H' = H := by
  refine pdt_Open_tot ?_
  simp only [pdt_Open_b]
  have step : ∀ {c : V} {b : Bool} {A B : Nat → Option R} {Q : V → Heap → Prop}, c = .bool b → (b = true → Tot A Q) → (b = false → Tot B Q) → Tot (fun k => bnd (asB c) fun t => if t = true then A k else B k) Q := by
    intro c b A B Q hc h1 h2
    subst hc
    cases b with
    | true => exact Tot.pure bT (by simpa using h1 rfl)
    | false => exact Tot.pure bF (by simpa using h2 rfl)
  refine Tot.pure (show arA .lss (.int .i64 n) (.int .i64 1) = some (.bool (decide (n < 1))) from rfl) ?_
  refine step rfl (fun _ => Tot.ret ⟨rfl, rfl⟩) fun h1 => ?_
  refine Tot.pure (show arA .gtr (.int .i64 n) (.int .i64 1073741824) = some (.bool (decide (n > 1073741824))) from rfl) ?_
  refine step rfl (fun _ => Tot.ret ⟨rfl, rfl⟩) fun h2 => ?_
  refine Tot.pure (show arA .lss (.int .i64 m) (.int .i64 1) = some (.bool (decide (m < 1))) from rfl) ?_
  refine step rfl (fun _ => Tot.ret ⟨rfl, rfl⟩) fun h3 => ?_
  refine Tot.pure (show arA .gtr (.int .i64 m) (.int .i64 16777216) = some (.bool (decide (m > 16777216))) from rfl) ?_
  refine step rfl (fun _ => Tot.ret ⟨rfl, rfl⟩) fun h4 => ?_
  exfalso
  simp only [decide_eq_false_iff_not] at h1 h2 h3 h4
  exact h ⟨⟨by omega, by omega⟩, by omega, by omega⟩
theorem good_P {n m : Int} : Gv (fun k => f_ref17_Good k [.int .i64 n, .int .i64 m] H) (.bool (decide ((1 ≤ n ∧ n ≤ 1073741824) ∧ 1 ≤ m ∧ m ≤ 16777216))) H := by
  refine ref17_Good_tot rfl rfl ?_
  simp only [ref17_Good_b]
  refine Tot.pure (show arA .geq (.int .i64 n) (.int .i64 1) = some (.bool (decide (n ≥ 1))) from rfl) ?_
  by_cases h1 : n ≥ 1
  · rw [decide_eq_true h1]
    refine Tot.pure bT ?_
    simp only [if_true]
    refine Tot.pure (show arA .leq (.int .i64 n) (.int .i64 1073741824) = some (.bool (decide (n ≤ 1073741824))) from rfl) ?_
    by_cases h2 : n ≤ 1073741824
    · rw [decide_eq_true h2]
      refine Tot.pure bT ?_
      simp only [if_true]
      refine Tot.pure (show arA .geq (.int .i64 m) (.int .i64 1) = some (.bool (decide (m ≥ 1))) from rfl) ?_
      by_cases h3 : m ≥ 1
      · rw [decide_eq_true h3]
        refine Tot.pure bT ?_
        simp only [if_true]
        refine Tot.pure (show arA .leq (.int .i64 m) (.int .i64 16777216) = some (.bool (decide (m ≤ 16777216))) from rfl) ?_
        refine Tot.ret ⟨rfl, trivial, ?_⟩
        congr 1
        exact decide_eq_decide.2 ⟨fun h => ⟨⟨h1, h2⟩, h3, h⟩, fun h => h.2.2⟩
      · rw [decide_eq_false h3]
        refine Tot.pure bF ?_
        simp only [Bool.false_eq_true, if_false]
        exact Tot.ret ⟨rfl, trivial, by rw [decide_eq_false]; intro h; exact h3 h.2.1⟩
    · rw [decide_eq_false h2]
      refine Tot.pure bF ?_
      simp only [Bool.false_eq_true, if_false]
      exact Tot.ret ⟨rfl, trivial, by rw [decide_eq_false]; intro h; exact h2 h.1.2⟩
  · rw [decide_eq_false h1]
    refine Tot.pure bF ?_
    simp only [Bool.false_eq_true, if_false]
    exact Tot.ret ⟨rfl, trivial, by rw [decide_eq_false]; intro h; exact h1 h.1.1⟩
theorem lives_P : Gv (fun n => f_law38_lives n [] H) (.bool true) H := law38_lives_ext ⟨_, _, ⟨rfl, rfl⟩, 0, fun n _ => rfl⟩
end N
end Go.AM
end
section
set_option linter.unusedVariables false
set_option linter.unusedSimpArgs false
set_option linter.unusedSimpArgs false
set_option linter.unusedVariables false
set_option maxRecDepth 100000
namespace Go.AM
namespace N
variable {H : Heap}
def oSes (e : Nat) : O := .cells [.ptr (some (e, 0))] ty_session_Session false
def oJ (s : Nat) : O := .cells [.ptr (some (s, 0)), nilS, nilS] ty_journal_Journal false
theorem eq_j {i o : Nat} : eqlA P ty_p_journal_Journal (.ptr (some (i, o))) (.ptr none) = some (.bool false) := by kernel_rfl
theorem ne_j {i o : Nat} : neqA P ty_p_journal_Journal (.ptr (some (i, o))) (.ptr none) = some (.bool true) := by kernel_rfl
theorem eq_j0 : eqlA P ty_p_journal_Journal (.ptr none) (.ptr none) = some (.bool true) := by kernel_rfl
theorem eq_s {i o : Nat} : eqlA P ty_p_session_Session (.ptr (some (i, o))) (.ptr none) = some (.bool false) := by kernel_rfl
theorem eq_s0 : eqlA P ty_p_session_Session (.ptr none) (.ptr none) = some (.bool true) := by kernel_rfl
theorem nJ {i o : Nat} : nilC (.ptr (some (i, o))) = some (.ptr (some (i, o))) := rfl
theorem new_good {n m : Int} (h : (1 ≤ n ∧ n ≤ 1073741824) ∧ 1 ≤ m ∧ m ≤ 16777216) :
    Tot (fun k => f_journal_New k [.int .i64 n, .int .i64 m] H) fun v H' => ∃ j s e a b p, v = .tuple [.ptr (some (j, 0)), .int .i64 0] ∧ H'.get j = oJ s ∧ H'.get s = oSes e ∧ H'.get e = oEng n m a b 0 0 p := by
  refine journal_New_tot ?_
  simp only [journal_New_b]
  refine Tot.bind (Q' := fun v H' => ∃ s e a b p, v = .tuple [.ptr (some (s, 0)), .int .i64 0] ∧ H'.get s = oSes e ∧ H'.get e = oEng n m a b 0 0 p ∧ s < H'.n ∧ e < H'.n) ?_ ?_
  · refine session_Open_tot ?_
    simp only [session_Open_b]
    refine Tot.bind (Q' := fun v H' => ∃ s e a b p, v = .tuple [.ptr (some (s, 0)), .int .i64 0] ∧ H'.get s = oSes e ∧ H'.get e = oEng n m a b 0 0 p ∧ s < H'.n ∧ e < H'.n) ?_ ?_
    · refine session_open_tot ?_
      simp only [session_open_b]
      refine Tot.bind (open_good h) ?_
      rintro v K ⟨rfl, j, k1, -, kn⟩
      dsimp only
      refine Tot.pure (show extA _ 0 = some (.ptr (some (H.n + 2, 0))) from rfl) ?_
      refine Tot.pure (show extA _ 1 = some (.int .i64 0) from rfl) ?_
      refine Tot.pure (show arA .neq (.int .i64 0) (.int .i64 0) = some (.bool false) from rfl) ?_
      refine Tot.pure bF ?_
      simp only [Bool.false_eq_true, if_false]
      refine Tot.pure (show flA _ _ _ = some (.agg [.ptr (some (H.n + 2, 0))]) from rfl) ?_
      refine Tot.pure (show boxA _ _ = some (oSes (H.n + 2)) from rfl) ?_
      refine Tot.ret ⟨K.n, H.n + 2, H.n, H.n + 1, .ptr (some (j, 0)), rfl, Heap.gpz rfl, ?_, ?_, ?_⟩
      · rw [Heap.gqz (by omega)]; exact k1
      · exact Nat.lt_succ_self _
      · exact Nat.lt_of_lt_of_le (by omega) (Nat.le_succ K.n)
    · rintro v K ⟨s, e, a, b, p, rfl, k1, k2, k3, k4⟩
      refine Tot.pure (show extA _ 0 = some (.ptr (some (s, 0))) from rfl) ?_
      refine Tot.pure (show extA _ 1 = some (.int .i64 0) from rfl) ?_
      exact Tot.ret ⟨s, e, a, b, p, rfl, k1, k2, k3, k4⟩
  · rintro v K ⟨s, e, a, b, p, rfl, k1, k2, k3, k4⟩
    refine Tot.pure (show extA _ 0 = some (.ptr (some (s, 0))) from rfl) ?_
    refine Tot.pure (show extA _ 1 = some (.int .i64 0) from rfl) ?_
    refine Tot.pure (show arA .neq (.int .i64 0) (.int .i64 0) = some (.bool false) from rfl) ?_
    refine Tot.pure bF ?_
    simp only [Bool.false_eq_true, if_false]
    refine Tot.pure (show flA _ _ _ = some (.agg [.ptr (some (s, 0)), nilS, nilS]) from rfl) ?_
    refine Tot.pure (show boxA _ _ = some (oJ s) from rfl) ?_
    refine Tot.ret ⟨K.n, s, e, a, b, p, rfl, Heap.gpz rfl, ?_, ?_⟩
    · rw [Heap.gqz (by omega)]; exact k1
    · rw [Heap.gqz (by omega)]; exact k2
theorem new_bad {n m : Int} (h : ¬ ((1 ≤ n ∧ n ≤ 1073741824) ∧ 1 ≤ m ∧ m ≤ 16777216)) :
    Tot (fun k => f_journal_New k [.int .i64 n, .int .i64 m] H) fun v H' => H' = H ∧ v = .tuple [.ptr none, .int .i64 10] := by
  refine journal_New_tot ?_
  simp only [journal_New_b]
  refine Gv.bind (H := H) (u := .tuple [.ptr none, .int .i64 10]) ?_ ?_
  · refine session_Open_tot ?_
    simp only [session_Open_b]
    refine Gv.bind (H := H) (u := .tuple [.ptr none, .int .i64 10]) ?_ ?_
    · refine session_open_tot ?_
      simp only [session_open_b]
      refine Gv.bind (u := .tuple [.ptr none, .int .i64 10]) (Tot.mono (open_bad h) fun v H' ⟨h1, h2⟩ => ⟨h2, h1⟩) ?_
      refine Tot.pure (show extA _ 0 = some (.ptr none) from rfl) ?_
      refine Tot.pure (show extA _ 1 = some (.int .i64 10) from rfl) ?_
      refine Tot.pure (show arA .neq (.int .i64 10) (.int .i64 0) = some (.bool true) from rfl) ?_
      refine Tot.pure bT ?_
      simp only [if_true]
      exact Tot.ret ⟨rfl, rfl⟩
    · refine Tot.pure (show extA _ 0 = some (.ptr none) from rfl) ?_
      refine Tot.pure (show extA _ 1 = some (.int .i64 10) from rfl) ?_
      exact Tot.ret ⟨rfl, rfl⟩
  · refine Tot.pure (show extA _ 0 = some (.ptr none) from rfl) ?_
    refine Tot.pure (show extA _ 1 = some (.int .i64 10) from rfl) ?_
    refine Tot.pure (show arA .neq (.int .i64 10) (.int .i64 0) = some (.bool true) from rfl) ?_
    refine Tot.pure bT ?_
    simp only [if_true]
    exact Tot.ret ⟨rfl, rfl⟩
section
variable {j s e a b : Nat} {n m : Int} {p : V}
theorem Depth_P (h : H.get j = oJ s) : Gv (fun k => f_journal_Journal_Depth k [.ptr (some (j, 0))] H) (.tuple [.int .i64 0, .int .i64 0]) H := by
  refine journal_Journal_Depth_tot ?_
  simp only [journal_Journal_Depth_b]
  simp only [show ∀ H : Heap, H.more 0 = H from fun _ => rfl]
  refine Tot.pure eq_j ?_
  refine Tot.pure bF ?_
  simp only [Bool.false_eq_true, if_false]
  refine Tot.pure nJ ?_
  refine Tot.pure (show faA 1 (.ptr (some (j, 0))) = some (.ptr (some (j, 1))) from rfl) ?_
  refine Tot.pure (show ld1 (.ptr (some (j, 1))) H = some nilS by simp [ld1, h, oJ]) ?_
  refine Tot.pure (show lenSl nilS = some (.int .i64 0) from rfl) ?_
  refine Tot.pure nJ ?_
  refine Tot.pure (show faA 2 (.ptr (some (j, 0))) = some (.ptr (some (j, 2))) from rfl) ?_
  refine Tot.pure (show ld1 (.ptr (some (j, 2))) H = some nilS by simp [ld1, h, oJ]) ?_
  refine Tot.pure (show lenSl nilS = some (.int .i64 0) from rfl) ?_
  exact Tot.ret ⟨rfl, rfl⟩
theorem Session_P (h : H.get j = oJ s) : Gv (fun k => f_journal_Journal_Session k [.ptr (some (j, 0))] H) (.ptr (some (s, 0))) H := by
  refine journal_Journal_Session_tot ?_
  simp only [journal_Journal_Session_b]
  refine Tot.pure eq_j ?_
  refine Tot.pure bF ?_
  simp only [Bool.false_eq_true, if_false]
  refine Tot.pure nJ ?_
  refine Tot.pure (show faA 0 (.ptr (some (j, 0))) = some (.ptr (some (j, 0))) from rfl) ?_
  refine Tot.pure (show ld1 (.ptr (some (j, 0))) H = some (.ptr (some (s, 0))) by simp [ld1, h, oJ]) ?_
  exact Tot.ret ⟨rfl, rfl⟩
theorem Engine_P (h : H.get s = oSes e) : Gv (fun k => f_session_Session_Engine k [.ptr (some (s, 0))] H) (.ptr (some (e, 0))) H := by
  refine session_Session_Engine_tot ?_
  simp only [session_Session_Engine_b]
  refine Tot.pure eq_s ?_
  refine Tot.pure bF ?_
  simp only [Bool.false_eq_true, if_false]
  refine Tot.pure nJ ?_
  refine Tot.pure (show faA 0 (.ptr (some (s, 0))) = some (.ptr (some (s, 0))) from rfl) ?_
  refine Tot.pure (show ld1 (.ptr (some (s, 0))) H = some (.ptr (some (e, 0))) by simp [ld1, h, oSes]) ?_
  exact Tot.ret ⟨rfl, rfl⟩
theorem M_P (h : H.get e = oEng n m a b 0 0 p) : Gv (fun k => f_pdt_Engine_M k [.ptr (some (e, 0))] H) (.int .i64 m) H := by
  refine pdt_Engine_M_tot ?_
  simp only [pdt_Engine_M_b]
  refine Tot.pure eq_eng ?_
  refine Tot.pure bF ?_
  simp only [Bool.false_eq_true, if_false]
  refine Tot.pure nJ ?_
  refine Tot.pure (show faA 1 (.ptr (some (e, 0))) = some (.ptr (some (e, 1))) from rfl) ?_
  refine Tot.pure (show ld1 (.ptr (some (e, 1))) H = some (.int .i64 m) by simp [ld1, h, oEng]) ?_
  exact Tot.ret ⟨rfl, rfl⟩
theorem swap_P {o : Nat} {v w : V} (h : ld1 (.ptr (some (j, o))) H = some nilS) : Gv (fun k => f_journal_Journal_swap k [v, .ptr (some (j, o)), w] H) (.bool false) H := by
  refine journal_Journal_swap_tot ?_
  simp only [journal_Journal_swap_b]
  refine Tot.pure nJ ?_
  refine Tot.pure h ?_
  refine Tot.pure (show lenSl nilS = some (.int .i64 0) from rfl) ?_
  refine Tot.pure (show arA .sub (.int .i64 0) (.int .i64 1) = some (.int .i64 (-1)) from rfl) ?_
  refine Tot.pure (show arA .lss (.int .i64 (-1)) (.int .i64 0) = some (.bool true) from rfl) ?_
  refine Tot.pure bT ?_
  simp only [if_true]
  exact Tot.ret ⟨rfl, rfl⟩
theorem Undo_P (h : H.get j = oJ s) : Gv (fun k => f_journal_Journal_Undo k [.ptr (some (j, 0))] H) (.bool false) H := by
  refine journal_Journal_Undo_tot ?_
  simp only [journal_Journal_Undo_b]
  simp only [show ∀ H : Heap, H.more 0 = H from fun _ => rfl]
  refine Tot.pure ne_j ?_
  refine Tot.pure bT ?_
  simp only [if_true]
  refine Tot.pure nJ ?_
  refine Tot.pure (show faA 1 (.ptr (some (j, 0))) = some (.ptr (some (j, 1))) from rfl) ?_
  refine Tot.pure nJ ?_
  refine Tot.pure (show faA 2 (.ptr (some (j, 0))) = some (.ptr (some (j, 2))) from rfl) ?_
  refine Gv.bind (swap_P (by simp [ld1, h, oJ])) ?_
  exact Tot.ret ⟨rfl, rfl⟩
theorem Redo_P (h : H.get j = oJ s) : Gv (fun k => f_journal_Journal_Redo k [.ptr (some (j, 0))] H) (.bool false) H := by
  refine journal_Journal_Redo_tot ?_
  simp only [journal_Journal_Redo_b]
  simp only [show ∀ H : Heap, H.more 0 = H from fun _ => rfl]
  refine Tot.pure ne_j ?_
  refine Tot.pure bT ?_
  simp only [if_true]
  refine Tot.pure nJ ?_
  refine Tot.pure (show faA 2 (.ptr (some (j, 0))) = some (.ptr (some (j, 2))) from rfl) ?_
  refine Tot.pure nJ ?_
  refine Tot.pure (show faA 1 (.ptr (some (j, 0))) = some (.ptr (some (j, 1))) from rfl) ?_
  refine Gv.bind (swap_P (by simp [ld1, h, oJ])) ?_
  exact Tot.ret ⟨rfl, rfl⟩
end
theorem run0 {f : Nat → List V → Heap → Option R} {g i : Nat} {args : List V} {v : V} {H : Heap} (hf : ∀ n a H, f n a H = callA C n g a H) (h : ∀ n, callA C (n + i) g args H = some (v, H)) : Gv (fun n => f n args H) v H := by
  refine ⟨_, _, ⟨rfl, rfl⟩, i, fun n hn => ?_⟩
  obtain ⟨k, rfl⟩ : ∃ k, n = k + i := ⟨n - i, by omega⟩
  exact (hf _ _ _).trans (h k)
theorem Depth_0 : Gv (fun k => f_journal_Journal_Depth k [.ptr none] H) (.tuple [.int .i64 0, .int .i64 0]) H := run0 (g := i_journal_Journal_Depth) (i := 5) (fun n a H => by unfold f_journal_Journal_Depth; rfl) (fun n => by kernel_rfl)
theorem Session_0 : Gv (fun k => f_journal_Journal_Session k [.ptr none] H) (.ptr none) H := run0 (g := i_journal_Journal_Session) (i := 5) (fun n a H => by unfold f_journal_Journal_Session; rfl) (fun n => by kernel_rfl)
theorem Undo_0 : Gv (fun k => f_journal_Journal_Undo k [.ptr none] H) (.bool false) H := run0 (g := i_journal_Journal_Undo) (i := 5) (fun n a H => by unfold f_journal_Journal_Undo; rfl) (fun n => by kernel_rfl)
theorem Redo_0 : Gv (fun k => f_journal_Journal_Redo k [.ptr none] H) (.bool false) H := run0 (g := i_journal_Journal_Redo) (i := 5) (fun n a H => by unfold f_journal_Journal_Redo; rfl) (fun n => by kernel_rfl)
abbrev bare (x : V) : List V := [.int .i64 10, .int .i64 0, .bool false, .str [], .bool false, .int .i64 0, .int .i64 0, x, x]
theorem Do_0 {cs : List V} (hc : cs.all V.one = true) : Tot (fun k => f_journal_Journal_Do k [.ptr none, .agg cs] H) fun v H' => v = .agg (bare (.list 0 0 [])) := by
  refine journal_Journal_Do_tot ?_
  simp only [journal_Journal_Do_b]
  refine Tot.pure (boxA_agg hc) ?_
  refine Tot.pure eq_j0 ?_
  refine Tot.pure bT ?_
  simp only [if_true]
  refine Tot.pure (show flA _ _ _ = some (.agg (bare nilS)) from rfl) ?_
  have st : ∀ {K : Heap}, stA 9 (.ptr (some (K.n, 0))) (.agg (bare nilS)) (K.push (.cells [.int .i64 0, .int .i64 0, .bool false, .str [], .bool false, .int .i64 0, .int .i64 0, nilS, nilS] ty_api_Ans false)) = some ((K.push (.cells [.int .i64 0, .int .i64 0, .bool false, .str [], .bool false, .int .i64 0, .int .i64 0, nilS, nilS] ty_api_Ans false)).set K.n (.cells (bare nilS) ty_api_Ans false)) := by
    intro K
    simp [stA, Heap.gpz, V.cells, V.one, lset]
  refine Tot.pure st ?_
  refine Tot.pure (show ldN 9 _ _ = some (.agg (bare nilS)) by rw [lgz, Heap.gsz rfl]; rfl) ?_
  exact Tot.frz (show frzR (.agg (bare nilS)) _ = some (.agg (bare (.list 0 0 [])), _) from rfl) rfl
theorem Same_0 : Gv (fun k => f_ref27_Same k [.agg (bare (.list 0 0 [])), .agg (bare nilS)] H) (.bool true) H := run0 (g := i_ref27_Same) (i := 20) (fun n a H => by unfold f_ref27_Same; rfl) (fun n => by kernel_rfl)
end N
end Go.AM
end
section
set_option linter.unusedVariables false
set_option linter.unusedSimpArgs false
set_option linter.unusedSimpArgs false
set_option linter.unusedVariables false
set_option maxRecDepth 100000
namespace Go.AM
def isIntK3 (P : Program) (k : IntKind) (t : TypeId) : Bool := match P.underlying t with
  | some (.int q) => q == k
  | _ => false
section
variable {P : Program} {k : Nat} {t : TypeId} {cs : List V}
theorem FT.int3 {q : IntKind} (ht : isIntK3 P q t = true) (h : FT P (k + 1) t cs) : ∃ z, cs = [.int q z] ∧ (Lit.int q z).wf = true := by
  unfold isIntK3 at ht
  unfold FT at h
  split at ht
  · rename_i hu
    simp only [hu] at h
    simp only [beq_iff_eq] at ht
    subst ht; exact h
  · cases ht
theorem isIntK3.one {v : V} {q : IntKind} (ht : isIntK3 P q t = true) : argV P t [v] = v := by
  unfold isIntK3 at ht
  unfold argV
  split at ht
  · rename_i e hu; simp only [hu]; rfl
  · cases ht
def isStrT (P : Program) (t : TypeId) : Bool := match P.underlying t with
  | some .string => true
  | _ => false
theorem FT.str3 (ht : isStrT P t = true) (h : FT P (k + 1) t cs) : ∃ z, cs = [.str z] := by
  unfold isStrT at ht
  unfold FT at h
  split at ht
  · rename_i hu
    simp only [hu] at h
    obtain ⟨s, h, -⟩ := h; exact ⟨s, h⟩
  · cases ht
def isCmdT (P : Program) (t : TypeId) : Bool := match P.underlying t with
  | some (.struct fs) => match fs.toList with
    | [a, b, c, d, e] => (a.offset == 0) && (b.offset == 1) && (c.offset == 2) && (d.offset == 3) && (e.offset == 4) && (P.cellsOf a.type == 1) && (P.cellsOf b.type == 1) && (P.cellsOf c.type == 1) && (P.cellsOf d.type == 1) && (P.cellsOf e.type == 1) && (P.cellsOf t == 5) && isIntK3 P .i64 a.type && isIntK3 P .i64 b.type && isIntK3 P .i64 c.type && isIntK3 P .i64 d.type && isStrT P e.type
    | _ => false
  | _ => false
theorem FT.cmd (ht : isCmdT P t = true) (h : FT P (k + 2) t cs) : ∃ (a b c d : Int) (s : List UInt8), cs = [.int .i64 a, .int .i64 b, .int .i64 c, .int .i64 d, .str s] := by
  unfold isCmdT at ht
  unfold FT at h
  split at ht
  · rename_i fs hu
    simp only [hu] at h
    split at ht
    · rename_i a b c d e hfs
      simp only [Bool.and_eq_true, beq_iff_eq] at ht
      obtain ⟨⟨⟨⟨⟨⟨⟨⟨⟨⟨⟨⟨⟨⟨⟨a1, a2⟩, a3⟩, a4⟩, a5⟩, b1⟩, b2⟩, b3⟩, b4⟩, b5⟩, c0⟩, c1⟩, c2⟩, c3⟩, c4⟩, c5⟩ := ht
      rw [hfs] at h
      obtain ⟨hl, hf⟩ := h
      have w1 := hf a (by simp)
      have w2 := hf b (by simp)
      have w3 := hf c (by simp)
      have w4 := hf d (by simp)
      have w5 := hf e (by simp)
      rw [a1, b1] at w1
      rw [a2, b2] at w2
      rw [a3, b3] at w3
      rw [a4, b4] at w4
      rw [a5, b5] at w5
      rw [c0] at hl
      match cs, hl with
      | [x1, x2, x3, x4, x5], _ =>
        obtain ⟨z1, e1, -⟩ := FT.int3 c1 w1
        obtain ⟨z2, e2, -⟩ := FT.int3 c2 w2
        obtain ⟨z3, e3, -⟩ := FT.int3 c3 w3
        obtain ⟨z4, e4, -⟩ := FT.int3 c4 w4
        obtain ⟨z5, e5⟩ := FT.str3 c5 w5
        simp at e1 e2 e3 e4 e5
        subst e1 e2 e3 e4 e5
        exact ⟨_, _, _, _, _, rfl⟩
    · cases ht
  · cases ht
theorem isCmdT.agg (ht : isCmdT P t = true) : argV P t cs = .agg cs := by
  unfold isCmdT at ht
  unfold argV
  split at ht
  · rename_i fs hu; simp only [hu]
  · cases ht
end
namespace N
variable {H : Heap}
theorem news_good {n m : Int} {cs : List V} (h1 : cs.all V.one = true) (h : (1 ≤ n ∧ n ≤ 1073741824) ∧ 1 ≤ m ∧ m ≤ 16777216) :
    Tot (fun k => law38_JournalNews_b @bnd k (.int .i64 n) (.int .i64 m) (.agg cs) E0) fun v _ => v = .bool true := by
  simp only [law38_JournalNews_b]
  refine Tot.pure (boxA_agg h1) ?_
  refine Tot.bind (new_good h) ?_
  rintro v K ⟨j, s, e, a, b, p, rfl, k1, k2, k3⟩
  dsimp only
  refine Tot.pure (show extA _ 0 = some (.ptr (some (j, 0))) from rfl) ?_
  refine Tot.pure (show extA _ 1 = some (.int .i64 0) from rfl) ?_
  refine Gv.bind (Depth_P k1) ?_
  refine Tot.pure (show extA _ 0 = some (.int .i64 0) from rfl) ?_
  refine Tot.pure (show extA _ 1 = some (.int .i64 0) from rfl) ?_
  refine Gv.bind good_P ?_
  rw [decide_eq_true h]
  refine Tot.pure bT ?_
  simp only [if_true]
  refine Tot.pure ne_j ?_
  refine Tot.pure bT ?_
  simp only [if_true]
  have t0 : arA .eql (.int .i64 0) (.int .i64 0) = some (.bool true) := rfl
  refine Tot.pure t0 ?_
  refine Tot.pure bT ?_
  simp only [if_true]
  refine Gv.bind (Session_P k1) ?_
  refine Gv.bind (Engine_P k2) ?_
  refine Gv.bind (M_P k3) ?_
  refine Tot.pure (show arA .eql (.int .i64 m) (.int .i64 m) = some (.bool true) by simp (disch := omega) []) ?_
  refine Tot.pure bT ?_
  simp only [if_true]
  refine Gv.bind (Undo_P k1) ?_
  refine Tot.pure (show unA .not (.bool false) = some (.bool true) from rfl) ?_
  refine Tot.pure bT ?_
  simp only [if_true]
  refine Gv.bind (Redo_P k1) ?_
  refine Tot.pure (show unA .not (.bool false) = some (.bool true) from rfl) ?_
  refine Tot.pure bT ?_
  simp only [if_true]
  refine Tot.pure t0 ?_
  refine Tot.pure bT ?_
  simp only [if_true]
  refine Tot.pure t0 ?_
  refine Tot.pure bT ?_
  simp only [if_true]
  refine Gv.bind lives_P ?_
  exact Tot.ret rfl
theorem news_bad {n m : Int} {cs : List V} (h1 : cs.all V.one = true) (h5 : cs.length = 5) (h : ¬ ((1 ≤ n ∧ n ≤ 1073741824) ∧ 1 ≤ m ∧ m ≤ 16777216)) :
    Tot (fun k => law38_JournalNews_b @bnd k (.int .i64 n) (.int .i64 m) (.agg cs) E0) fun v _ => v = .bool true := by
  simp only [law38_JournalNews_b]
  refine Tot.pure (boxA_agg h1) ?_
  refine Gv.bind (new_bad h) ?_
  dsimp only
  refine Tot.pure (show extA _ 0 = some (.ptr none) from rfl) ?_
  refine Tot.pure (show extA _ 1 = some (.int .i64 10) from rfl) ?_
  refine Gv.bind Depth_0 ?_
  refine Tot.pure (show extA _ 0 = some (.int .i64 0) from rfl) ?_
  refine Tot.pure (show extA _ 1 = some (.int .i64 0) from rfl) ?_
  refine Gv.bind good_P ?_
  rw [decide_eq_false h]
  refine Tot.pure bF ?_
  simp only [Bool.false_eq_true, if_false]
  have t0 : arA .eql (.int .i64 0) (.int .i64 0) = some (.bool true) := rfl
  refine Tot.pure eq_j0 ?_
  refine Tot.pure bT ?_
  simp only [if_true]
  refine Tot.pure (show arA .eql (.int .i64 10) (.int .i64 10) = some (.bool true) from rfl) ?_
  refine Tot.pure bT ?_
  simp only [if_true]
  refine Gv.bind Session_0 ?_
  refine Tot.pure eq_s0 ?_
  refine Tot.pure bT ?_
  simp only [if_true]
  refine Gv.bind Undo_0 ?_
  refine Tot.pure (show unA .not (.bool false) = some (.bool true) from rfl) ?_
  refine Tot.pure bT ?_
  simp only [if_true]
  refine Gv.bind Redo_0 ?_
  refine Tot.pure (show unA .not (.bool false) = some (.bool true) from rfl) ?_
  refine Tot.pure bT ?_
  simp only [if_true]
  refine Tot.pure t0 ?_
  refine Tot.pure bT ?_
  simp only [if_true]
  refine Tot.pure t0 ?_
  refine Tot.pure bT ?_
  simp only [if_true]
  refine Tot.pure (show ldN 5 (.ptr (some (E0.n, 0))) _ = some (.agg cs) by rw [lgz, Heap.gpz rfl]; simp only [List.drop_zero]; rw [if_pos (by omega), List.take_of_length_le (by omega)]) ?_
  refine Tot.bind (Do_0 h1) ?_
  rintro v K rfl
  dsimp only
  refine Tot.pure (show flA _ _ _ = some (.agg (bare nilS)) from rfl) ?_
  refine Gv.bind Same_0 ?_
  refine Tot.pure bT ?_
  simp only [if_true]
  refine Gv.bind lives_P ?_
  exact Tot.ret rfl
theorem news_all {t u w : TypeId} (ht : isIntK3 P .i64 t = true) (hu : isIntK3 P .i64 u = true) (hw : isCmdT P w = true) {H : Heap} {us : List V} (h : FTs P 8 [t, u, w] us) : Tot (fun n => f_law38_JournalNews n us H) fun v _ => v = .bool true := by
  obtain ⟨cs, us', rfl, w1, cs2, us2, rfl, w2, cs3, us3, rfl, w3, rfl⟩ := h
  obtain ⟨n, rfl, -⟩ := FT.int3 (k := 7) ht w1
  obtain ⟨m, rfl, -⟩ := FT.int3 (k := 7) hu w2
  obtain ⟨a, b, c, d, s, rfl⟩ := FT.cmd (k := 6) hw w3
  rw [isIntK3.one ht, isIntK3.one hu, isCmdT.agg hw]
  refine law38_JournalNews_tot rfl rfl ?_
  by_cases h : (1 ≤ n ∧ n ≤ 1073741824) ∧ 1 ≤ m ∧ m ≤ 16777216
  · exact Tot.mono (news_good rfl h) fun v _ h => ⟨by rw [h]; rfl, h⟩
  · exact Tot.mono (news_bad rfl rfl h) fun v _ h => ⟨by rw [h]; rfl, h⟩
end N
end Go.AM
end
section
set_option linter.unusedVariables false
set_option linter.unusedSimpArgs false
namespace Go.AM.S
def tab : List (List V × V) := [([.agg [.int .i64 3, .int .i64 4], .agg [.int .i64 13, .int .i64 4], .agg [.int .i64 3, .int .i64 14], .int .i64 10], .bool false),
 ([.agg [.int .i64 3, .int .i64 14], .agg [.int .i64 13, .int .i64 14], .agg [.int .i64 3, .int .i64 24], .int .i64 10], .bool false),
 ([.agg [.int .i64 3, .int .i64 24], .agg [.int .i64 13, .int .i64 24], .agg [.int .i64 3, .int .i64 34], .int .i64 10], .bool false),
 ([.agg [.int .i64 13, .int .i64 4], .agg [.int .i64 23, .int .i64 4], .agg [.int .i64 13, .int .i64 14], .int .i64 10], .bool false),
 ([.agg [.int .i64 13, .int .i64 14], .agg [.int .i64 23, .int .i64 14], .agg [.int .i64 13, .int .i64 24], .int .i64 10], .bool false),
 ([.agg [.int .i64 13, .int .i64 24], .agg [.int .i64 23, .int .i64 24], .agg [.int .i64 13, .int .i64 34], .int .i64 10], .bool false),
 ([.agg [.int .i64 23, .int .i64 4], .agg [.int .i64 33, .int .i64 4], .agg [.int .i64 23, .int .i64 14], .int .i64 10], .bool false),
 ([.agg [.int .i64 23, .int .i64 14], .agg [.int .i64 33, .int .i64 14], .agg [.int .i64 23, .int .i64 24], .int .i64 10], .bool false),
 ([.agg [.int .i64 23, .int .i64 24], .agg [.int .i64 33, .int .i64 24], .agg [.int .i64 23, .int .i64 34], .int .i64 10], .bool false),
 ([.agg [.int .i64 13, .int .i64 4], .agg [.int .i64 13, .int .i64 14], .agg [.int .i64 3, .int .i64 14], .int .i64 10], .bool false),
 ([.agg [.int .i64 13, .int .i64 14], .agg [.int .i64 13, .int .i64 24], .agg [.int .i64 3, .int .i64 24], .int .i64 10], .bool false),
 ([.agg [.int .i64 13, .int .i64 24], .agg [.int .i64 13, .int .i64 34], .agg [.int .i64 3, .int .i64 34], .int .i64 10], .bool false),
 ([.agg [.int .i64 23, .int .i64 4], .agg [.int .i64 23, .int .i64 14], .agg [.int .i64 13, .int .i64 14], .int .i64 10], .bool false),
 ([.agg [.int .i64 23, .int .i64 14], .agg [.int .i64 23, .int .i64 24], .agg [.int .i64 13, .int .i64 24], .int .i64 10], .bool false),
 ([.agg [.int .i64 23, .int .i64 24], .agg [.int .i64 23, .int .i64 34], .agg [.int .i64 13, .int .i64 34], .int .i64 10], .bool false),
 ([.agg [.int .i64 33, .int .i64 4], .agg [.int .i64 33, .int .i64 14], .agg [.int .i64 23, .int .i64 14], .int .i64 10], .bool false),
 ([.agg [.int .i64 33, .int .i64 14], .agg [.int .i64 33, .int .i64 24], .agg [.int .i64 23, .int .i64 24], .int .i64 10], .bool false),
 ([.agg [.int .i64 33, .int .i64 24], .agg [.int .i64 33, .int .i64 34], .agg [.int .i64 23, .int .i64 34], .int .i64 10], .bool false)]
end Go.AM.S
end
section
set_option linter.unusedVariables false
set_option linter.unusedSimpArgs false
namespace Go.AM.L
abbrev ty_int : Nat := 3
abbrev ty_interface : Nat := 20
abbrev ty_api_Cmd : Nat := 23
abbrev ty_p_journal_Journal : Nat := 24
abbrev ty_p_pdt_Engine : Nat := 31
abbrev ty_p_session_Session : Nat := 32
abbrev ty_api_Ans : Nat := 43
abbrev ty_journal_Journal : Nat := 50
abbrev ty_session_Session : Nat := 52
abbrev ty_pdt_Engine : Nat := 57
abbrev ty_sl_journal_change : Nat := 63
abbrev ty_api_Point : Nat := 67
abbrev ty_journal_change : Nat := 69
abbrev ty_api_Place : Nat := 74
abbrev ty_api_Off : Nat := 79
abbrev ty_api_Tri : Nat := 82
abbrev ty_p_mesh_Mesh : Nat := 95
abbrev ty_session_insert : Nat := 113
abbrev ty_session_remove : Nat := 115
abbrev ty_session_move : Nat := 117
abbrev ty_session_wipe : Nat := 119
abbrev ty_session_step : Nat := 120
abbrev ty_session_run : Nat := 122
abbrev ty_session_replace : Nat := 124
abbrev ty_api_Dump : Nat := 151
abbrev ty_p_bucket_Grid : Nat := 154
abbrev ty_pdt_sheet : Nat := 158
abbrev ty_api_Vert : Nat := 160
abbrev ty_sl_int : Nat := 161
abbrev ty_api_Cell : Nat := 163
abbrev ty_p_arena_Arena : Nat := 165
abbrev ty_mesh_Mesh : Nat := 169
abbrev ty_bucket_Grid : Nat := 216
abbrev ty_arena_Arena : Nat := 224
abbrev ty_mesh_half : Nat := 228
abbrev ty_mesh_edge : Nat := 231
abbrev ty_api_Wide : Nat := 307
def tabList0 : List (Nat × List (Nat × List Nat)) := [(4, []),
 (5, []),
 (7, []),
 (8, []),
 (10, []),
 (11, []),
 (12, []),
 (14, []),
 (15, []),
 (16, [(6, [0, 1, 2, 7, 8, 24, 25, 26]), (10, [0, 1, 2, 7, 8])]),
 (17, [(5, [3, 12]), (8, [3])]),
 (20, [])]
def tabList1 : List (Nat × List (Nat × List Nat)) := [(21, [(3, [0, 1, 5, 6, 7])]),
 (23, []),
 (24, []),
 (25, [(8, [0, 18, 19, 20])]),
 (26, [(3, [1, 5, 14, 15, 16]), (7, [1, 5]), (8, [5, 26, 27, 28]), (14, [5]), (16, [10, 44]), (19, [10])]),
 (27, []),
 (29, []),
 (30, []),
 (31, [(3, [0, 5, 6, 11, 12, 13])]),
 (32, []),
 (33, [(4, [0, 1, 5, 30]), (7, [0, 1, 5, 6, 30, 33])]),
 (35, [(2, [0, 1, 2, 3, 4, 10, 11]), (10, [0, 1, 2, 3, 4, 10, 11, 12]), (15, [0, 1, 2, 3, 4, 10, 11, 12, 13, 14]), (17, [0, 1, 2, 3, 4, 10, 11, 12, 13])])]
def tabList2 : List (Nat × List (Nat × List Nat)) := [(36, []),
 (37, []),
 (38, []),
 (41, []),
 (42, [(4, [5, 6, 23, 24, 25]), (9, [5, 6]), (10, [5, 57, 58, 59])]),
 (43, []),
 (44, []),
 (46, []),
 (47, []),
 (48, [(1, [0, 1, 2, 3, 8]), (4, [0, 1, 2, 3, 8, 9])]),
 (57, [(4, [0, 2]), (7, [0, 2]), (10, [0, 2])]),
 (58, [])]
def tabList3 : List (Nat × List (Nat × List Nat)) := [(59, [(12, [0, 3, 8, 9, 10]), (17, [0, 3, 8])]),
 (72, []),
 (73, []),
 (74, [(5, [0, 2, 3, 20, 21, 22]), (9, [0, 2, 3]), (10, [0, 2, 3, 43, 44, 45])]),
 (75, []),
 (76, [(1, [0, 6, 7, 8])]),
 (77, []),
 (78, []),
 (79, [(6, [0, 3, 42]), (12, [0, 3]), (15, [0, 3, 9, 74, 75])]),
 (80, []),
 (86, []),
 (106, [(5, [0, 3, 11, 12])])]
def tabList4 : List (Nat × List (Nat × List Nat)) := [(107, []),
 (108, []),
 (109, []),
 (110, []),
 (111, []),
 (112, []),
 (113, []),
 (114, []),
 (115, []),
 (116, []),
 (117, [(1, [0, 4]), (4, [0, 2, 4, 7])]),
 (118, [])]
def tabList5 : List (Nat × List (Nat × List Nat)) := [(119, []),
 (124, []),
 (133, []),
 (134, []),
 (135, []),
 (161, []),
 (162, []),
 (165, []),
 (166, []),
 (167, []),
 (168, []),
 (169, [])]
def tabList6 : List (Nat × List (Nat × List Nat)) := [(170, [(2, [0, 1, 7, 8])]),
 (171, []),
 (174, []),
 (175, []),
 (191, []),
 (212, [(4, [0, 1, 4, 5, 6])]),
 (221, []),
 (229, [(2, [5, 6, 7])]),
 (230, []),
 (263, []),
 (264, []),
 (266, [])]
def tabList7 : List (Nat × List (Nat × List Nat)) := [(279, []),
 (319, []),
 (333, []),
 (363, [])]
def tabList : List (Nat × List (Nat × List Nat)) := tabList0 ++ (tabList1 ++ (tabList2 ++ (tabList3 ++ (tabList4 ++ (tabList5 ++ (tabList6 ++ (tabList7)))))))
def tabs (f : FuncId) : Option (List (Nat × List Nat)) := tabList.lookup f
noncomputable def extList : List (Nat × (List V → Heap → Option R)) := [((163 : Nat), (extP Go.AM.S.tab : List V → Heap → Option R)),
 ((318 : Nat), (extAdd64 : List V → Heap → Option R)),
 ((367 : Nat), (extSub64 : List V → Heap → Option R))]
noncomputable def ext (f : FuncId) : Option (List V → Heap → Option R) := extList.lookup f
def faL : List Nat := [25, 31, 76]
def frL : List Nat := [14, 17, 20, 21, 26, 29, 38, 74, 106]
def puL : List Nat := [12, 21, 24, 26, 46, 58, 86, 114, 118, 119, 124, 133, 134, 135, 167, 168, 169, 171, 174, 191, 212, 221, 229, 230, 263, 264, 279, 319, 333, 363]
def pu (f : FuncId) : Bool := puL.contains f
def fa (f : FuncId) : Bool := faL.contains f
def fr (f : FuncId) : Bool := frL.contains f
noncomputable def C : Cfg := { P, tabs, ext, fa, fr, pu, okc := fun N c => okC P N c }
abbrev i_journal_New : Nat := 4
abbrev i_journal_Journal_Depth : Nat := 5
abbrev i_journal_Journal_Session : Nat := 7
abbrev i_session_Session_Engine : Nat := 8
abbrev i_journal_Journal_Undo : Nat := 10
abbrev i_journal_Journal_Redo : Nat := 11
abbrev i_law38_lives : Nat := 12
abbrev i_journal_Journal_Do : Nat := 14
abbrev i_session_Open : Nat := 15
abbrev i_journal_Journal_swap : Nat := 16
abbrev i_pdt_Engine_Sites : Nat := 17
abbrev i_session_Session_Do : Nat := 20
abbrev i_journal_diff : Nat := 21
abbrev i_slices_Delete_journal_change_journal_change : Nat := 22
abbrev i_session_open : Nat := 23
abbrev i_journal_change_back : Nat := 24
abbrev i_pdt_Engine_Set : Nat := 25
abbrev i_journal_apply : Nat := 26
abbrev i_pdt_Open : Nat := 30
abbrev i_pdt_Engine_clear : Nat := 32
abbrev i_pdt_lay : Nat := 42
abbrev i_mesh_New : Nat := 43
abbrev i_math_bits_Len32 : Nat := 56
abbrev i_bucket_New : Nat := 72
abbrev i_mesh_Mesh_Side : Nat := 73
abbrev i_mesh_Mesh_Dump : Nat := 74
abbrev i_bucket_Grid_Put : Nat := 75
abbrev i_pdt_sheet_count : Nat := 76
abbrev i_arena_New : Nat := 77
abbrev i_arena_Arena_All : Nat := 106
abbrev i_lift_can : Nat := 134
abbrev i_arena_Arena_live : Nat := 161
abbrev i_circum_Small : Nat := 163
abbrev i_pred_Orient : Nat := 167
abbrev i_lift_within : Nat := 191
abbrev i_wide_Mul : Nat := 212
abbrev i_lift_Can : Nat := 221
abbrev i_pred_can : Nat := 229
abbrev i_pred_orient : Nat := 230
abbrev i_pred_across : Nat := 263
abbrev i_pred_way : Nat := 264
abbrev i_math_bits_Mul64 : Nat := 266
abbrev i_wide_Sign : Nat := 279
abbrev i_math_bits_Add64 : Nat := 318
abbrev i_wide_Sub : Nat := 319
abbrev i_wide_sign : Nat := 333
abbrev i_wide_sub : Nat := 363
abbrev i_math_bits_Sub64 : Nat := 367
@[irreducible] noncomputable def f_journal_New (n : Nat) (args : List V) (H : Heap) : Option R := callA C n 4 args H
@[irreducible] noncomputable def f_journal_Journal_Depth (n : Nat) (args : List V) (H : Heap) : Option R := callA C n 5 args H
@[irreducible] noncomputable def f_journal_Journal_Session (n : Nat) (args : List V) (H : Heap) : Option R := callA C n 7 args H
@[irreducible] noncomputable def f_session_Session_Engine (n : Nat) (args : List V) (H : Heap) : Option R := callA C n 8 args H
@[irreducible] noncomputable def f_journal_Journal_Undo (n : Nat) (args : List V) (H : Heap) : Option R := callA C n 10 args H
@[irreducible] noncomputable def f_journal_Journal_Redo (n : Nat) (args : List V) (H : Heap) : Option R := callA C n 11 args H
@[irreducible] noncomputable def f_law38_lives (n : Nat) (args : List V) (H : Heap) : Option R := callA C n 12 args H
@[irreducible] noncomputable def f_journal_Journal_Do (n : Nat) (args : List V) (H : Heap) : Option R := callA C n 14 args H
@[irreducible] noncomputable def f_session_Open (n : Nat) (args : List V) (H : Heap) : Option R := callA C n 15 args H
@[irreducible] noncomputable def f_journal_Journal_swap (n : Nat) (args : List V) (H : Heap) : Option R := callA C n 16 args H
@[irreducible] noncomputable def f_pdt_Engine_Sites (n : Nat) (args : List V) (H : Heap) : Option R := callA C n 17 args H
@[irreducible] noncomputable def f_session_Session_Do (n : Nat) (args : List V) (H : Heap) : Option R := callA C n 20 args H
@[irreducible] noncomputable def f_journal_diff (n : Nat) (args : List V) (H : Heap) : Option R := callA C n 21 args H
@[irreducible] noncomputable def f_slices_Delete_journal_change_journal_change (n : Nat) (args : List V) (H : Heap) : Option R := callA C n 22 args H
@[irreducible] noncomputable def f_session_open (n : Nat) (args : List V) (H : Heap) : Option R := callA C n 23 args H
@[irreducible] noncomputable def f_journal_change_back (n : Nat) (args : List V) (H : Heap) : Option R := callA C n 24 args H
@[irreducible] noncomputable def f_pdt_Engine_Set (n : Nat) (args : List V) (H : Heap) : Option R := callA C n 25 args H
@[irreducible] noncomputable def f_journal_apply (n : Nat) (args : List V) (H : Heap) : Option R := callA C n 26 args H
@[irreducible] noncomputable def f_pdt_Open (n : Nat) (args : List V) (H : Heap) : Option R := callA C n 30 args H
@[irreducible] noncomputable def f_pdt_Engine_clear (n : Nat) (args : List V) (H : Heap) : Option R := callA C n 32 args H
@[irreducible] noncomputable def f_pdt_lay (n : Nat) (args : List V) (H : Heap) : Option R := callA C n 42 args H
@[irreducible] noncomputable def f_mesh_New (n : Nat) (args : List V) (H : Heap) : Option R := callA C n 43 args H
@[irreducible] noncomputable def f_math_bits_Len32 (n : Nat) (args : List V) (H : Heap) : Option R := callA C n 56 args H
@[irreducible] noncomputable def f_bucket_New (n : Nat) (args : List V) (H : Heap) : Option R := callA C n 72 args H
@[irreducible] noncomputable def f_mesh_Mesh_Side (n : Nat) (args : List V) (H : Heap) : Option R := callA C n 73 args H
@[irreducible] noncomputable def f_mesh_Mesh_Dump (n : Nat) (args : List V) (H : Heap) : Option R := callA C n 74 args H
@[irreducible] noncomputable def f_bucket_Grid_Put (n : Nat) (args : List V) (H : Heap) : Option R := callA C n 75 args H
@[irreducible] noncomputable def f_pdt_sheet_count (n : Nat) (args : List V) (H : Heap) : Option R := callA C n 76 args H
@[irreducible] noncomputable def f_arena_New (n : Nat) (args : List V) (H : Heap) : Option R := callA C n 77 args H
@[irreducible] noncomputable def f_arena_Arena_All (n : Nat) (args : List V) (H : Heap) : Option R := callA C n 106 args H
@[irreducible] noncomputable def f_lift_can (n : Nat) (args : List V) (H : Heap) : Option R := callA C n 134 args H
@[irreducible] noncomputable def f_arena_Arena_live (n : Nat) (args : List V) (H : Heap) : Option R := callA C n 161 args H
@[irreducible] noncomputable def f_circum_Small (n : Nat) (args : List V) (H : Heap) : Option R := callA C n 163 args H
@[irreducible] noncomputable def f_pred_Orient (n : Nat) (args : List V) (H : Heap) : Option R := callA C n 167 args H
@[irreducible] noncomputable def f_lift_within (n : Nat) (args : List V) (H : Heap) : Option R := callA C n 191 args H
@[irreducible] noncomputable def f_wide_Mul (n : Nat) (args : List V) (H : Heap) : Option R := callA C n 212 args H
@[irreducible] noncomputable def f_lift_Can (n : Nat) (args : List V) (H : Heap) : Option R := callA C n 221 args H
@[irreducible] noncomputable def f_pred_can (n : Nat) (args : List V) (H : Heap) : Option R := callA C n 229 args H
@[irreducible] noncomputable def f_pred_orient (n : Nat) (args : List V) (H : Heap) : Option R := callA C n 230 args H
@[irreducible] noncomputable def f_pred_across (n : Nat) (args : List V) (H : Heap) : Option R := callA C n 263 args H
@[irreducible] noncomputable def f_pred_way (n : Nat) (args : List V) (H : Heap) : Option R := callA C n 264 args H
@[irreducible] noncomputable def f_math_bits_Mul64 (n : Nat) (args : List V) (H : Heap) : Option R := callA C n 266 args H
@[irreducible] noncomputable def f_wide_Sign (n : Nat) (args : List V) (H : Heap) : Option R := callA C n 279 args H
@[irreducible] noncomputable def f_math_bits_Add64 (n : Nat) (args : List V) (H : Heap) : Option R := callA C n 318 args H
@[irreducible] noncomputable def f_wide_Sub (n : Nat) (args : List V) (H : Heap) : Option R := callA C n 319 args H
@[irreducible] noncomputable def f_wide_sign (n : Nat) (args : List V) (H : Heap) : Option R := callA C n 333 args H
@[irreducible] noncomputable def f_wide_sub (n : Nat) (args : List V) (H : Heap) : Option R := callA C n 363 args H
@[irreducible] noncomputable def f_math_bits_Sub64 (n : Nat) (args : List V) (H : Heap) : Option R := callA C n 367 args H
theorem math_bits_Add64_ext {H : Heap} {args : List V} {Q : V → Heap → Prop} (h : Tot (fun _ => (extAdd64 : List V → Heap → Option R) args H) Q) : Tot (fun n => f_math_bits_Add64 n args H) Q := Tot.fn (fun n => by unfold f_math_bits_Add64; kernel_rfl) h
theorem math_bits_Sub64_ext {H : Heap} {args : List V} {Q : V → Heap → Prop} (h : Tot (fun _ => (extSub64 : List V → Heap → Option R) args H) Q) : Tot (fun n => f_math_bits_Sub64 n args H) Q := Tot.fn (fun n => by unfold f_math_bits_Sub64; kernel_rfl) h
end Go.AM.L
end
section
set_option linter.unusedVariables false
set_option linter.unusedSimpArgs false
set_option linter.unusedVariables false
namespace Go.AM
universe u
section
variable {α : Type u}
def fcN (n : Nat) (k : Nat → α) : α := Nat.casesOn (motive := fun _ => α) n (k 0) fun m => k (Nat.succ m)
theorem fcN_eq (n : Nat) (k : Nat → α) : fcN n k = k n := by cases n <;> rfl
def fcI (i : Int) (k : Int → α) : α := Int.casesOn (motive := fun _ => α) i (fun n => fcN n fun n => k (Int.ofNat n)) (fun n => fcN n fun n => k (Int.negSucc n))
theorem fcI_eq (n : Int) (k : Int → α) : fcI n k = k n := by cases n <;> simp [fcI, fcN_eq]
def fcB (b : Bool) (k : Bool → α) : α := Bool.casesOn (motive := fun _ => α) b (k false) (k true)
theorem fcB_eq (b : Bool) (k : Bool → α) : fcB b k = k b := by cases b <;> rfl
def fcK (b : IntKind) (k : IntKind → α) : α := match b with
  | .i8 => k .i8 | .i16 => k .i16 | .i32 => k .i32 | .i64 => k .i64 | .u8 => k .u8 | .u16 => k .u16 | .u32 => k .u32 | .u64 => k .u64
theorem fcK_eq (b : IntKind) (k : IntKind → α) : fcK b k = k b := by cases b <;> rfl
def fcO {β : Type} (fb : β → (β → α) → α) (o : Option β) (k : Option β → α) : α := match o with
  | none => k none
  | some x => fb x fun x => k (some x)
theorem fcO_eq {β : Type} {fb : β → (β → α) → α} (h : ∀ x k, fb x k = k x) (o : Option β) (k : Option β → α) : fcO fb o k = k o := by cases o <;> simp [fcO, h]
def fcP (o : Nat × Nat) (k : Nat × Nat → α) : α := match o with
  | (a, b) => fcN a fun a => fcN b fun b => k (a, b)
theorem fcP_eq (o : Nat × Nat) (k : Nat × Nat → α) : fcP o k = k o := by cases o; simp [fcP, fcN_eq]
def fcS (o : Sl) (k : Sl → α) : α := match o with
  | ⟨a, l, z, f⟩ => fcO fcP a fun a => fcN l fun l => fcN z fun z => fcB f fun f => k ⟨a, l, z, f⟩
theorem fcS_eq (o : Sl) (k : Sl → α) : fcS o k = k o := by cases o; simp [fcS, fcN_eq, fcB_eq, fcO_eq fcP_eq]
mutual
def fcV : V → (V → α) → α
  | .bool b, k => fcB b fun b => k (.bool b)
  | .int d n, k => fcK d fun d => fcI n fun n => k (.int d n)
  | .ptr a, k => fcO fcP a fun a => k (.ptr a)
  | .slice s, k => fcS s fun s => k (.slice s)
  | .map r, k => fcO fcN r fun r => k (.map r)
  | .agg cs, k => fcVs cs fun cs => k (.agg cs)
  | .tuple cs, k => fcVs cs fun cs => k (.tuple cs)
  | .list n z cs, k => fcN n fun n => fcN z fun z => fcVs cs fun cs => k (.list n z cs)
  | .lptr cs, k => fcVs cs fun cs => k (.lptr cs)
  | .dead, k => k .dead
  | .str s, k => k (.str s)
  | .func f a b, k => k (.func f a b)
  | .nilFunc, k => k .nilFunc
  | .iface t v, k => k (.iface t v)
  | .nilIface, k => k .nilIface
  | .yld j, k => k (.yld j)
def fcVs : List V → (List V → α) → α
  | [], k => k []
  | v :: vs, k => fcV v fun v => fcVs vs fun vs => k (v :: vs)
end
mutual
theorem fcV_eq : ∀ (v : V) (k : V → α), fcV v k = k v
  | .bool b, k => by simp [fcV, fcB_eq]
  | .int d n, k => by simp [fcV, fcK_eq, fcI_eq]
  | .ptr a, k => by simp [fcV, fcO_eq fcP_eq]
  | .slice s, k => by simp [fcV, fcS_eq]
  | .map r, k => by simp [fcV, fcO_eq fcN_eq]
  | .agg cs, k => by rw [fcV, fcVs_eq]
  | .tuple cs, k => by rw [fcV, fcVs_eq]
  | .list n z cs, k => by rw [fcV, fcN_eq, fcN_eq, fcVs_eq]
  | .lptr cs, k => by rw [fcV, fcVs_eq]
  | .dead, k => rfl
  | .str s, k => rfl
  | .func f a b, k => rfl
  | .nilFunc, k => rfl
  | .iface t v, k => rfl
  | .nilIface, k => rfl
  | .yld j, k => rfl
theorem fcVs_eq : ∀ (v : List V) (k : List V → α), fcVs v k = k v
  | [], k => rfl
  | v :: vs, k => by rw [fcVs, fcV_eq, fcVs_eq]
end
end
def fcall (call : FuncId → List V → Heap → Option R) (f : FuncId) (args : List V) (H : Heap) : Option R := fcN f fun f => fcVs args fun args => call f args H
theorem fcall_eq (call : FuncId → List V → Heap → Option R) : fcall call = call := by
  funext f args H; rw [fcall, fcN_eq, fcVs_eq]
def bodyA (C : Cfg) (call : FuncId → List V → Heap → Option R) (n : Nat) (f : FuncId) (args : List V) (H : Heap) : Option R :=
  if yB ≤ f then yieldA C (fun tab N c => exec C.P call tab N (some (f - yB)) n c) (f - yB) args H else
  match C.ext f with
  | some g => g args H
  | none => match C.tabs f with
    | some tab => match C.P.funcs[f]? with
      | some fn => match fn.body with
        | some c => if C.pu f = true then pureA args H fun args => exec C.P call tab fn.ntmps none n c (argsA 0 args) ⟨0, .nil⟩ (kRet C.P (C.fr f) fn.results.toList)
          else inA (C.fa f) args H fun args H => exec C.P call tab fn.ntmps none n c (argsA 0 args) H (kRet C.P (C.fr f) fn.results.toList)
        | none => none
      | none => none
    | none => none
theorem bodyA_e {C : Cfg} {n : Nat} {f : FuncId} {a : List V} {H : Heap} : bodyA C (fcall (callA C n)) n f a H = callA C (n + 1) f a H := by
  rw [fcall_eq]; unfold callA; rfl
class Fc (α : Type) where
  fc : {ρ : Type} → α → (α → ρ) → ρ
  eq : ∀ {ρ : Type} (x : α) (k : α → ρ), fc x k = k x
instance : Fc V := ⟨fcV, fcV_eq⟩
instance : Fc Bool := ⟨fcB, fcB_eq⟩
instance : Fc Nat := ⟨fcN, fcN_eq⟩
instance : Fc Heap := ⟨fun x k => k x, fun _ _ => rfl⟩
instance : Fc O := ⟨fun x k => k x, fun _ _ => rfl⟩
instance : Fc Unit := ⟨fun x k => k x, fun _ _ => rfl⟩
instance {α β : Type} [Fc α] [Fc β] : Fc (α × β) := ⟨fun x k => match x with | (a, b) => Fc.fc a fun a => Fc.fc b fun b => k (a, b), fun x k => by cases x; simp [Fc.eq]⟩
abbrev B3 := {α β : Type} → [Fc α] → Option α → (α → Option β) → Option β
def bf {α β : Type} [Fc α] (x : Option α) (f : α → Option β) : Option β := match x with
  | some a => Fc.fc a f
  | none => none
def bdI {α β : Type} [Fc α] (x : Option α) (f : α → Option β) : Option β := bd x f
theorem bf_is : (@bf : B3) = @bdI := by
  funext α β _ x f
  cases x with
  | none => rfl
  | some a => exact Fc.eq a f
end Go.AM
end
section
set_option linter.unusedVariables false
set_option linter.unusedSimpArgs false
set_option maxRecDepth 1000000
set_option linter.unusedVariables false
namespace Go.AM.L
noncomputable def journal_New.r (bd : B3) (call : FuncId → List V → Heap → Option R) (n : Nat) (v0 v1 : V) (H : Heap) : Option R :=
 (bd (call 15 [v0, v1] H) fun r1 =>
 (bd (extA r1.1 0) fun t12_2 =>
 (bd (extA r1.1 1) fun t13_3 =>
 (bd (arA .neq t13_3 (.int .i64 0)) fun t15_4 =>
 (bd (asB t15_4) fun b5 =>
 if b5 = true then
 (some (.tuple [(.ptr none), t13_3], r1.2))
 else
 (bd (flA [(0, 1), (1, 1), (2, 1)] [(.ptr none), (.slice ⟨none, 0, 0, false⟩), (.slice ⟨none, 0, 0, false⟩)] [(0, t12_2)]) fun t18_6 =>
 (bd (boxA ty_journal_Journal t18_6) fun o7 =>
 (some (.tuple [(.ptr (some (r1.2.n, 0))), (.int .i64 0)], (r1.2.push o7))))))))))
theorem journal_New.r_e (n : Nat) (v0 v1 : V) (H : Heap) : journal_New.r @bdI (callA C n) n v0 v1 H = E C n 4 [] (argsA 0 [v0, v1]) H (kR C 4) := by
  unfold journal_New.r
  kernel_rfl
noncomputable def journal_New.rf (bd : B3) (call : FuncId → List V → Heap → Option R) (n : Nat) (a : List V) (H : Heap) : Option R := (match a with | [v0, v1] => journal_New.r bd call n v0 v1 H | a => E C n 4 [] (argsA 0 a) H (kR C 4))
theorem journal_New.rf_b (n : Nat) (a : List V) (H : Heap) : (match a with | [v0, v1] => journal_New.r @bdI (callA C n) n v0 v1 H | a => E C n 4 [] (argsA 0 a) H (kR C 4)) = E C n 4 [] (argsA 0 a) H (kR C 4) := by
  split
  · exact journal_New.r_e n _ _ H
  · rfl
theorem journal_New.rf_e (n : Nat) (a : List V) (H : Heap) : journal_New.rf @bdI (callA C n) n a H = callA C (n + 1) 4 a H := by
  unfold journal_New.rf
  refine (journal_New.rf_b n a H).trans ?_
  kernel_rfl
noncomputable def journal_Journal_Depth.r (bd : B3) (call : FuncId → List V → Heap → Option R) (n : Nat) (v0 : V) (H : Heap) : Option R :=
 (bd (eqlA P ty_p_journal_Journal v0 (.ptr none)) fun t5_1 =>
 (bd (asB t5_1) fun b2 =>
 if b2 = true then
 (some (.tuple [(.int .i64 0), (.int .i64 0)], H))
 else
 (bd (nilC v0) fun t7_3 =>
 (bd (faA 1 t7_3) fun t8_4 =>
 (bd (ld1 t8_4 (H.more 0)) fun t9_5 =>
 (bd (lenSl t9_5) fun t10_6 =>
 (bd (nilC v0) fun t12_7 =>
 (bd (faA 2 t12_7) fun t13_8 =>
 (bd (ld1 t13_8 (H.more 0)) fun t14_9 =>
 (bd (lenSl t14_9) fun t15_10 =>
 (some (.tuple [t10_6, t15_10], (H.more 0)))))))))))))
theorem journal_Journal_Depth.r_e (n : Nat) (v0 : V) (H : Heap) : journal_Journal_Depth.r @bdI (callA C n) n v0 H = E C n 5 [] (argsA 0 [v0]) H (kR C 5) := by
  unfold journal_Journal_Depth.r
  kernel_rfl
noncomputable def journal_Journal_Depth.rf (bd : B3) (call : FuncId → List V → Heap → Option R) (n : Nat) (a : List V) (H : Heap) : Option R := (match a with | [v0] => journal_Journal_Depth.r bd call n v0 H | a => E C n 5 [] (argsA 0 a) H (kR C 5))
theorem journal_Journal_Depth.rf_b (n : Nat) (a : List V) (H : Heap) : (match a with | [v0] => journal_Journal_Depth.r @bdI (callA C n) n v0 H | a => E C n 5 [] (argsA 0 a) H (kR C 5)) = E C n 5 [] (argsA 0 a) H (kR C 5) := by
  split
  · exact journal_Journal_Depth.r_e n _ H
  · rfl
theorem journal_Journal_Depth.rf_e (n : Nat) (a : List V) (H : Heap) : journal_Journal_Depth.rf @bdI (callA C n) n a H = callA C (n + 1) 5 a H := by
  unfold journal_Journal_Depth.rf
  refine (journal_Journal_Depth.rf_b n a H).trans ?_
  kernel_rfl
noncomputable def journal_Journal_Session.r (bd : B3) (call : FuncId → List V → Heap → Option R) (n : Nat) (v0 : V) (H : Heap) : Option R :=
 (bd (eqlA P ty_p_journal_Journal v0 (.ptr none)) fun t4_1 =>
 (bd (asB t4_1) fun b2 =>
 if b2 = true then
 (some ((.ptr none), H))
 else
 (bd (nilC v0) fun t6_3 =>
 (bd (faA 0 t6_3) fun t7_4 =>
 (bd (ld1 t7_4 H) fun t8_5 =>
 (some (t8_5, H)))))))
theorem journal_Journal_Session.r_e (n : Nat) (v0 : V) (H : Heap) : journal_Journal_Session.r @bdI (callA C n) n v0 H = E C n 7 [] (argsA 0 [v0]) H (kR C 7) := by
  unfold journal_Journal_Session.r
  kernel_rfl
noncomputable def journal_Journal_Session.rf (bd : B3) (call : FuncId → List V → Heap → Option R) (n : Nat) (a : List V) (H : Heap) : Option R := (match a with | [v0] => journal_Journal_Session.r bd call n v0 H | a => E C n 7 [] (argsA 0 a) H (kR C 7))
theorem journal_Journal_Session.rf_b (n : Nat) (a : List V) (H : Heap) : (match a with | [v0] => journal_Journal_Session.r @bdI (callA C n) n v0 H | a => E C n 7 [] (argsA 0 a) H (kR C 7)) = E C n 7 [] (argsA 0 a) H (kR C 7) := by
  split
  · exact journal_Journal_Session.r_e n _ H
  · rfl
theorem journal_Journal_Session.rf_e (n : Nat) (a : List V) (H : Heap) : journal_Journal_Session.rf @bdI (callA C n) n a H = callA C (n + 1) 7 a H := by
  unfold journal_Journal_Session.rf
  refine (journal_Journal_Session.rf_b n a H).trans ?_
  kernel_rfl
noncomputable def session_Session_Engine.r (bd : B3) (call : FuncId → List V → Heap → Option R) (n : Nat) (v0 : V) (H : Heap) : Option R :=
 (bd (eqlA P ty_p_session_Session v0 (.ptr none)) fun t4_1 =>
 (bd (asB t4_1) fun b2 =>
 if b2 = true then
 (some ((.ptr none), H))
 else
 (bd (nilC v0) fun t6_3 =>
 (bd (faA 0 t6_3) fun t7_4 =>
 (bd (ld1 t7_4 H) fun t8_5 =>
 (some (t8_5, H)))))))
theorem session_Session_Engine.r_e (n : Nat) (v0 : V) (H : Heap) : session_Session_Engine.r @bdI (callA C n) n v0 H = E C n 8 [] (argsA 0 [v0]) H (kR C 8) := by
  unfold session_Session_Engine.r
  kernel_rfl
noncomputable def session_Session_Engine.rf (bd : B3) (call : FuncId → List V → Heap → Option R) (n : Nat) (a : List V) (H : Heap) : Option R := (match a with | [v0] => session_Session_Engine.r bd call n v0 H | a => E C n 8 [] (argsA 0 a) H (kR C 8))
theorem session_Session_Engine.rf_b (n : Nat) (a : List V) (H : Heap) : (match a with | [v0] => session_Session_Engine.r @bdI (callA C n) n v0 H | a => E C n 8 [] (argsA 0 a) H (kR C 8)) = E C n 8 [] (argsA 0 a) H (kR C 8) := by
  split
  · exact session_Session_Engine.r_e n _ H
  · rfl
theorem session_Session_Engine.rf_e (n : Nat) (a : List V) (H : Heap) : session_Session_Engine.rf @bdI (callA C n) n a H = callA C (n + 1) 8 a H := by
  unfold session_Session_Engine.rf
  refine (session_Session_Engine.rf_b n a H).trans ?_
  kernel_rfl
noncomputable def journal_Journal_Undo.r (bd : B3) (call : FuncId → List V → Heap → Option R) (n : Nat) (v0 : V) (H : Heap) : Option R :=
 (bd (neqA P ty_p_journal_Journal v0 (.ptr none)) fun t4_1 =>
 (bd (asB t4_1) fun b2 =>
 if b2 = true then
 (bd (nilC v0) fun t8_3 =>
 (bd (faA 1 t8_3) fun t9_4 =>
 (bd (nilC v0) fun t11_5 =>
 (bd (faA 2 t11_5) fun t12_6 =>
 (bd (call 16 [v0, t9_4, t12_6] (H.more 0)) fun r7 =>
 (some (r7.1, r7.2)))))))
 else
 (some ((.bool false), (H.more 0)))))
theorem journal_Journal_Undo.r_e (n : Nat) (v0 : V) (H : Heap) : journal_Journal_Undo.r @bdI (callA C n) n v0 H = E C n 10 [] (argsA 0 [v0]) H (kR C 10) := by
  unfold journal_Journal_Undo.r
  kernel_rfl
noncomputable def journal_Journal_Undo.rf (bd : B3) (call : FuncId → List V → Heap → Option R) (n : Nat) (a : List V) (H : Heap) : Option R := (match a with | [v0] => journal_Journal_Undo.r bd call n v0 H | a => E C n 10 [] (argsA 0 a) H (kR C 10))
theorem journal_Journal_Undo.rf_b (n : Nat) (a : List V) (H : Heap) : (match a with | [v0] => journal_Journal_Undo.r @bdI (callA C n) n v0 H | a => E C n 10 [] (argsA 0 a) H (kR C 10)) = E C n 10 [] (argsA 0 a) H (kR C 10) := by
  split
  · exact journal_Journal_Undo.r_e n _ H
  · rfl
theorem journal_Journal_Undo.rf_e (n : Nat) (a : List V) (H : Heap) : journal_Journal_Undo.rf @bdI (callA C n) n a H = callA C (n + 1) 10 a H := by
  unfold journal_Journal_Undo.rf
  refine (journal_Journal_Undo.rf_b n a H).trans ?_
  kernel_rfl
noncomputable def journal_Journal_Redo.r (bd : B3) (call : FuncId → List V → Heap → Option R) (n : Nat) (v0 : V) (H : Heap) : Option R :=
 (bd (neqA P ty_p_journal_Journal v0 (.ptr none)) fun t4_1 =>
 (bd (asB t4_1) fun b2 =>
 if b2 = true then
 (bd (nilC v0) fun t8_3 =>
 (bd (faA 2 t8_3) fun t9_4 =>
 (bd (nilC v0) fun t11_5 =>
 (bd (faA 1 t11_5) fun t12_6 =>
 (bd (call 16 [v0, t9_4, t12_6] (H.more 0)) fun r7 =>
 (some (r7.1, r7.2)))))))
 else
 (some ((.bool false), (H.more 0)))))
theorem journal_Journal_Redo.r_e (n : Nat) (v0 : V) (H : Heap) : journal_Journal_Redo.r @bdI (callA C n) n v0 H = E C n 11 [] (argsA 0 [v0]) H (kR C 11) := by
  unfold journal_Journal_Redo.r
  kernel_rfl
noncomputable def journal_Journal_Redo.rf (bd : B3) (call : FuncId → List V → Heap → Option R) (n : Nat) (a : List V) (H : Heap) : Option R := (match a with | [v0] => journal_Journal_Redo.r bd call n v0 H | a => E C n 11 [] (argsA 0 a) H (kR C 11))
theorem journal_Journal_Redo.rf_b (n : Nat) (a : List V) (H : Heap) : (match a with | [v0] => journal_Journal_Redo.r @bdI (callA C n) n v0 H | a => E C n 11 [] (argsA 0 a) H (kR C 11)) = E C n 11 [] (argsA 0 a) H (kR C 11) := by
  split
  · exact journal_Journal_Redo.r_e n _ H
  · rfl
theorem journal_Journal_Redo.rf_e (n : Nat) (a : List V) (H : Heap) : journal_Journal_Redo.rf @bdI (callA C n) n a H = callA C (n + 1) 11 a H := by
  unfold journal_Journal_Redo.rf
  refine (journal_Journal_Redo.rf_b n a H).trans ?_
  kernel_rfl
noncomputable def law38_lives.r (bd : B3) (call : FuncId → List V → Heap → Option R) (n : Nat) (H : Heap) : Option R :=
 (bd (call 4 [(.int .i64 10), (.int .i64 5)] H) fun r1 =>
 (bd (extA r1.1 0) fun t11_2 =>
 (bd (extA r1.1 1) fun t12_3 =>
 (bd (eqlA P ty_p_journal_Journal t11_2 (.ptr none)) fun t14_4 =>
 (bd (asB t14_4) fun b5 =>
 if b5 = true then
 (some ((.bool false), r1.2))
 else
 (bd (arA .neq t12_3 (.int .i64 0)) fun t17_6 =>
 (bd (asB t17_6) fun b7 =>
 if b7 = true then
 (some ((.bool false), r1.2))
 else
 (bd (flA [(0, 1), (1, 1), (2, 1), (3, 1), (4, 1)] [(.int .i64 0), (.int .i64 0), (.int .i64 0), (.int .i64 0), (.str [])] [(0, (.int .i64 1)), (1, (.int .i64 3)), (2, (.int .i64 4))]) fun t20_8 =>
 (bd (call 14 [t11_2, t20_8] r1.2) fun r9 =>
 (bd (stA 9 (.ptr (some (r9.2.n, 0))) r9.1 (r9.2.push (.cells [(.int .i64 0), (.int .i64 0), (.bool false), (.str []), (.bool false), (.int .i64 0), (.int .i64 0), (.slice ⟨none, 0, 0, false⟩), (.slice ⟨none, 0, 0, false⟩)] ty_api_Ans false))) fun H10 =>
 (bd (call 10 [t11_2] H10) fun r11 =>
 (bd (call 7 [t11_2] r11.2) fun r12 =>
 (bd (call 8 [r12.1] r12.2) fun r13 =>
 (bd (call 17 [r13.1] r13.2) fun r14 =>
 (bd (lenSl r14.1) fun t28_15 =>
 (bd (call 11 [t11_2] r14.2) fun r16 =>
 (bd (call 5 [t11_2] r16.2) fun r17 =>
 (bd (extA r17.1 0) fun t34_18 =>
 (bd (extA r17.1 1) fun t35_19 =>
 (bd (faA 0 (.ptr (some (r9.2.n, 0)))) fun t36_20 =>
 (bd (ld1 t36_20 r17.2) fun t37_21 =>
 (bd (arA .eql t37_21 (.int .i64 0)) fun t38_22 =>
 (bd (asB t38_22) fun b23 =>
 if b23 = true then
 (bd (asB r11.1) fun b24 =>
 if b24 = true then
 (bd (asB r16.1) fun b25 =>
 if b25 = true then
 (bd (arA .eql t28_15 (.int .i64 0)) fun t47_26 =>
 (bd (asB t47_26) fun b27 =>
 if b27 = true then
 (bd (arA .eql t34_18 (.int .i64 1)) fun t51_28 =>
 (bd (asB t51_28) fun b29 =>
 if b29 = true then
 (bd (arA .eql t35_19 (.int .i64 0)) fun t55_30 =>
 (bd (asB t55_30) fun b31 =>
 if b31 = true then
 (bd (call 7 [t11_2] r17.2) fun r32 =>
 (bd (call 8 [r32.1] r32.2) fun r33 =>
 (bd (call 17 [r33.1] r33.2) fun r34 =>
 (bd (lenSl r34.1) fun t62_35 =>
 (bd (arA .eql t62_35 (.int .i64 1)) fun t63_36 =>
 (some (t63_36, r34.2)))))))
 else
 (some ((.bool false), r17.2))))
 else
 (some ((.bool false), r17.2))))
 else
 (some ((.bool false), r17.2))))
 else
 (some ((.bool false), r17.2)))
 else
 (some ((.bool false), r17.2)))
 else
 (some ((.bool false), r17.2)))))))))))))))))))))))))
theorem law38_lives.r_e (n : Nat) (H : Heap) : law38_lives.r @bdI (callA C n) n H = E C n 12 [] (argsA 0 []) H (kR C 12) := by
  unfold law38_lives.r
  kernel_rfl
noncomputable def law38_lives.rf (bd : B3) (call : FuncId → List V → Heap → Option R) (n : Nat) (a : List V) (H : Heap) : Option R := pureA a H fun a => (match a with | [] => law38_lives.r bd call n ⟨0, .nil⟩ | a => E C n 12 [] (argsA 0 a) ⟨0, .nil⟩ (kR C 12))
theorem law38_lives.rf_b (n : Nat) (a : List V) (H : Heap) : (match a with | [] => law38_lives.r @bdI (callA C n) n H | a => E C n 12 [] (argsA 0 a) H (kR C 12)) = E C n 12 [] (argsA 0 a) H (kR C 12) := by
  split
  · exact law38_lives.r_e n H
  · rfl
theorem law38_lives.rf_e (n : Nat) (a : List V) (H : Heap) : law38_lives.rf @bdI (callA C n) n a H = callA C (n + 1) 12 a H := by
  unfold law38_lives.rf
  refine (congrArg (pureA a H) (funext fun a => law38_lives.rf_b n a ⟨0, .nil⟩)).trans ?_
  kernel_rfl
noncomputable def journal_Journal_Do.r (bd : B3) (call : FuncId → List V → Heap → Option R) (n : Nat) (v0 v1 : V) (H : Heap) : Option R :=
 (bd (boxA ty_api_Cmd v1) fun o1 =>
 (bd (eqlA P ty_p_journal_Journal v0 (.ptr none)) fun t9_2 =>
 (bd (asB t9_2) fun b3 =>
 if b3 = true then
 (bd (flA [(0, 1), (1, 1), (2, 1), (3, 1), (4, 3), (7, 1), (8, 1)] [(.int .i64 0), (.int .i64 0), (.bool false), (.str []), (.bool false), (.int .i64 0), (.int .i64 0), (.slice ⟨none, 0, 0, false⟩), (.slice ⟨none, 0, 0, false⟩)] [(0, (.int .i64 10))]) fun t10_4 =>
 (bd (stA 9 (.ptr (some ((H.push o1).n, 0))) t10_4 ((H.push o1).push (.cells [(.int .i64 0), (.int .i64 0), (.bool false), (.str []), (.bool false), (.int .i64 0), (.int .i64 0), (.slice ⟨none, 0, 0, false⟩), (.slice ⟨none, 0, 0, false⟩)] ty_api_Ans false))) fun H5 =>
 (bd (ldN 9 (.ptr (some ((H.push o1).n, 0))) H5) fun t6 =>
 (frzR t6 H5))))
 else
 (bd (nilC v0) fun t12_7 =>
 (bd (faA 0 t12_7) fun t13_8 =>
 (bd (ld1 t13_8 ((H.push o1).push (.cells [(.int .i64 0), (.int .i64 0), (.bool false), (.str []), (.bool false), (.int .i64 0), (.int .i64 0), (.slice ⟨none, 0, 0, false⟩), (.slice ⟨none, 0, 0, false⟩)] ty_api_Ans false))) fun t14_9 =>
 (bd (call 8 [t14_9] ((H.push o1).push (.cells [(.int .i64 0), (.int .i64 0), (.bool false), (.str []), (.bool false), (.int .i64 0), (.int .i64 0), (.slice ⟨none, 0, 0, false⟩), (.slice ⟨none, 0, 0, false⟩)] ty_api_Ans false))) fun r10 =>
 (bd (call 17 [r10.1] r10.2) fun r11 =>
 (bd (nilC v0) fun t18_12 =>
 (bd (faA 0 t18_12) fun t19_13 =>
 (bd (ld1 t19_13 (r11.2.more 1)) fun t20_14 =>
 (bd (ldN 5 (.ptr (some (H.n, 0))) (r11.2.more 1)) fun t21_15 =>
 (bd (call 20 [t20_14, t21_15] (r11.2.more 1)) fun r16 =>
 (bd (stA 9 (.ptr (some ((r11.2.n + 0), 0))) r16.1 (r16.2.set (r11.2.n + 0) (.cells [(.int .i64 0), (.int .i64 0), (.bool false), (.str []), (.bool false), (.int .i64 0), (.int .i64 0), (.slice ⟨none, 0, 0, false⟩), (.slice ⟨none, 0, 0, false⟩)] ty_api_Ans false))) fun H17 =>
 (bd (nilC v0) fun t25_18 =>
 (bd (faA 0 t25_18) fun t26_19 =>
 (bd (ld1 t26_19 H17) fun t27_20 =>
 (bd (call 8 [t27_20] H17) fun r21 =>
 (bd (call 17 [r21.1] r21.2) fun r22 =>
 (bd (call 21 [r11.1, r22.1] r22.2) fun r23 =>
 (bd (lenSl r23.1) fun t32_24 =>
 (bd (arA .eql t32_24 (.int .i64 0)) fun t33_25 =>
 (bd (asB t33_25) fun b26 =>
 if b26 = true then
 (bd (ldN 9 (.ptr (some ((r11.2.n + 0), 0))) r23.2) fun t34_27 =>
 (bd (stA 9 (.ptr (some ((H.push o1).n, 0))) t34_27 r23.2) fun H28 =>
 (bd (ldN 9 (.ptr (some ((H.push o1).n, 0))) H28) fun t29 =>
 (frzR t29 H28))))
 else
 (bd (nilC v0) fun t36_30 =>
 (bd (faA 2 t36_30) fun t37_31 =>
 (bd (stA 1 t37_31 (.slice ⟨none, 0, 0, false⟩) r23.2) fun H32 =>
 (bd (nilC v0) fun t40_33 =>
 (bd (faA 1 t40_33) fun t41_34 =>
 (bd (ld1 t41_34 H32) fun t42_35 =>
 (bd (bSl 1 ty_sl_journal_change [(.slice ⟨none, 0, 0, false⟩)] 1 [(0, r23.1)]) fun o36 =>
 (bd (appA 1 24 ty_sl_journal_change t42_35 (.slice ⟨some (H32.n, 0), 1, 1, false⟩) (H32.push o36)) fun p37 =>
 (bd (nilC v0) fun t46_38 =>
 (bd (faA 1 t46_38) fun t47_39 =>
 (bd (stA 1 t47_39 p37.1 p37.2) fun H40 =>
 (bd (nilC v0) fun t49_41 =>
 (bd (faA 1 t49_41) fun t50_42 =>
 (bd (ld1 t50_42 H40) fun t51_43 =>
 (bd (lenSl t51_43) fun t52_44 =>
 (bd (arA .gtr t52_44 (.int .i64 100)) fun t53_45 =>
 (bd (asB t53_45) fun b46 =>
 if b46 = true then
 (bd (nilC v0) fun t56_47 =>
 (bd (faA 1 t56_47) fun t57_48 =>
 (bd (ld1 t57_48 H40) fun t58_49 =>
 (bd (call 22 [t58_49, (.int .i64 0), (.int .i64 1)] H40) fun r50 =>
 (bd (nilC v0) fun t60_51 =>
 (bd (faA 1 t60_51) fun t61_52 =>
 (bd (stA 1 t61_52 r50.1 r50.2) fun H53 =>
 (bd (ldN 9 (.ptr (some ((r11.2.n + 0), 0))) H53) fun t62_54 =>
 (bd (stA 9 (.ptr (some ((H.push o1).n, 0))) t62_54 H53) fun H55 =>
 (bd (ldN 9 (.ptr (some ((H.push o1).n, 0))) H55) fun t56 =>
 (frzR t56 H55)))))))))))
 else
 (bd (ldN 9 (.ptr (some ((r11.2.n + 0), 0))) H40) fun t62_57 =>
 (bd (stA 9 (.ptr (some ((H.push o1).n, 0))) t62_57 H40) fun H58 =>
 (bd (ldN 9 (.ptr (some ((H.push o1).n, 0))) H58) fun t59 =>
 (frzR t59 H58))))))))))))))))))))))))))))))))))))))))))))
theorem journal_Journal_Do.r_e (n : Nat) (v0 v1 : V) (H : Heap) : journal_Journal_Do.r @bdI (callA C n) n v0 v1 H = E C n 14 [] (argsA 0 [v0, v1]) H (kR C 14) := by
  unfold journal_Journal_Do.r
  kernel_rfl
noncomputable def journal_Journal_Do.rf (bd : B3) (call : FuncId → List V → Heap → Option R) (n : Nat) (a : List V) (H : Heap) : Option R := (match a with | [v0, v1] => journal_Journal_Do.r bd call n v0 v1 H | a => E C n 14 [] (argsA 0 a) H (kR C 14))
theorem journal_Journal_Do.rf_b (n : Nat) (a : List V) (H : Heap) : (match a with | [v0, v1] => journal_Journal_Do.r @bdI (callA C n) n v0 v1 H | a => E C n 14 [] (argsA 0 a) H (kR C 14)) = E C n 14 [] (argsA 0 a) H (kR C 14) := by
  split
  · exact journal_Journal_Do.r_e n _ _ H
  · rfl
theorem journal_Journal_Do.rf_e (n : Nat) (a : List V) (H : Heap) : journal_Journal_Do.rf @bdI (callA C n) n a H = callA C (n + 1) 14 a H := by
  unfold journal_Journal_Do.rf
  refine (journal_Journal_Do.rf_b n a H).trans ?_
  kernel_rfl
noncomputable def session_Open.r (bd : B3) (call : FuncId → List V → Heap → Option R) (n : Nat) (v0 v1 : V) (H : Heap) : Option R :=
 (bd (call 23 [v0, v1] H) fun r1 =>
 (bd (extA r1.1 0) fun t9_2 =>
 (bd (extA r1.1 1) fun t10_3 =>
 (some (.tuple [t9_2, t10_3], r1.2)))))
theorem session_Open.r_e (n : Nat) (v0 v1 : V) (H : Heap) : session_Open.r @bdI (callA C n) n v0 v1 H = E C n 15 [] (argsA 0 [v0, v1]) H (kR C 15) := by
  unfold session_Open.r
  kernel_rfl
noncomputable def session_Open.rf (bd : B3) (call : FuncId → List V → Heap → Option R) (n : Nat) (a : List V) (H : Heap) : Option R := (match a with | [v0, v1] => session_Open.r bd call n v0 v1 H | a => E C n 15 [] (argsA 0 a) H (kR C 15))
theorem session_Open.rf_b (n : Nat) (a : List V) (H : Heap) : (match a with | [v0, v1] => session_Open.r @bdI (callA C n) n v0 v1 H | a => E C n 15 [] (argsA 0 a) H (kR C 15)) = E C n 15 [] (argsA 0 a) H (kR C 15) := by
  split
  · exact session_Open.r_e n _ _ H
  · rfl
theorem session_Open.rf_e (n : Nat) (a : List V) (H : Heap) : session_Open.rf @bdI (callA C n) n a H = callA C (n + 1) 15 a H := by
  unfold session_Open.rf
  refine (session_Open.rf_b n a H).trans ?_
  kernel_rfl
@[irreducible] noncomputable def journal_Journal_swap.l0 (n m0 : Nat) (v0 v1 v2 v7 v8 v24 v25 v26 : V) (H : Heap) : Option R := Lp C n 16 [1, 1, 1, 1, 0, 1, 0, 0] m0 [(0, v0), (1, v1), (2, v2), (7, v7), (8, v8), (24, v24), (25, v25), (26, v26)] H (kB 0 (kC C n 16 [1, 1, 1, 1, 1] (kR C 16)))
@[irreducible] noncomputable def journal_Journal_swap.p1 (n : Nat) (v0 v1 v2 v7 v8 : V) (H : Heap) : Option R := E C n 16 [1, 1, 1, 1, 1] [(0, v0), (1, v1), (2, v2), (7, v7), (8, v8)] H (kR C 16)
noncomputable def journal_Journal_swap.r_p1 (bd : B3) (call : FuncId → List V → Heap → Option R) (n : Nat) (v0 v1 v2 v7 v8 : V) (H : Heap) : Option R :=
 (bd (nilC v1) fun t38_1 =>
 (bd (ld1 t38_1 H) fun t39_2 =>
 (bd (slSl 1 t39_2 none (some v7)) fun t41_3 =>
 (bd (nilC v1) fun t42_4 =>
 (bd (stA 1 t42_4 t41_3 H) fun H5 =>
 (bd (nilC v2) fun t45_6 =>
 (bd (ld1 t45_6 H5) fun t46_7 =>
 (bd (bSl 1 ty_sl_journal_change [(.slice ⟨none, 0, 0, false⟩)] 1 [(0, v8)]) fun o8 =>
 (bd (appA 1 24 ty_sl_journal_change t46_7 (.slice ⟨some (H5.n, 0), 1, 1, false⟩) (H5.push o8)) fun p9 =>
 (bd (nilC v2) fun t50_10 =>
 (bd (stA 1 t50_10 p9.1 p9.2) fun H11 =>
 (bd (nilC v0) fun t52_12 =>
 (bd (faA 0 t52_12) fun t53_13 =>
 (bd (ld1 t53_13 H11) fun t54_14 =>
 (bd (call 8 [t54_14] H11) fun r15 =>
 (bd (call 17 [r15.1] r15.2) fun r16 =>
 (bd (call 26 [r16.1, v8] r16.2) fun r17 =>
 (bd (call 25 [r15.1, r17.1] r17.2) fun r18 =>
 (some ((.bool true), r18.2))))))))))))))))))))
theorem journal_Journal_swap.r_p1_e (n : Nat) : journal_Journal_swap.r_p1 @bdI (callA C n) n = journal_Journal_swap.p1 n := by
  funext v0 v1 v2 v7 v8 H
  unfold journal_Journal_swap.r_p1
  kernel_rfl
noncomputable def journal_Journal_swap.r_l0 (bd : B3) (call : FuncId → List V → Heap → Option R) (n : Nat) (s0 : V → V → V → V → V → V → V → V → Heap → Option R) (v0 v1 v2 v7 v8 v24 v25 v26 : V) (H : Heap) : Option R :=
 (bd (arA .lss v26 v25) fun t27_1 =>
 (bd (asB t27_1) fun b2 =>
 if b2 = true then
 (bd (idxS 7 v24 v26) fun t28_3 =>
 (bd (ldN 7 t28_3 H) fun t29_4 =>
 (bd (stA 7 (.ptr (some (H.n, 0))) t29_4 (H.push (.cells [(.int .i64 0), (.int .i64 0), (.int .i64 0), (.int .i64 0), (.int .i64 0), (.bool false), (.bool false)] ty_journal_change false))) fun H5 =>
 (bd (ldN 7 (.ptr (some (H.n, 0))) H5) fun t31_6 =>
 (bd (call 24 [t31_6] H5) fun r7 =>
 (bd (bSl 7 ty_journal_change [(.int .i64 0), (.int .i64 0), (.int .i64 0), (.int .i64 0), (.int .i64 0), (.bool false), (.bool false)] 1 [(0, r7.1)]) fun o8 =>
 (bd (appA 7 48 ty_journal_change v8 (.slice ⟨some (r7.2.n, 0), 1, 7, false⟩) (r7.2.push o8)) fun p9 =>
 (bd (arA .add v26 (.int .i64 1)) fun t35_10 =>
 (s0 v0 v1 v2 v7 p9.1 v24 v25 t35_10 p9.2)))))))))
 else
 (journal_Journal_swap.r_p1 bd call n v0 v1 v2 v7 v8 H)))
theorem journal_Journal_swap.r_l0_e (n m0 : Nat) : journal_Journal_swap.r_l0 @bdI (callA C n) n (journal_Journal_swap.l0 n m0) = journal_Journal_swap.l0 n (m0 + 1) := by
  funext v0 v1 v2 v7 v8 v24 v25 v26 H
  unfold journal_Journal_swap.r_l0
  rewrite [journal_Journal_swap.r_p1_e]
  kernel_rfl
noncomputable def journal_Journal_swap.r_l0_lp (bd : B3) (call : FuncId → List V → Heap → Option R) (n : Nat) (m : Nat) : V → V → V → V → V → V → V → V → Heap → Option R := Nat.rec (motive := fun _ => V → V → V → V → V → V → V → V → Heap → Option R) (fun _ _ _ _ _ _ _ _ _ => none) (fun _ self => journal_Journal_swap.r_l0 bd call n self) m
theorem journal_Journal_swap.r_l0_lp_e (n : Nat) : journal_Journal_swap.r_l0_lp @bdI (callA C n) n = journal_Journal_swap.l0 n := by
  funext m
  induction m with
  | zero => funext v0 v1 v2 v7 v8 v24 v25 v26 H; kernel_rfl
  | succ k ih => exact (congrArg (journal_Journal_swap.r_l0 @bdI (callA C n) n) ih).trans (journal_Journal_swap.r_l0_e n k)
noncomputable def journal_Journal_swap.r (bd : B3) (call : FuncId → List V → Heap → Option R) (n : Nat) (v0 v1 v2 : V) (H : Heap) : Option R :=
 (bd (nilC v1) fun t13_1 =>
 (bd (ld1 t13_1 H) fun t14_2 =>
 (bd (lenSl t14_2) fun t15_3 =>
 (bd (arA .sub t15_3 (.int .i64 1)) fun t16_4 =>
 (bd (arA .lss t16_4 (.int .i64 0)) fun t18_5 =>
 (bd (asB t18_5) fun b6 =>
 if b6 = true then
 (some ((.bool false), H))
 else
 (bd (nilC v1) fun t20_7 =>
 (bd (ld1 t20_7 H) fun t21_8 =>
 (bd (idxS 1 t21_8 t16_4) fun t23_9 =>
 (bd (ld1 t23_9 H) fun t24_10 =>
 (bd (lenSl t24_10) fun t25_11 =>
 (journal_Journal_swap.r_l0_lp bd call n n v0 v1 v2 t16_4 (.slice ⟨none, 0, 0, false⟩) t24_10 t25_11 (.int .i64 0) H))))))))))))
theorem journal_Journal_swap.r_e (n : Nat) (v0 v1 v2 : V) (H : Heap) : journal_Journal_swap.r @bdI (callA C n) n v0 v1 v2 H = E C n 16 [] (argsA 0 [v0, v1, v2]) H (kR C 16) := by
  unfold journal_Journal_swap.r
  rewrite [journal_Journal_swap.r_l0_lp_e]
  kernel_rfl
noncomputable def journal_Journal_swap.rf (bd : B3) (call : FuncId → List V → Heap → Option R) (n : Nat) (a : List V) (H : Heap) : Option R := (match a with | [v0, v1, v2] => journal_Journal_swap.r bd call n v0 v1 v2 H | a => E C n 16 [] (argsA 0 a) H (kR C 16))
theorem journal_Journal_swap.rf_b (n : Nat) (a : List V) (H : Heap) : (match a with | [v0, v1, v2] => journal_Journal_swap.r @bdI (callA C n) n v0 v1 v2 H | a => E C n 16 [] (argsA 0 a) H (kR C 16)) = E C n 16 [] (argsA 0 a) H (kR C 16) := by
  split
  · exact journal_Journal_swap.r_e n _ _ _ H
  · rfl
theorem journal_Journal_swap.rf_e (n : Nat) (a : List V) (H : Heap) : journal_Journal_swap.rf @bdI (callA C n) n a H = callA C (n + 1) 16 a H := by
  unfold journal_Journal_swap.rf
  refine (journal_Journal_swap.rf_b n a H).trans ?_
  kernel_rfl
@[irreducible] noncomputable def pdt_Engine_Sites.l0 (n m0 : Nat) (v3 v12 : V) (H : Heap) : Option R := Lp C n 17 [1, 1, 1, 0, 1, 0, 0] m0 [(3, v3), (12, v12)] H (kB 0 (kC C n 17 [1, 1, 1, 1] (kR C 17)))
@[irreducible] noncomputable def pdt_Engine_Sites.p1 (n : Nat) (v3 : V) (H : Heap) : Option R := E C n 17 [1, 1, 1, 1] [(3, v3)] H (kR C 17)
noncomputable def pdt_Engine_Sites.r_p1 (bd : B3) (call : FuncId → List V → Heap → Option R) (n : Nat) (v3 : V) (H : Heap) : Option R :=
 (bd (call 27 [v3, (.func (.func 28) [] [])] H) fun r1 =>
 (frzR v3 r1.2))
theorem pdt_Engine_Sites.r_p1_e (n : Nat) : pdt_Engine_Sites.r_p1 @bdI (callA C n) n = pdt_Engine_Sites.p1 n := by
  funext v3 H
  unfold pdt_Engine_Sites.r_p1
  kernel_rfl
noncomputable def pdt_Engine_Sites.r_l0 (bd : B3) (call : FuncId → List V → Heap → Option R) (n : Nat) (s0 : V → V → Heap → Option R) (v3 v12 : V) (H : Heap) : Option R :=
 (bd (nextA v12 false H) fun p1 =>
 (bd (extA p1.1 0) fun t14_2 =>
 (bd (asB t14_2) fun b3 =>
 if b3 = true then
 (bd (entryA v12 p1.2) fun t15_4 =>
 (bd (extA t15_4 0) fun t16_5 =>
 (bd (extA t15_4 1) fun t17_6 =>
 (bd (stA 2 (.ptr (some (p1.2.n, 0))) t17_6 (p1.2.push (.cells [(.int .i64 0), (.int .i64 0)] ty_api_Point false))) fun H7 =>
 (bd (ldN 2 (.ptr (some (p1.2.n, 0))) H7) fun t20_8 =>
 (bd (flA [(0, 1), (1, 2)] [(.int .i64 0), (.int .i64 0), (.int .i64 0)] [(0, t16_5), (1, t20_8)]) fun t21_9 =>
 (bd (bSl 3 ty_api_Place [(.int .i64 0), (.int .i64 0), (.int .i64 0)] 1 [(0, t21_9)]) fun o10 =>
 (bd (appA 3 24 ty_api_Place v3 (.slice ⟨some (H7.n, 0), 1, 3, false⟩) (H7.push o10)) fun p11 =>
 (s0 p11.1 v12 p11.2)))))))))
 else
 (pdt_Engine_Sites.r_p1 bd call n v3 p1.2))))
theorem pdt_Engine_Sites.r_l0_e (n m0 : Nat) : pdt_Engine_Sites.r_l0 @bdI (callA C n) n (pdt_Engine_Sites.l0 n m0) = pdt_Engine_Sites.l0 n (m0 + 1) := by
  funext v3 v12 H
  unfold pdt_Engine_Sites.r_l0
  rewrite [pdt_Engine_Sites.r_p1_e]
  kernel_rfl
noncomputable def pdt_Engine_Sites.r_l0_lp (bd : B3) (call : FuncId → List V → Heap → Option R) (n : Nat) (m : Nat) : V → V → Heap → Option R := Nat.rec (motive := fun _ => V → V → Heap → Option R) (fun _ _ _ => none) (fun _ self => pdt_Engine_Sites.r_l0 bd call n self) m
theorem pdt_Engine_Sites.r_l0_lp_e (n : Nat) : pdt_Engine_Sites.r_l0_lp @bdI (callA C n) n = pdt_Engine_Sites.l0 n := by
  funext m
  induction m with
  | zero => funext v3 v12 H; kernel_rfl
  | succ k ih => exact (congrArg (pdt_Engine_Sites.r_l0 @bdI (callA C n) n) ih).trans (pdt_Engine_Sites.r_l0_e n k)
noncomputable def pdt_Engine_Sites.r (bd : B3) (call : FuncId → List V → Heap → Option R) (n : Nat) (v0 : V) (H : Heap) : Option R :=
 (bd (eqlA P ty_p_pdt_Engine v0 (.ptr none)) fun t7_1 =>
 (bd (asB t7_1) fun b2 =>
 if b2 = true then
 (frzR (.slice ⟨none, 0, 0, false⟩) H)
 else
 (bd (nilC v0) fun t9_3 =>
 (bd (faA 2 t9_3) fun t10_4 =>
 (bd (ld1 t10_4 H) fun t11_5 =>
 (bd (rgMap t11_5 H) fun o6 =>
 (pdt_Engine_Sites.r_l0_lp bd call n n (.slice ⟨none, 0, 0, false⟩) (.ptr (some (H.n, 0))) (H.push o6))))))))
theorem pdt_Engine_Sites.r_e (n : Nat) (v0 : V) (H : Heap) : pdt_Engine_Sites.r @bdI (callA C n) n v0 H = E C n 17 [] (argsA 0 [v0]) H (kR C 17) := by
  unfold pdt_Engine_Sites.r
  rewrite [pdt_Engine_Sites.r_l0_lp_e]
  kernel_rfl
noncomputable def pdt_Engine_Sites.rf (bd : B3) (call : FuncId → List V → Heap → Option R) (n : Nat) (a : List V) (H : Heap) : Option R := (match a with | [v0] => pdt_Engine_Sites.r bd call n v0 H | a => E C n 17 [] (argsA 0 a) H (kR C 17))
theorem pdt_Engine_Sites.rf_b (n : Nat) (a : List V) (H : Heap) : (match a with | [v0] => pdt_Engine_Sites.r @bdI (callA C n) n v0 H | a => E C n 17 [] (argsA 0 a) H (kR C 17)) = E C n 17 [] (argsA 0 a) H (kR C 17) := by
  split
  · exact pdt_Engine_Sites.r_e n _ H
  · rfl
theorem pdt_Engine_Sites.rf_e (n : Nat) (a : List V) (H : Heap) : pdt_Engine_Sites.rf @bdI (callA C n) n a H = callA C (n + 1) 17 a H := by
  unfold pdt_Engine_Sites.rf
  refine (pdt_Engine_Sites.rf_b n a H).trans ?_
  kernel_rfl
noncomputable def session_Session_Do.r (bd : B3) (call : FuncId → List V → Heap → Option R) (n : Nat) (v0 v1 : V) (H : Heap) : Option R :=
 (bd (boxA ty_api_Cmd v1) fun o1 =>
 (bd (ldN 5 (.ptr (some (H.n, 0))) ((H.push o1).push (.cells [(.int .i64 0), (.int .i64 0), (.bool false), (.str []), (.bool false), (.int .i64 0), (.int .i64 0), (.slice ⟨none, 0, 0, false⟩), (.slice ⟨none, 0, 0, false⟩)] ty_api_Ans false))) fun t6_2 =>
 (bd (call 29 [v0, t6_2] ((H.push o1).push (.cells [(.int .i64 0), (.int .i64 0), (.bool false), (.str []), (.bool false), (.int .i64 0), (.int .i64 0), (.slice ⟨none, 0, 0, false⟩), (.slice ⟨none, 0, 0, false⟩)] ty_api_Ans false))) fun r3 =>
 (bd (stA 9 (.ptr (some ((H.push o1).n, 0))) r3.1 r3.2) fun H4 =>
 (bd (ldN 9 (.ptr (some ((H.push o1).n, 0))) H4) fun t5 =>
 (frzR t5 H4))))))
theorem session_Session_Do.r_e (n : Nat) (v0 v1 : V) (H : Heap) : session_Session_Do.r @bdI (callA C n) n v0 v1 H = E C n 20 [] (argsA 0 [v0, v1]) H (kR C 20) := by
  unfold session_Session_Do.r
  kernel_rfl
noncomputable def session_Session_Do.rf (bd : B3) (call : FuncId → List V → Heap → Option R) (n : Nat) (a : List V) (H : Heap) : Option R := (match a with | [v0, v1] => session_Session_Do.r bd call n v0 v1 H | a => E C n 20 [] (argsA 0 a) H (kR C 20))
theorem session_Session_Do.rf_b (n : Nat) (a : List V) (H : Heap) : (match a with | [v0, v1] => session_Session_Do.r @bdI (callA C n) n v0 v1 H | a => E C n 20 [] (argsA 0 a) H (kR C 20)) = E C n 20 [] (argsA 0 a) H (kR C 20) := by
  split
  · exact session_Session_Do.r_e n _ _ H
  · rfl
theorem session_Session_Do.rf_e (n : Nat) (a : List V) (H : Heap) : session_Session_Do.rf @bdI (callA C n) n a H = callA C (n + 1) 20 a H := by
  unfold session_Session_Do.rf
  refine (session_Session_Do.rf_b n a H).trans ?_
  kernel_rfl
noncomputable def session_open.r (bd : B3) (call : FuncId → List V → Heap → Option R) (n : Nat) (v0 v1 : V) (H : Heap) : Option R :=
 (bd (call 30 [v0, v1] H) fun r1 =>
 (bd (extA r1.1 0) fun t12_2 =>
 (bd (extA r1.1 1) fun t13_3 =>
 (bd (arA .neq t13_3 (.int .i64 0)) fun t15_4 =>
 (bd (asB t15_4) fun b5 =>
 if b5 = true then
 (some (.tuple [(.ptr none), t13_3], r1.2))
 else
 (bd (flA [(0, 1)] [(.ptr none)] [(0, t12_2)]) fun t18_6 =>
 (bd (boxA ty_session_Session t18_6) fun o7 =>
 (some (.tuple [(.ptr (some (r1.2.n, 0))), (.int .i64 0)], (r1.2.push o7))))))))))
theorem session_open.r_e (n : Nat) (v0 v1 : V) (H : Heap) : session_open.r @bdI (callA C n) n v0 v1 H = E C n 23 [] (argsA 0 [v0, v1]) H (kR C 23) := by
  unfold session_open.r
  kernel_rfl
noncomputable def session_open.rf (bd : B3) (call : FuncId → List V → Heap → Option R) (n : Nat) (a : List V) (H : Heap) : Option R := (match a with | [v0, v1] => session_open.r bd call n v0 v1 H | a => E C n 23 [] (argsA 0 a) H (kR C 23))
theorem session_open.rf_b (n : Nat) (a : List V) (H : Heap) : (match a with | [v0, v1] => session_open.r @bdI (callA C n) n v0 v1 H | a => E C n 23 [] (argsA 0 a) H (kR C 23)) = E C n 23 [] (argsA 0 a) H (kR C 23) := by
  split
  · exact session_open.r_e n _ _ H
  · rfl
theorem session_open.rf_e (n : Nat) (a : List V) (H : Heap) : session_open.rf @bdI (callA C n) n a H = callA C (n + 1) 23 a H := by
  unfold session_open.rf
  refine (session_open.rf_b n a H).trans ?_
  kernel_rfl
noncomputable def journal_change_back.r (bd : B3) (call : FuncId → List V → Heap → Option R) (n : Nat) (v0 : V) (H : Heap) : Option R :=
 (bd (boxA ty_journal_change v0) fun o1 =>
 (bd (faA 0 (.ptr (some (H.n, 0)))) fun t3_2 =>
 (bd (ld1 t3_2 ((H.push o1).push (.cells [(.int .i64 0), (.int .i64 0), (.int .i64 0), (.int .i64 0), (.int .i64 0), (.bool false), (.bool false)] ty_journal_change false))) fun t4_3 =>
 (bd (faA 3 (.ptr (some (H.n, 0)))) fun t5_4 =>
 (bd (ldN 2 t5_4 ((H.push o1).push (.cells [(.int .i64 0), (.int .i64 0), (.int .i64 0), (.int .i64 0), (.int .i64 0), (.bool false), (.bool false)] ty_journal_change false))) fun t6_5 =>
 (bd (faA 1 (.ptr (some (H.n, 0)))) fun t7_6 =>
 (bd (ldN 2 t7_6 ((H.push o1).push (.cells [(.int .i64 0), (.int .i64 0), (.int .i64 0), (.int .i64 0), (.int .i64 0), (.bool false), (.bool false)] ty_journal_change false))) fun t8_7 =>
 (bd (faA 6 (.ptr (some (H.n, 0)))) fun t9_8 =>
 (bd (ld1 t9_8 ((H.push o1).push (.cells [(.int .i64 0), (.int .i64 0), (.int .i64 0), (.int .i64 0), (.int .i64 0), (.bool false), (.bool false)] ty_journal_change false))) fun t10_9 =>
 (bd (faA 5 (.ptr (some (H.n, 0)))) fun t11_10 =>
 (bd (ld1 t11_10 ((H.push o1).push (.cells [(.int .i64 0), (.int .i64 0), (.int .i64 0), (.int .i64 0), (.int .i64 0), (.bool false), (.bool false)] ty_journal_change false))) fun t12_11 =>
 (bd (flA [(0, 1), (1, 2), (3, 2), (5, 1), (6, 1)] [(.int .i64 0), (.int .i64 0), (.int .i64 0), (.int .i64 0), (.int .i64 0), (.bool false), (.bool false)] [(0, t4_3), (1, t6_5), (2, t8_7), (3, t10_9), (4, t12_11)]) fun t13_12 =>
 (bd (stA 7 (.ptr (some ((H.push o1).n, 0))) t13_12 ((H.push o1).push (.cells [(.int .i64 0), (.int .i64 0), (.int .i64 0), (.int .i64 0), (.int .i64 0), (.bool false), (.bool false)] ty_journal_change false))) fun H13 =>
 (bd (ldN 7 (.ptr (some ((H.push o1).n, 0))) H13) fun t14 =>
 (some (t14, H13))))))))))))))))
theorem journal_change_back.r_e (n : Nat) (v0 : V) (H : Heap) : journal_change_back.r @bdI (callA C n) n v0 H = E C n 24 [] (argsA 0 [v0]) H (kR C 24) := by
  unfold journal_change_back.r
  kernel_rfl
noncomputable def journal_change_back.rf (bd : B3) (call : FuncId → List V → Heap → Option R) (n : Nat) (a : List V) (H : Heap) : Option R := pureA a H fun a => (match a with | [v0] => journal_change_back.r bd call n v0 ⟨0, .nil⟩ | a => E C n 24 [] (argsA 0 a) ⟨0, .nil⟩ (kR C 24))
theorem journal_change_back.rf_b (n : Nat) (a : List V) (H : Heap) : (match a with | [v0] => journal_change_back.r @bdI (callA C n) n v0 H | a => E C n 24 [] (argsA 0 a) H (kR C 24)) = E C n 24 [] (argsA 0 a) H (kR C 24) := by
  split
  · exact journal_change_back.r_e n _ H
  · rfl
theorem journal_change_back.rf_e (n : Nat) (a : List V) (H : Heap) : journal_change_back.rf @bdI (callA C n) n a H = callA C (n + 1) 24 a H := by
  unfold journal_change_back.rf
  refine (congrArg (pureA a H) (funext fun a => journal_change_back.rf_b n a ⟨0, .nil⟩)).trans ?_
  kernel_rfl
@[irreducible] noncomputable def pdt_Engine_Set.l0 (n m0 : Nat) (v0 v18 v19 v20 : V) (H : Heap) : Option R := Lp C n 25 [1, 1, 1, 1, 0, 1, 0, 0] m0 [(0, v0), (18, v18), (19, v19), (20, v20)] H (kB 0 (kC C n 25 [1, 1, 1, 1, 1] (kR C 25)))
noncomputable def pdt_Engine_Set.r_l0 (bd : B3) (call : FuncId → List V → Heap → Option R) (n : Nat) (s0 : V → V → V → V → Heap → Option R) (v0 v18 v19 v20 : V) (H : Heap) : Option R :=
 (bd (arA .lss v20 v19) fun t21_1 =>
 (bd (asB t21_1) fun b2 =>
 if b2 = true then
 (bd (idxS 3 v18 v20) fun t22_3 =>
 (bd (ldN 3 t22_3 H) fun t23_4 =>
 (bd (stA 3 (.ptr (some (H.n, 0))) t23_4 (H.push (.cells [(.int .i64 0), (.int .i64 0), (.int .i64 0)] ty_api_Place false))) fun H5 =>
 (bd (faA 0 (.ptr (some (H.n, 0)))) fun t25_6 =>
 (bd (ld1 t25_6 H5) fun t26_7 =>
 (bd (faA 1 (.ptr (some (H.n, 0)))) fun t27_8 =>
 (bd (ldN 2 t27_8 H5) fun t28_9 =>
 (bd (call 33 [v0, t26_7, t28_9] H5) fun r10 =>
 (bd (arA .add v20 (.int .i64 1)) fun t30_11 =>
 (s0 v0 v18 v19 t30_11 r10.2))))))))))
 else
 (some ((.int .i64 0), H))))
theorem pdt_Engine_Set.r_l0_e (n m0 : Nat) : pdt_Engine_Set.r_l0 @bdI (callA C n) n (pdt_Engine_Set.l0 n m0) = pdt_Engine_Set.l0 n (m0 + 1) := by
  funext v0 v18 v19 v20 H
  unfold pdt_Engine_Set.r_l0
  kernel_rfl
noncomputable def pdt_Engine_Set.r_l0_lp (bd : B3) (call : FuncId → List V → Heap → Option R) (n : Nat) (m : Nat) : V → V → V → V → Heap → Option R := Nat.rec (motive := fun _ => V → V → V → V → Heap → Option R) (fun _ _ _ _ _ => none) (fun _ self => pdt_Engine_Set.r_l0 bd call n self) m
theorem pdt_Engine_Set.r_l0_lp_e (n : Nat) : pdt_Engine_Set.r_l0_lp @bdI (callA C n) n = pdt_Engine_Set.l0 n := by
  funext m
  induction m with
  | zero => funext v0 v18 v19 v20 H; kernel_rfl
  | succ k ih => exact (congrArg (pdt_Engine_Set.r_l0 @bdI (callA C n) n) ih).trans (pdt_Engine_Set.r_l0_e n k)
noncomputable def pdt_Engine_Set.r (bd : B3) (call : FuncId → List V → Heap → Option R) (n : Nat) (v0 v1 : V) (H : Heap) : Option R :=
 (bd (eqlA P ty_p_pdt_Engine v0 (.ptr none)) fun t9_1 =>
 (bd (asB t9_1) fun b2 =>
 if b2 = true then
 (some ((.int .i64 10), H))
 else
 (bd (call 31 [v0, v1] H) fun r3 =>
 (bd (arA .neq r3.1 (.int .i64 0)) fun t14_4 =>
 (bd (asB t14_4) fun b5 =>
 if b5 = true then
 (some (r3.1, r3.2))
 else
 (bd (call 32 [v0] r3.2) fun r6 =>
 (bd (lenSl v1) fun t19_7 =>
 (pdt_Engine_Set.r_l0_lp bd call n n v0 v1 t19_7 (.int .i64 0) r6.2))))))))
theorem pdt_Engine_Set.r_e (n : Nat) (v0 v1 : V) (H : Heap) : pdt_Engine_Set.r @bdI (callA C n) n v0 v1 H = E C n 25 [] (argsA 0 [v0, v1]) H (kR C 25) := by
  unfold pdt_Engine_Set.r
  rewrite [pdt_Engine_Set.r_l0_lp_e]
  kernel_rfl
noncomputable def pdt_Engine_Set.rf (bd : B3) (call : FuncId → List V → Heap → Option R) (n : Nat) (a : List V) (H : Heap) : Option R := inA true a H fun a H => (match a with | [v0, v1] => pdt_Engine_Set.r bd call n v0 v1 H | a => E C n 25 [] (argsA 0 a) H (kR C 25))
theorem pdt_Engine_Set.rf_b (n : Nat) (a : List V) (H : Heap) : (match a with | [v0, v1] => pdt_Engine_Set.r @bdI (callA C n) n v0 v1 H | a => E C n 25 [] (argsA 0 a) H (kR C 25)) = E C n 25 [] (argsA 0 a) H (kR C 25) := by
  split
  · exact pdt_Engine_Set.r_e n _ _ H
  · rfl
theorem pdt_Engine_Set.rf_e (n : Nat) (a : List V) (H : Heap) : pdt_Engine_Set.rf @bdI (callA C n) n a H = callA C (n + 1) 25 a H := by
  unfold pdt_Engine_Set.rf
  refine (congrArg (inA true a H) (funext fun a => funext fun H => pdt_Engine_Set.rf_b n a H)).trans ?_
  kernel_rfl
end Go.AM.L
end
section
set_option linter.unusedVariables false
set_option linter.unusedSimpArgs false
set_option maxRecDepth 1000000
set_option linter.unusedVariables false
namespace Go.AM.L
@[irreducible] noncomputable def journal_apply.l0 (n m0 : Nat) (v1 v5 v14 v15 v16 : V) (H : Heap) : Option R := Lp C n 26 [1, 1, 0, 1, 0, 0] m0 [(1, v1), (5, v5), (14, v14), (15, v15), (16, v16)] H (kB 0 (kC C n 26 [1, 1, 1] (kR C 26)))
@[irreducible] noncomputable def journal_apply.p1 (n : Nat) (v1 v5 : V) (H : Heap) : Option R := E C n 26 [1, 1, 1] [(1, v1), (5, v5)] H (kR C 26)
@[irreducible] noncomputable def journal_apply.l2 (n m0 : Nat) (v5 v26 v27 v28 : V) (H : Heap) : Option R := Lp C n 26 [1, 1, 1, 0, 1, 0, 0] m0 [(5, v5), (26, v26), (27, v27), (28, v28)] H (kB 2 (kC C n 26 [1, 1, 1, 1] (kR C 26)))
@[irreducible] noncomputable def journal_apply.p3 (n : Nat) (v5 : V) (H : Heap) : Option R := E C n 26 [1, 1, 1, 1] [(5, v5)] H (kR C 26)
@[irreducible] noncomputable def journal_apply.l4 (n m0 : Nat) (v10 v44 : V) (H : Heap) : Option R := Lp C n 26 [1, 1, 1, 1, 1, 0, 1, 0, 0] m0 [(10, v10), (44, v44)] H (kB 4 (kC C n 26 [1, 1, 1, 1, 1, 1] (kR C 26)))
@[irreducible] noncomputable def journal_apply.p5 (n : Nat) (v10 : V) (H : Heap) : Option R := E C n 26 [1, 1, 1, 1, 1, 1] [(10, v10)] H (kR C 26)
noncomputable def journal_apply.r_p5 (bd : B3) (call : FuncId → List V → Heap → Option R) (n : Nat) (v10 : V) (H : Heap) : Option R :=
 (bd (call 27 [v10, (.func (.func 34) [] [])] H) fun r1 =>
 (frzR v10 r1.2))
theorem journal_apply.r_p5_e (n : Nat) : journal_apply.r_p5 @bdI (callA C n) n = journal_apply.p5 n := by
  funext v10 H
  unfold journal_apply.r_p5
  kernel_rfl
noncomputable def journal_apply.r_l4 (bd : B3) (call : FuncId → List V → Heap → Option R) (n : Nat) (s0 : V → V → Heap → Option R) (v10 v44 : V) (H : Heap) : Option R :=
 (bd (nextA v44 false H) fun p1 =>
 (bd (extA p1.1 0) fun t46_2 =>
 (bd (asB t46_2) fun b3 =>
 if b3 = true then
 (bd (entryA v44 p1.2) fun t47_4 =>
 (bd (extA t47_4 0) fun t48_5 =>
 (bd (extA t47_4 1) fun t49_6 =>
 (bd (stA 2 (.ptr (some (p1.2.n, 0))) t49_6 (p1.2.push (.cells [(.int .i64 0), (.int .i64 0)] ty_api_Point false))) fun H7 =>
 (bd (ldN 2 (.ptr (some (p1.2.n, 0))) H7) fun t52_8 =>
 (bd (flA [(0, 1), (1, 2)] [(.int .i64 0), (.int .i64 0), (.int .i64 0)] [(0, t48_5), (1, t52_8)]) fun t53_9 =>
 (bd (bSl 3 ty_api_Place [(.int .i64 0), (.int .i64 0), (.int .i64 0)] 1 [(0, t53_9)]) fun o10 =>
 (bd (appA 3 24 ty_api_Place v10 (.slice ⟨some (H7.n, 0), 1, 3, false⟩) (H7.push o10)) fun p11 =>
 (s0 p11.1 v44 p11.2)))))))))
 else
 (journal_apply.r_p5 bd call n v10 p1.2))))
theorem journal_apply.r_l4_e (n m0 : Nat) : journal_apply.r_l4 @bdI (callA C n) n (journal_apply.l4 n m0) = journal_apply.l4 n (m0 + 1) := by
  funext v10 v44 H
  unfold journal_apply.r_l4
  rewrite [journal_apply.r_p5_e]
  kernel_rfl
noncomputable def journal_apply.r_l4_lp (bd : B3) (call : FuncId → List V → Heap → Option R) (n : Nat) (m : Nat) : V → V → Heap → Option R := Nat.rec (motive := fun _ => V → V → Heap → Option R) (fun _ _ _ => none) (fun _ self => journal_apply.r_l4 bd call n self) m
theorem journal_apply.r_l4_lp_e (n : Nat) : journal_apply.r_l4_lp @bdI (callA C n) n = journal_apply.l4 n := by
  funext m
  induction m with
  | zero => funext v10 v44 H; kernel_rfl
  | succ k ih => exact (congrArg (journal_apply.r_l4 @bdI (callA C n) n) ih).trans (journal_apply.r_l4_e n k)
noncomputable def journal_apply.r_p3 (bd : B3) (call : FuncId → List V → Heap → Option R) (n : Nat) (v5 : V) (H : Heap) : Option R :=
 (bd (rgMap v5 H) fun o1 =>
 (journal_apply.r_l4_lp bd call n n (.slice ⟨none, 0, 0, false⟩) (.ptr (some (H.n, 0))) (H.push o1)))
theorem journal_apply.r_p3_e (n : Nat) : journal_apply.r_p3 @bdI (callA C n) n = journal_apply.p3 n := by
  funext v5 H
  unfold journal_apply.r_p3
  rewrite [journal_apply.r_l4_lp_e]
  kernel_rfl
noncomputable def journal_apply.r_l2 (bd : B3) (call : FuncId → List V → Heap → Option R) (n : Nat) (s0 : V → V → V → V → Heap → Option R) (v5 v26 v27 v28 : V) (H : Heap) : Option R :=
 (bd (arA .lss v28 v27) fun t29_1 =>
 (bd (asB t29_1) fun b2 =>
 if b2 = true then
 (bd (idxS 7 v26 v28) fun t30_3 =>
 (bd (ldN 7 t30_3 H) fun t31_4 =>
 (bd (stA 7 (.ptr (some (H.n, 0))) t31_4 (H.push (.cells [(.int .i64 0), (.int .i64 0), (.int .i64 0), (.int .i64 0), (.int .i64 0), (.bool false), (.bool false)] ty_journal_change false))) fun H5 =>
 (bd (faA 0 (.ptr (some (H.n, 0)))) fun t33_6 =>
 (bd (ld1 t33_6 H5) fun t34_7 =>
 (bd (delM P ty_int v5 t34_7 H5) fun H8 =>
 (bd (faA 6 (.ptr (some (H.n, 0)))) fun t35_9 =>
 (bd (ld1 t35_9 H8) fun t36_10 =>
 (bd (asB t36_10) fun b11 =>
 if b11 = true then
 (bd (faA 0 (.ptr (some (H.n, 0)))) fun t38_12 =>
 (bd (ld1 t38_12 H8) fun t39_13 =>
 (bd (faA 3 (.ptr (some (H.n, 0)))) fun t40_14 =>
 (bd (ldN 2 t40_14 H8) fun t41_15 =>
 (bd (updM P ty_int v5 t39_13 t41_15 H8) fun H16 =>
 (bd (arA .add v28 (.int .i64 1)) fun t42_17 =>
 (s0 v5 v26 v27 t42_17 H16)))))))
 else
 (bd (arA .add v28 (.int .i64 1)) fun t42_18 =>
 (s0 v5 v26 v27 t42_18 H8)))))))))))
 else
 (journal_apply.r_p3 bd call n v5 H)))
theorem journal_apply.r_l2_e (n m0 : Nat) : journal_apply.r_l2 @bdI (callA C n) n (journal_apply.l2 n m0) = journal_apply.l2 n (m0 + 1) := by
  funext v5 v26 v27 v28 H
  unfold journal_apply.r_l2
  rewrite [journal_apply.r_p3_e]
  kernel_rfl
noncomputable def journal_apply.r_l2_lp (bd : B3) (call : FuncId → List V → Heap → Option R) (n : Nat) (m : Nat) : V → V → V → V → Heap → Option R := Nat.rec (motive := fun _ => V → V → V → V → Heap → Option R) (fun _ _ _ _ _ => none) (fun _ self => journal_apply.r_l2 bd call n self) m
theorem journal_apply.r_l2_lp_e (n : Nat) : journal_apply.r_l2_lp @bdI (callA C n) n = journal_apply.l2 n := by
  funext m
  induction m with
  | zero => funext v5 v26 v27 v28 H; kernel_rfl
  | succ k ih => exact (congrArg (journal_apply.r_l2 @bdI (callA C n) n) ih).trans (journal_apply.r_l2_e n k)
noncomputable def journal_apply.r_p1 (bd : B3) (call : FuncId → List V → Heap → Option R) (n : Nat) (v1 v5 : V) (H : Heap) : Option R :=
 (bd (lenSl v1) fun t27_1 =>
 (journal_apply.r_l2_lp bd call n n v5 v1 t27_1 (.int .i64 0) H))
theorem journal_apply.r_p1_e (n : Nat) : journal_apply.r_p1 @bdI (callA C n) n = journal_apply.p1 n := by
  funext v1 v5 H
  unfold journal_apply.r_p1
  rewrite [journal_apply.r_l2_lp_e]
  kernel_rfl
noncomputable def journal_apply.r_l0 (bd : B3) (call : FuncId → List V → Heap → Option R) (n : Nat) (s0 : V → V → V → V → V → Heap → Option R) (v1 v5 v14 v15 v16 : V) (H : Heap) : Option R :=
 (bd (arA .lss v16 v15) fun t17_1 =>
 (bd (asB t17_1) fun b2 =>
 if b2 = true then
 (bd (idxS 3 v14 v16) fun t18_3 =>
 (bd (ldN 3 t18_3 H) fun t19_4 =>
 (bd (stA 3 (.ptr (some (H.n, 0))) t19_4 (H.push (.cells [(.int .i64 0), (.int .i64 0), (.int .i64 0)] ty_api_Place false))) fun H5 =>
 (bd (faA 0 (.ptr (some (H.n, 0)))) fun t21_6 =>
 (bd (ld1 t21_6 H5) fun t22_7 =>
 (bd (faA 1 (.ptr (some (H.n, 0)))) fun t23_8 =>
 (bd (ldN 2 t23_8 H5) fun t24_9 =>
 (bd (updM P ty_int v5 t22_7 t24_9 H5) fun H10 =>
 (bd (arA .add v16 (.int .i64 1)) fun t25_11 =>
 (s0 v1 v5 v14 v15 t25_11 H10))))))))))
 else
 (journal_apply.r_p1 bd call n v1 v5 H)))
theorem journal_apply.r_l0_e (n m0 : Nat) : journal_apply.r_l0 @bdI (callA C n) n (journal_apply.l0 n m0) = journal_apply.l0 n (m0 + 1) := by
  funext v1 v5 v14 v15 v16 H
  unfold journal_apply.r_l0
  rewrite [journal_apply.r_p1_e]
  kernel_rfl
noncomputable def journal_apply.r_l0_lp (bd : B3) (call : FuncId → List V → Heap → Option R) (n : Nat) (m : Nat) : V → V → V → V → V → Heap → Option R := Nat.rec (motive := fun _ => V → V → V → V → V → Heap → Option R) (fun _ _ _ _ _ _ => none) (fun _ self => journal_apply.r_l0 bd call n self) m
theorem journal_apply.r_l0_lp_e (n : Nat) : journal_apply.r_l0_lp @bdI (callA C n) n = journal_apply.l0 n := by
  funext m
  induction m with
  | zero => funext v1 v5 v14 v15 v16 H; kernel_rfl
  | succ k ih => exact (congrArg (journal_apply.r_l0 @bdI (callA C n) n) ih).trans (journal_apply.r_l0_e n k)
noncomputable def journal_apply.r (bd : B3) (call : FuncId → List V → Heap → Option R) (n : Nat) (v0 v1 : V) (H : Heap) : Option R :=
 (bd (lenSl v0) fun t15_1 =>
 (journal_apply.r_l0_lp bd call n n v1 (.map (some H.n)) v0 t15_1 (.int .i64 0) (H.push (.map [] 0))))
theorem journal_apply.r_e (n : Nat) (v0 v1 : V) (H : Heap) : journal_apply.r @bdI (callA C n) n v0 v1 H = E C n 26 [] (argsA 0 [v0, v1]) H (kR C 26) := by
  unfold journal_apply.r
  rewrite [journal_apply.r_l0_lp_e]
  kernel_rfl
noncomputable def journal_apply.rf (bd : B3) (call : FuncId → List V → Heap → Option R) (n : Nat) (a : List V) (H : Heap) : Option R := pureA a H fun a => (match a with | [v0, v1] => journal_apply.r bd call n v0 v1 ⟨0, .nil⟩ | a => E C n 26 [] (argsA 0 a) ⟨0, .nil⟩ (kR C 26))
theorem journal_apply.rf_b (n : Nat) (a : List V) (H : Heap) : (match a with | [v0, v1] => journal_apply.r @bdI (callA C n) n v0 v1 H | a => E C n 26 [] (argsA 0 a) H (kR C 26)) = E C n 26 [] (argsA 0 a) H (kR C 26) := by
  split
  · exact journal_apply.r_e n _ _ H
  · rfl
theorem journal_apply.rf_e (n : Nat) (a : List V) (H : Heap) : journal_apply.rf @bdI (callA C n) n a H = callA C (n + 1) 26 a H := by
  unfold journal_apply.rf
  refine (congrArg (pureA a H) (funext fun a => journal_apply.rf_b n a ⟨0, .nil⟩)).trans ?_
  kernel_rfl
noncomputable def slices_SortFunc_api_Place_api_Place.r (bd : B3) (call : FuncId → List V → Heap → Option R) (n : Nat) (v0 v1 : V) (H : Heap) : Option R :=
 (bd (lenSl v0) fun t6_1 =>
 (bd (cvInt .u64 t6_1) fun t10_2 =>
 (bd (call 36 [t10_2] H) fun r3 =>
 (bd (call 35 [v0, (.int .i64 0), t6_1, r3.1, v1] r3.2) fun r4 =>
 (some (.tuple [], r4.2))))))
theorem slices_SortFunc_api_Place_api_Place.r_e (n : Nat) (v0 v1 : V) (H : Heap) : slices_SortFunc_api_Place_api_Place.r @bdI (callA C n) n v0 v1 H = E C n 27 [] (argsA 0 [v0, v1]) H (kR C 27) := by
  unfold slices_SortFunc_api_Place_api_Place.r
  kernel_rfl
noncomputable def slices_SortFunc_api_Place_api_Place.rf (bd : B3) (call : FuncId → List V → Heap → Option R) (n : Nat) (a : List V) (H : Heap) : Option R := (match a with | [v0, v1] => slices_SortFunc_api_Place_api_Place.r bd call n v0 v1 H | a => E C n 27 [] (argsA 0 a) H (kR C 27))
theorem slices_SortFunc_api_Place_api_Place.rf_b (n : Nat) (a : List V) (H : Heap) : (match a with | [v0, v1] => slices_SortFunc_api_Place_api_Place.r @bdI (callA C n) n v0 v1 H | a => E C n 27 [] (argsA 0 a) H (kR C 27)) = E C n 27 [] (argsA 0 a) H (kR C 27) := by
  split
  · exact slices_SortFunc_api_Place_api_Place.r_e n _ _ H
  · rfl
theorem slices_SortFunc_api_Place_api_Place.rf_e (n : Nat) (a : List V) (H : Heap) : slices_SortFunc_api_Place_api_Place.rf @bdI (callA C n) n a H = callA C (n + 1) 27 a H := by
  unfold slices_SortFunc_api_Place_api_Place.rf
  refine (slices_SortFunc_api_Place_api_Place.rf_b n a H).trans ?_
  kernel_rfl
noncomputable def session_Session_do.r (bd : B3) (call : FuncId → List V → Heap → Option R) (n : Nat) (v0 v1 : V) (H : Heap) : Option R :=
 (bd (boxA ty_api_Cmd v1) fun o1 =>
 (bd (eqlA P ty_p_session_Session v0 (.ptr none)) fun t8_2 =>
 (bd (asB t8_2) fun b3 =>
 if b3 = true then
 (bd (flA [(0, 1), (1, 1), (2, 1), (3, 1), (4, 3), (7, 1), (8, 1)] [(.int .i64 0), (.int .i64 0), (.bool false), (.str []), (.bool false), (.int .i64 0), (.int .i64 0), (.slice ⟨none, 0, 0, false⟩), (.slice ⟨none, 0, 0, false⟩)] [(0, (.int .i64 10))]) fun t9_4 =>
 (bd (stA 9 (.ptr (some ((H.push o1).n, 0))) t9_4 ((H.push o1).push (.cells [(.int .i64 0), (.int .i64 0), (.bool false), (.str []), (.bool false), (.int .i64 0), (.int .i64 0), (.slice ⟨none, 0, 0, false⟩), (.slice ⟨none, 0, 0, false⟩)] ty_api_Ans false))) fun H5 =>
 (bd (ldN 9 (.ptr (some ((H.push o1).n, 0))) H5) fun t6 =>
 (frzR t6 H5))))
 else
 (bd (ldN 5 (.ptr (some (H.n, 0))) ((H.push o1).push (.cells [(.int .i64 0), (.int .i64 0), (.bool false), (.str []), (.bool false), (.int .i64 0), (.int .i64 0), (.slice ⟨none, 0, 0, false⟩), (.slice ⟨none, 0, 0, false⟩)] ty_api_Ans false))) fun t10_7 =>
 (bd (call 37 [t10_7] ((H.push o1).push (.cells [(.int .i64 0), (.int .i64 0), (.bool false), (.str []), (.bool false), (.int .i64 0), (.int .i64 0), (.slice ⟨none, 0, 0, false⟩), (.slice ⟨none, 0, 0, false⟩)] ty_api_Ans false))) fun r8 =>
 (bd (neqA P ty_interface r8.1 .nilIface) fun t13_9 =>
 (bd (asB t13_9) fun b10 =>
 if b10 = true then
 (bd (call 38 [v0, r8.1] r8.2) fun r11 =>
 (bd (stA 9 (.ptr (some ((H.push o1).n, 0))) r11.1 r11.2) fun H12 =>
 (bd (ldN 9 (.ptr (some ((H.push o1).n, 0))) H12) fun t13 =>
 (frzR t13 H12))))
 else
 (bd (ldN 5 (.ptr (some (H.n, 0))) r8.2) fun t17_14 =>
 (bd (call 39 [t17_14] r8.2) fun r15 =>
 (bd (neqA P ty_interface r15.1 .nilIface) fun t20_16 =>
 (bd (asB t20_16) fun b17 =>
 if b17 = true then
 (bd (call 40 [v0, r15.1] r15.2) fun r18 =>
 (bd (stA 9 (.ptr (some ((H.push o1).n, 0))) r18.1 r18.2) fun H19 =>
 (bd (ldN 9 (.ptr (some ((H.push o1).n, 0))) H19) fun t20 =>
 (frzR t20 H19))))
 else
 (bd (flA [(0, 1), (1, 1), (2, 1), (3, 1), (4, 3), (7, 1), (8, 1)] [(.int .i64 0), (.int .i64 0), (.bool false), (.str []), (.bool false), (.int .i64 0), (.int .i64 0), (.slice ⟨none, 0, 0, false⟩), (.slice ⟨none, 0, 0, false⟩)] [(0, (.int .i64 1))]) fun t24_21 =>
 (bd (stA 9 (.ptr (some ((H.push o1).n, 0))) t24_21 r15.2) fun H22 =>
 (bd (ldN 9 (.ptr (some ((H.push o1).n, 0))) H22) fun t23 =>
 (frzR t23 H22)))))))))))))))
theorem session_Session_do.r_e (n : Nat) (v0 v1 : V) (H : Heap) : session_Session_do.r @bdI (callA C n) n v0 v1 H = E C n 29 [] (argsA 0 [v0, v1]) H (kR C 29) := by
  unfold session_Session_do.r
  kernel_rfl
noncomputable def session_Session_do.rf (bd : B3) (call : FuncId → List V → Heap → Option R) (n : Nat) (a : List V) (H : Heap) : Option R := (match a with | [v0, v1] => session_Session_do.r bd call n v0 v1 H | a => E C n 29 [] (argsA 0 a) H (kR C 29))
theorem session_Session_do.rf_b (n : Nat) (a : List V) (H : Heap) : (match a with | [v0, v1] => session_Session_do.r @bdI (callA C n) n v0 v1 H | a => E C n 29 [] (argsA 0 a) H (kR C 29)) = E C n 29 [] (argsA 0 a) H (kR C 29) := by
  split
  · exact session_Session_do.r_e n _ _ H
  · rfl
theorem session_Session_do.rf_e (n : Nat) (a : List V) (H : Heap) : session_Session_do.rf @bdI (callA C n) n a H = callA C (n + 1) 29 a H := by
  unfold session_Session_do.rf
  refine (session_Session_do.rf_b n a H).trans ?_
  kernel_rfl
noncomputable def pdt_Open.r (bd : B3) (call : FuncId → List V → Heap → Option R) (n : Nat) (v0 v1 : V) (H : Heap) : Option R :=
 (bd (arA .lss v0 (.int .i64 1)) fun t8_1 =>
 (bd (asB t8_1) fun b2 =>
 if b2 = true then
 (some (.tuple [(.ptr none), (.int .i64 10)], H))
 else
 (bd (arA .gtr v0 (.int .i64 1073741824)) fun t11_3 =>
 (bd (asB t11_3) fun b4 =>
 if b4 = true then
 (some (.tuple [(.ptr none), (.int .i64 10)], H))
 else
 (bd (arA .lss v1 (.int .i64 1)) fun t15_5 =>
 (bd (asB t15_5) fun b6 =>
 if b6 = true then
 (some (.tuple [(.ptr none), (.int .i64 10)], H))
 else
 (bd (arA .gtr v1 (.int .i64 16777216)) fun t19_7 =>
 (bd (asB t19_7) fun b8 =>
 if b8 = true then
 (some (.tuple [(.ptr none), (.int .i64 10)], H))
 else
 (bd (flA [(0, 1), (1, 1), (2, 1), (3, 1), (4, 1), (5, 1), (6, 1)] [(.int .i64 0), (.int .i64 0), (.map none), (.map none), (.int .i64 0), (.int .i64 0), (.ptr none)] [(0, v0), (1, v1), (2, (.map (some H.n))), (3, (.map (some (H.push (.map [] 0)).n)))]) fun t25_9 =>
 (bd (boxA ty_pdt_Engine t25_9) fun o10 =>
 (bd (call 32 [(.ptr (some (((H.push (.map [] 0)).push (.map [] 0)).n, 0)))] (((H.push (.map [] 0)).push (.map [] 0)).push o10)) fun r11 =>
 (some (.tuple [(.ptr (some (((H.push (.map [] 0)).push (.map [] 0)).n, 0))), (.int .i64 0)], r11.2)))))))))))))
theorem pdt_Open.r_e (n : Nat) (v0 v1 : V) (H : Heap) : pdt_Open.r @bdI (callA C n) n v0 v1 H = E C n 30 [] (argsA 0 [v0, v1]) H (kR C 30) := by
  unfold pdt_Open.r
  kernel_rfl
noncomputable def pdt_Open.rf (bd : B3) (call : FuncId → List V → Heap → Option R) (n : Nat) (a : List V) (H : Heap) : Option R := (match a with | [v0, v1] => pdt_Open.r bd call n v0 v1 H | a => E C n 30 [] (argsA 0 a) H (kR C 30))
theorem pdt_Open.rf_b (n : Nat) (a : List V) (H : Heap) : (match a with | [v0, v1] => pdt_Open.r @bdI (callA C n) n v0 v1 H | a => E C n 30 [] (argsA 0 a) H (kR C 30)) = E C n 30 [] (argsA 0 a) H (kR C 30) := by
  split
  · exact pdt_Open.r_e n _ _ H
  · rfl
theorem pdt_Open.rf_e (n : Nat) (a : List V) (H : Heap) : pdt_Open.rf @bdI (callA C n) n a H = callA C (n + 1) 30 a H := by
  unfold pdt_Open.rf
  refine (pdt_Open.rf_b n a H).trans ?_
  kernel_rfl
noncomputable def pdt_Engine_clear.r (bd : B3) (call : FuncId → List V → Heap → Option R) (n : Nat) (v0 : V) (H : Heap) : Option R :=
 (bd (nilC v0) fun t3_1 =>
 (bd (faA 2 t3_1) fun t4_2 =>
 (bd (ld1 t4_2 H) fun t5_3 =>
 (bd (clrM t5_3 H) fun H4 =>
 (bd (nilC v0) fun t7_5 =>
 (bd (faA 3 t7_5) fun t8_6 =>
 (bd (ld1 t8_6 H4) fun t9_7 =>
 (bd (clrM t9_7 H4) fun H8 =>
 (bd (nilC v0) fun t11_9 =>
 (bd (faA 4 t11_9) fun t12_10 =>
 (bd (stA 1 t12_10 (.int .i64 0) H8) fun H11 =>
 (bd (nilC v0) fun t16_12 =>
 (bd (faA 0 t16_12) fun t17_13 =>
 (bd (ld1 t17_13 (H11.more 0)) fun t18_14 =>
 (bd (call 43 [t18_14] (H11.more 0)) fun r15 =>
 (bd (nilC v0) fun t21_16 =>
 (bd (faA 0 t21_16) fun t22_17 =>
 (bd (ld1 t22_17 r15.2) fun t23_18 =>
 (bd (chk (ld1 t22_17 (H11.more 0)) t23_18) fun _ =>
 (bd (call 42 [r15.1, t23_18] r15.2) fun r19 =>
 (bd (nilC v0) fun t25_20 =>
 (bd (faA 5 t25_20) fun t26_21 =>
 (bd (stA 1 t26_21 (.int .i64 0) r19.2) fun H22 =>
 (bd (nilC v0) fun t27_23 =>
 (bd (faA 6 t27_23) fun t28_24 =>
 (bd (stA 1 t28_24 r19.1 H22) fun H25 =>
 (some (.tuple [], H25))))))))))))))))))))))))))))
theorem pdt_Engine_clear.r_e (n : Nat) (v0 : V) (H : Heap) : pdt_Engine_clear.r @bdI (callA C n) n v0 H = E C n 32 [] (argsA 0 [v0]) H (kR C 32) := by
  unfold pdt_Engine_clear.r
  kernel_rfl
noncomputable def pdt_Engine_clear.rf (bd : B3) (call : FuncId → List V → Heap → Option R) (n : Nat) (a : List V) (H : Heap) : Option R := (match a with | [v0] => pdt_Engine_clear.r bd call n v0 H | a => E C n 32 [] (argsA 0 a) H (kR C 32))
theorem pdt_Engine_clear.rf_b (n : Nat) (a : List V) (H : Heap) : (match a with | [v0] => pdt_Engine_clear.r @bdI (callA C n) n v0 H | a => E C n 32 [] (argsA 0 a) H (kR C 32)) = E C n 32 [] (argsA 0 a) H (kR C 32) := by
  split
  · exact pdt_Engine_clear.r_e n _ H
  · rfl
theorem pdt_Engine_clear.rf_e (n : Nat) (a : List V) (H : Heap) : pdt_Engine_clear.rf @bdI (callA C n) n a H = callA C (n + 1) 32 a H := by
  unfold pdt_Engine_clear.rf
  refine (pdt_Engine_clear.rf_b n a H).trans ?_
  kernel_rfl
noncomputable def math_bits_Len.r (bd : B3) (call : FuncId → List V → Heap → Option R) (n : Nat) (v0 : V) (H : Heap) : Option R :=
 (bd (call 57 [v0] H) fun r1 =>
 (some (r1.1, r1.2)))
theorem math_bits_Len.r_e (n : Nat) (v0 : V) (H : Heap) : math_bits_Len.r @bdI (callA C n) n v0 H = E C n 36 [] (argsA 0 [v0]) H (kR C 36) := by
  unfold math_bits_Len.r
  kernel_rfl
noncomputable def math_bits_Len.rf (bd : B3) (call : FuncId → List V → Heap → Option R) (n : Nat) (a : List V) (H : Heap) : Option R := (match a with | [v0] => math_bits_Len.r bd call n v0 H | a => E C n 36 [] (argsA 0 a) H (kR C 36))
theorem math_bits_Len.rf_b (n : Nat) (a : List V) (H : Heap) : (match a with | [v0] => math_bits_Len.r @bdI (callA C n) n v0 H | a => E C n 36 [] (argsA 0 a) H (kR C 36)) = E C n 36 [] (argsA 0 a) H (kR C 36) := by
  split
  · exact math_bits_Len.r_e n _ H
  · rfl
theorem math_bits_Len.rf_e (n : Nat) (a : List V) (H : Heap) : math_bits_Len.rf @bdI (callA C n) n a H = callA C (n + 1) 36 a H := by
  unfold math_bits_Len.rf
  refine (math_bits_Len.rf_b n a H).trans ?_
  kernel_rfl
noncomputable def session_change.r (bd : B3) (call : FuncId → List V → Heap → Option R) (n : Nat) (v0 : V) (H : Heap) : Option R :=
 (bd (boxA ty_api_Cmd v0) fun o1 =>
 (bd (faA 0 (.ptr (some (H.n, 0)))) fun t3_2 =>
 (bd (ld1 t3_2 (H.push o1)) fun t4_3 =>
 (bd (arA .eql t4_3 (.int .i64 1)) fun t6_4 =>
 (bd (asB t6_4) fun b5 =>
 if b5 = true then
 (bd (faA 1 (.ptr (some (H.n, 0)))) fun t7_6 =>
 (bd (ld1 t7_6 (H.push o1)) fun t8_7 =>
 (bd (faA 2 (.ptr (some (H.n, 0)))) fun t9_8 =>
 (bd (ld1 t9_8 (H.push o1)) fun t10_9 =>
 (bd (call 58 [t8_7, t10_9] (H.push o1)) fun r10 =>
 (bd (flA [(0, 2)] [(.int .i64 0), (.int .i64 0)] [(0, r10.1)]) fun t12_11 =>
 (some ((.iface ty_session_insert t12_11), r10.2))))))))
 else
 (bd (arA .eql t4_3 (.int .i64 2)) fun t15_12 =>
 (bd (asB t15_12) fun b13 =>
 if b13 = true then
 (bd (faA 1 (.ptr (some (H.n, 0)))) fun t16_14 =>
 (bd (ld1 t16_14 (H.push o1)) fun t17_15 =>
 (bd (flA [(0, 1)] [(.int .i64 0)] [(0, t17_15)]) fun t18_16 =>
 (some ((.iface ty_session_remove t18_16), (H.push o1))))))
 else
 (bd (arA .eql t4_3 (.int .i64 3)) fun t21_17 =>
 (bd (asB t21_17) fun b18 =>
 if b18 = true then
 (bd (faA 2 (.ptr (some (H.n, 0)))) fun t24_19 =>
 (bd (ld1 t24_19 ((H.push o1).more 0)) fun t25_20 =>
 (bd (faA 3 (.ptr (some (H.n, 0)))) fun t26_21 =>
 (bd (ld1 t26_21 ((H.push o1).more 0)) fun t27_22 =>
 (bd (call 58 [t25_20, t27_22] ((H.push o1).more 0)) fun r23 =>
 (bd (faA 1 (.ptr (some (H.n, 0)))) fun t22_24 =>
 (bd (ld1 t22_24 r23.2) fun t23_25 =>
 (bd (chk (ld1 t22_24 ((H.push o1).more 0)) t23_25) fun _ =>
 (bd (flA [(0, 1), (1, 2)] [(.int .i64 0), (.int .i64 0), (.int .i64 0)] [(0, t23_25), (1, r23.1)]) fun t29_26 =>
 (some ((.iface ty_session_move t29_26), r23.2)))))))))))
 else
 (bd (arA .eql t4_3 (.int .i64 4)) fun t32_27 =>
 (bd (asB t32_27) fun b28 =>
 if b28 = true then
 (bd (flA [] [] []) fun t33_29 =>
 (some ((.iface ty_session_wipe t33_29), (H.push o1))))
 else
 (bd (arA .eql t4_3 (.int .i64 5)) fun t36_30 =>
 (bd (asB t36_30) fun b31 =>
 if b31 = true then
 (bd (flA [] [] []) fun t37_32 =>
 (some ((.iface ty_session_step t37_32), (H.push o1))))
 else
 (bd (arA .eql t4_3 (.int .i64 6)) fun t40_33 =>
 (bd (asB t40_33) fun b34 =>
 if b34 = true then
 (bd (faA 1 (.ptr (some (H.n, 0)))) fun t41_35 =>
 (bd (ld1 t41_35 (H.push o1)) fun t42_36 =>
 (bd (flA [(0, 1)] [(.int .i64 0)] [(0, t42_36)]) fun t43_37 =>
 (some ((.iface ty_session_run t43_37), (H.push o1))))))
 else
 (bd (arA .eql t4_3 (.int .i64 9)) fun t46_38 =>
 (bd (asB t46_38) fun b39 =>
 if b39 = true then
 (bd (faA 4 (.ptr (some (H.n, 0)))) fun t47_40 =>
 (bd (ld1 t47_40 (H.push o1)) fun t48_41 =>
 (bd (flA [(0, 1)] [(.str [])] [(0, t48_41)]) fun t49_42 =>
 (some ((.iface ty_session_replace t49_42), (H.push o1))))))
 else
 (some (.nilIface, (H.push o1))))))))))))))))))))
theorem session_change.r_e (n : Nat) (v0 : V) (H : Heap) : session_change.r @bdI (callA C n) n v0 H = E C n 37 [] (argsA 0 [v0]) H (kR C 37) := by
  unfold session_change.r
  kernel_rfl
noncomputable def session_change.rf (bd : B3) (call : FuncId → List V → Heap → Option R) (n : Nat) (a : List V) (H : Heap) : Option R := (match a with | [v0] => session_change.r bd call n v0 H | a => E C n 37 [] (argsA 0 a) H (kR C 37))
theorem session_change.rf_b (n : Nat) (a : List V) (H : Heap) : (match a with | [v0] => session_change.r @bdI (callA C n) n v0 H | a => E C n 37 [] (argsA 0 a) H (kR C 37)) = E C n 37 [] (argsA 0 a) H (kR C 37) := by
  split
  · exact session_change.r_e n _ H
  · rfl
theorem session_change.rf_e (n : Nat) (a : List V) (H : Heap) : session_change.rf @bdI (callA C n) n a H = callA C (n + 1) 37 a H := by
  unfold session_change.rf
  refine (session_change.rf_b n a H).trans ?_
  kernel_rfl
noncomputable def session_Session_changed.r (bd : B3) (call : FuncId → List V → Heap → Option R) (n : Nat) (v0 v1 : V) (H : Heap) : Option R :=
 (bd (asOk ty_session_insert (.agg [(.int .i64 0), (.int .i64 0)]) v1) fun t26_1 =>
 (bd (extA t26_1 1) fun t27_2 =>
 (bd (extA t26_1 0) fun t28_3 =>
 (bd (asB t27_2) fun b4 =>
 if b4 = true then
 (bd (stA 2 (.ptr (some ((H.push (.cells [(.int .i64 0), (.int .i64 0), (.bool false), (.str []), (.bool false), (.int .i64 0), (.int .i64 0), (.slice ⟨none, 0, 0, false⟩), (.slice ⟨none, 0, 0, false⟩)] ty_api_Ans false)).n, 0))) t28_3 ((H.push (.cells [(.int .i64 0), (.int .i64 0), (.bool false), (.str []), (.bool false), (.int .i64 0), (.int .i64 0), (.slice ⟨none, 0, 0, false⟩), (.slice ⟨none, 0, 0, false⟩)] ty_api_Ans false)).push (.cells [(.int .i64 0), (.int .i64 0)] ty_session_insert false))) fun H5 =>
 (bd (nilC v0) fun t31_6 =>
 (bd (faA 0 t31_6) fun t32_7 =>
 (bd (ld1 t32_7 (H5.more 0)) fun t33_8 =>
 (bd (faA 0 (.ptr (some ((H.push (.cells [(.int .i64 0), (.int .i64 0), (.bool false), (.str []), (.bool false), (.int .i64 0), (.int .i64 0), (.slice ⟨none, 0, 0, false⟩), (.slice ⟨none, 0, 0, false⟩)] ty_api_Ans false)).n, 0)))) fun t34_9 =>
 (bd (ldN 2 t34_9 (H5.more 0)) fun t35_10 =>
 (bd (call 59 [t33_8, t35_10] (H5.more 0)) fun r11 =>
 (bd (extA r11.1 0) fun t37_12 =>
 (bd (faA 1 (.ptr (some (H.n, 0)))) fun t39_13 =>
 (bd (stA 1 t39_13 t37_12 r11.2) fun H14 =>
 (bd (extA r11.1 1) fun t38_15 =>
 (bd (faA 0 (.ptr (some (H.n, 0)))) fun t40_16 =>
 (bd (stA 1 t40_16 t38_15 H14) fun H17 =>
 (bd (faA 1 (.ptr (some (H.n, 0)))) fun t41_18 =>
 (bd (ld1 t41_18 H17) fun t42_19 =>
 (bd (mmA true [t42_19, (.int .i64 0)]) fun t43_20 =>
 (bd (faA 1 (.ptr (some (H.n, 0)))) fun t44_21 =>
 (bd (stA 1 t44_21 t43_20 H17) fun H22 =>
 (bd (ldN 9 (.ptr (some (H.n, 0))) H22) fun t105_23 =>
 (bd (stA 9 (.ptr (some (H.n, 0))) t105_23 H22) fun H24 =>
 (bd (ldN 9 (.ptr (some (H.n, 0))) H24) fun t25 =>
 (frzR t25 H24))))))))))))))))))))))
 else
 (bd (asOk ty_session_remove (.agg [(.int .i64 0)]) v1) fun t45_26 =>
 (bd (extA t45_26 1) fun t46_27 =>
 (bd (extA t45_26 0) fun t47_28 =>
 (bd (asB t46_27) fun b29 =>
 if b29 = true then
 (bd (stA 1 (.ptr (some ((H.push (.cells [(.int .i64 0), (.int .i64 0), (.bool false), (.str []), (.bool false), (.int .i64 0), (.int .i64 0), (.slice ⟨none, 0, 0, false⟩), (.slice ⟨none, 0, 0, false⟩)] ty_api_Ans false)).n, 0))) t47_28 ((H.push (.cells [(.int .i64 0), (.int .i64 0), (.bool false), (.str []), (.bool false), (.int .i64 0), (.int .i64 0), (.slice ⟨none, 0, 0, false⟩), (.slice ⟨none, 0, 0, false⟩)] ty_api_Ans false)).push (.cells [(.int .i64 0)] ty_session_remove false))) fun H30 =>
 (bd (nilC v0) fun t49_31 =>
 (bd (faA 0 t49_31) fun t50_32 =>
 (bd (ld1 t50_32 (H30.more 0)) fun t51_33 =>
 (bd (faA 0 (.ptr (some ((H.push (.cells [(.int .i64 0), (.int .i64 0), (.bool false), (.str []), (.bool false), (.int .i64 0), (.int .i64 0), (.slice ⟨none, 0, 0, false⟩), (.slice ⟨none, 0, 0, false⟩)] ty_api_Ans false)).n, 0)))) fun t52_34 =>
 (bd (ld1 t52_34 (H30.more 0)) fun t53_35 =>
 (bd (call 60 [t51_33, t53_35] (H30.more 0)) fun r36 =>
 (bd (faA 0 (.ptr (some (H.n, 0)))) fun t55_37 =>
 (bd (stA 1 t55_37 r36.1 r36.2) fun H38 =>
 (bd (ldN 9 (.ptr (some (H.n, 0))) H38) fun t105_39 =>
 (bd (stA 9 (.ptr (some (H.n, 0))) t105_39 H38) fun H40 =>
 (bd (ldN 9 (.ptr (some (H.n, 0))) H40) fun t41 =>
 (frzR t41 H40)))))))))))))
 else
 (bd (asOk ty_session_move (.agg [(.int .i64 0), (.int .i64 0), (.int .i64 0)]) v1) fun t56_42 =>
 (bd (extA t56_42 1) fun t57_43 =>
 (bd (extA t56_42 0) fun t58_44 =>
 (bd (asB t57_43) fun b45 =>
 if b45 = true then
 (bd (stA 3 (.ptr (some ((H.push (.cells [(.int .i64 0), (.int .i64 0), (.bool false), (.str []), (.bool false), (.int .i64 0), (.int .i64 0), (.slice ⟨none, 0, 0, false⟩), (.slice ⟨none, 0, 0, false⟩)] ty_api_Ans false)).n, 0))) t58_44 ((H.push (.cells [(.int .i64 0), (.int .i64 0), (.bool false), (.str []), (.bool false), (.int .i64 0), (.int .i64 0), (.slice ⟨none, 0, 0, false⟩), (.slice ⟨none, 0, 0, false⟩)] ty_api_Ans false)).push (.cells [(.int .i64 0), (.int .i64 0), (.int .i64 0)] ty_session_move false))) fun H46 =>
 (bd (nilC v0) fun t60_47 =>
 (bd (faA 0 t60_47) fun t61_48 =>
 (bd (ld1 t61_48 (H46.more 0)) fun t62_49 =>
 (bd (faA 0 (.ptr (some ((H.push (.cells [(.int .i64 0), (.int .i64 0), (.bool false), (.str []), (.bool false), (.int .i64 0), (.int .i64 0), (.slice ⟨none, 0, 0, false⟩), (.slice ⟨none, 0, 0, false⟩)] ty_api_Ans false)).n, 0)))) fun t63_50 =>
 (bd (ld1 t63_50 (H46.more 0)) fun t64_51 =>
 (bd (faA 1 (.ptr (some ((H.push (.cells [(.int .i64 0), (.int .i64 0), (.bool false), (.str []), (.bool false), (.int .i64 0), (.int .i64 0), (.slice ⟨none, 0, 0, false⟩), (.slice ⟨none, 0, 0, false⟩)] ty_api_Ans false)).n, 0)))) fun t65_52 =>
 (bd (ldN 2 t65_52 (H46.more 0)) fun t66_53 =>
 (bd (call 61 [t62_49, t64_51, t66_53] (H46.more 0)) fun r54 =>
 (bd (faA 0 (.ptr (some (H.n, 0)))) fun t68_55 =>
 (bd (stA 1 t68_55 r54.1 r54.2) fun H56 =>
 (bd (ldN 9 (.ptr (some (H.n, 0))) H56) fun t105_57 =>
 (bd (stA 9 (.ptr (some (H.n, 0))) t105_57 H56) fun H58 =>
 (bd (ldN 9 (.ptr (some (H.n, 0))) H58) fun t59 =>
 (frzR t59 H58)))))))))))))))
 else
 (bd (asOk ty_session_wipe (.agg []) v1) fun t69_60 =>
 (bd (extA t69_60 1) fun t70_61 =>
 (bd (extA t69_60 0) fun t71_62 =>
 (bd (asB t70_61) fun b63 =>
 if b63 = true then
 (bd (stA 0 (.ptr (some ((H.push (.cells [(.int .i64 0), (.int .i64 0), (.bool false), (.str []), (.bool false), (.int .i64 0), (.int .i64 0), (.slice ⟨none, 0, 0, false⟩), (.slice ⟨none, 0, 0, false⟩)] ty_api_Ans false)).n, 0))) t71_62 ((H.push (.cells [(.int .i64 0), (.int .i64 0), (.bool false), (.str []), (.bool false), (.int .i64 0), (.int .i64 0), (.slice ⟨none, 0, 0, false⟩), (.slice ⟨none, 0, 0, false⟩)] ty_api_Ans false)).push (.cells [] ty_session_wipe false))) fun H64 =>
 (bd (nilC v0) fun t73_65 =>
 (bd (faA 0 t73_65) fun t74_66 =>
 (bd (ld1 t74_66 H64) fun t75_67 =>
 (bd (call 62 [t75_67] H64) fun r68 =>
 (bd (ldN 9 (.ptr (some (H.n, 0))) r68.2) fun t105_69 =>
 (bd (stA 9 (.ptr (some (H.n, 0))) t105_69 r68.2) fun H70 =>
 (bd (ldN 9 (.ptr (some (H.n, 0))) H70) fun t71 =>
 (frzR t71 H70)))))))))
 else
 (bd (asOk ty_session_step (.agg []) v1) fun t77_72 =>
 (bd (extA t77_72 1) fun t78_73 =>
 (bd (extA t77_72 0) fun t79_74 =>
 (bd (asB t78_73) fun b75 =>
 if b75 = true then
 (bd (stA 0 (.ptr (some ((H.push (.cells [(.int .i64 0), (.int .i64 0), (.bool false), (.str []), (.bool false), (.int .i64 0), (.int .i64 0), (.slice ⟨none, 0, 0, false⟩), (.slice ⟨none, 0, 0, false⟩)] ty_api_Ans false)).n, 0))) t79_74 ((H.push (.cells [(.int .i64 0), (.int .i64 0), (.bool false), (.str []), (.bool false), (.int .i64 0), (.int .i64 0), (.slice ⟨none, 0, 0, false⟩), (.slice ⟨none, 0, 0, false⟩)] ty_api_Ans false)).push (.cells [] ty_session_step false))) fun H76 =>
 (bd (nilC v0) fun t82_77 =>
 (bd (faA 0 t82_77) fun t83_78 =>
 (bd (ld1 t83_78 H76) fun t84_79 =>
 (bd (call 63 [t84_79] H76) fun r80 =>
 (bd (extA r80.1 0) fun t86_81 =>
 (bd (extA r80.1 1) fun t87_82 =>
 (bd (faA 1 (.ptr (some (H.n, 0)))) fun t88_83 =>
 (bd (stA 1 t88_83 t86_81 r80.2) fun H84 =>
 (bd (faA 2 (.ptr (some (H.n, 0)))) fun t89_85 =>
 (bd (stA 1 t89_85 t87_82 H84) fun H86 =>
 (bd (ldN 9 (.ptr (some (H.n, 0))) H86) fun t105_87 =>
 (bd (stA 9 (.ptr (some (H.n, 0))) t105_87 H86) fun H88 =>
 (bd (ldN 9 (.ptr (some (H.n, 0))) H88) fun t89 =>
 (frzR t89 H88)))))))))))))))
 else
 (bd (asOk ty_session_run (.agg [(.int .i64 0)]) v1) fun t90_90 =>
 (bd (extA t90_90 1) fun t91_91 =>
 (bd (extA t90_90 0) fun t92_92 =>
 (bd (asB t91_91) fun b93 =>
 if b93 = true then
 (bd (stA 1 (.ptr (some ((H.push (.cells [(.int .i64 0), (.int .i64 0), (.bool false), (.str []), (.bool false), (.int .i64 0), (.int .i64 0), (.slice ⟨none, 0, 0, false⟩), (.slice ⟨none, 0, 0, false⟩)] ty_api_Ans false)).n, 0))) t92_92 ((H.push (.cells [(.int .i64 0), (.int .i64 0), (.bool false), (.str []), (.bool false), (.int .i64 0), (.int .i64 0), (.slice ⟨none, 0, 0, false⟩), (.slice ⟨none, 0, 0, false⟩)] ty_api_Ans false)).push (.cells [(.int .i64 0)] ty_session_run false))) fun H94 =>
 (bd (nilC v0) fun t95_95 =>
 (bd (faA 0 t95_95) fun t96_96 =>
 (bd (ld1 t96_96 (H94.more 0)) fun t97_97 =>
 (bd (faA 0 (.ptr (some ((H.push (.cells [(.int .i64 0), (.int .i64 0), (.bool false), (.str []), (.bool false), (.int .i64 0), (.int .i64 0), (.slice ⟨none, 0, 0, false⟩), (.slice ⟨none, 0, 0, false⟩)] ty_api_Ans false)).n, 0)))) fun t98_98 =>
 (bd (ld1 t98_98 (H94.more 0)) fun t99_99 =>
 (bd (call 64 [t97_97, t99_99] (H94.more 0)) fun r100 =>
 (bd (extA r100.1 0) fun t101_101 =>
 (bd (faA 4 (.ptr (some (H.n, 0)))) fun t103_102 =>
 (bd (stA 3 t103_102 t101_101 r100.2) fun H103 =>
 (bd (extA r100.1 1) fun t102_104 =>
 (bd (faA 0 (.ptr (some (H.n, 0)))) fun t104_105 =>
 (bd (stA 1 t104_105 t102_104 H103) fun H106 =>
 (bd (ldN 9 (.ptr (some (H.n, 0))) H106) fun t105_107 =>
 (bd (stA 9 (.ptr (some (H.n, 0))) t105_107 H106) fun H108 =>
 (bd (ldN 9 (.ptr (some (H.n, 0))) H108) fun t109 =>
 (frzR t109 H108)))))))))))))))))
 else
 (bd (nilC v0) fun t15_110 =>
 (bd (faA 0 t15_110) fun t16_111 =>
 (bd (ld1 t16_111 ((H.push (.cells [(.int .i64 0), (.int .i64 0), (.bool false), (.str []), (.bool false), (.int .i64 0), (.int .i64 0), (.slice ⟨none, 0, 0, false⟩), (.slice ⟨none, 0, 0, false⟩)] ty_api_Ans false)).more 0)) fun t17_112 =>
 (bd (asIs ty_session_replace v1) fun t19_113 =>
 (bd (fd1 0 t19_113) fun t20_114 =>
 (bd (call 65 [t17_112, t20_114] ((H.push (.cells [(.int .i64 0), (.int .i64 0), (.bool false), (.str []), (.bool false), (.int .i64 0), (.int .i64 0), (.slice ⟨none, 0, 0, false⟩), (.slice ⟨none, 0, 0, false⟩)] ty_api_Ans false)).more 0)) fun r115 =>
 (bd (extA r115.1 0) fun t22_116 =>
 (bd (faA 1 (.ptr (some (H.n, 0)))) fun t24_117 =>
 (bd (stA 1 t24_117 t22_116 r115.2) fun H118 =>
 (bd (extA r115.1 1) fun t23_119 =>
 (bd (faA 0 (.ptr (some (H.n, 0)))) fun t25_120 =>
 (bd (stA 1 t25_120 t23_119 H118) fun H121 =>
 (bd (ldN 9 (.ptr (some (H.n, 0))) H121) fun t105_122 =>
 (bd (stA 9 (.ptr (some (H.n, 0))) t105_122 H121) fun H123 =>
 (bd (ldN 9 (.ptr (some (H.n, 0))) H123) fun t124 =>
 (frzR t124 H123))))))))))))))))))))))))))))))))))))))))
theorem session_Session_changed.r_e (n : Nat) (v0 v1 : V) (H : Heap) : session_Session_changed.r @bdI (callA C n) n v0 v1 H = E C n 38 [] (argsA 0 [v0, v1]) H (kR C 38) := by
  unfold session_Session_changed.r
  kernel_rfl
noncomputable def session_Session_changed.rf (bd : B3) (call : FuncId → List V → Heap → Option R) (n : Nat) (a : List V) (H : Heap) : Option R := (match a with | [v0, v1] => session_Session_changed.r bd call n v0 v1 H | a => E C n 38 [] (argsA 0 a) H (kR C 38))
theorem session_Session_changed.rf_b (n : Nat) (a : List V) (H : Heap) : (match a with | [v0, v1] => session_Session_changed.r @bdI (callA C n) n v0 v1 H | a => E C n 38 [] (argsA 0 a) H (kR C 38)) = E C n 38 [] (argsA 0 a) H (kR C 38) := by
  split
  · exact session_Session_changed.r_e n _ _ H
  · rfl
theorem session_Session_changed.rf_e (n : Nat) (a : List V) (H : Heap) : session_Session_changed.rf @bdI (callA C n) n a H = callA C (n + 1) 38 a H := by
  unfold session_Session_changed.rf
  refine (session_Session_changed.rf_b n a H).trans ?_
  kernel_rfl
noncomputable def pdt_Engine_site.r (bd : B3) (call : FuncId → List V → Heap → Option R) (n : Nat) (v0 v1 : V) (H : Heap) : Option R :=
 (bd (boxA ty_api_Point v1) fun o1 =>
 (bd (faA 0 (.ptr (some (H.n, 0)))) fun t5_2 =>
 (bd (ld1 t5_2 ((H.push o1).more 0)) fun t6_3 =>
 (bd (arA .geq t6_3 (.int .i64 0)) fun t7_4 =>
 (bd (asB t7_4) fun b5 =>
 if b5 = true then
 (bd (faA 0 (.ptr (some (H.n, 0)))) fun t9_6 =>
 (bd (ld1 t9_6 ((H.push o1).more 0)) fun t10_7 =>
 (bd (nilC v0) fun t12_8 =>
 (bd (faA 0 t12_8) fun t13_9 =>
 (bd (ld1 t13_9 ((H.push o1).more 0)) fun t14_10 =>
 (bd (arA .lss t10_7 t14_10) fun t15_11 =>
 (bd (asB t15_11) fun b12 =>
 if b12 = true then
 (bd (faA 1 (.ptr (some (H.n, 0)))) fun t18_13 =>
 (bd (ld1 t18_13 ((H.push o1).more 0)) fun t19_14 =>
 (bd (arA .geq t19_14 (.int .i64 0)) fun t20_15 =>
 (bd (asB t20_15) fun b16 =>
 if b16 = true then
 (bd (faA 1 (.ptr (some (H.n, 0)))) fun t23_17 =>
 (bd (ld1 t23_17 ((H.push o1).more 0)) fun t24_18 =>
 (bd (nilC v0) fun t26_19 =>
 (bd (faA 0 t26_19) fun t27_20 =>
 (bd (ld1 t27_20 ((H.push o1).more 0)) fun t28_21 =>
 (bd (arA .lss t24_18 t28_21) fun t29_22 =>
 (some (t29_22, ((H.push o1).more 0)))))))))
 else
 (some ((.bool false), ((H.push o1).more 0)))))))
 else
 (some ((.bool false), ((H.push o1).more 0))))))))))
 else
 (some ((.bool false), ((H.push o1).more 0))))))))
theorem pdt_Engine_site.r_e (n : Nat) (v0 v1 : V) (H : Heap) : pdt_Engine_site.r @bdI (callA C n) n v0 v1 H = E C n 41 [] (argsA 0 [v0, v1]) H (kR C 41) := by
  unfold pdt_Engine_site.r
  kernel_rfl
noncomputable def pdt_Engine_site.rf (bd : B3) (call : FuncId → List V → Heap → Option R) (n : Nat) (a : List V) (H : Heap) : Option R := (match a with | [v0, v1] => pdt_Engine_site.r bd call n v0 v1 H | a => E C n 41 [] (argsA 0 a) H (kR C 41))
theorem pdt_Engine_site.rf_b (n : Nat) (a : List V) (H : Heap) : (match a with | [v0, v1] => pdt_Engine_site.r @bdI (callA C n) n v0 v1 H | a => E C n 41 [] (argsA 0 a) H (kR C 41)) = E C n 41 [] (argsA 0 a) H (kR C 41) := by
  split
  · exact pdt_Engine_site.r_e n _ _ H
  · rfl
theorem pdt_Engine_site.rf_e (n : Nat) (a : List V) (H : Heap) : pdt_Engine_site.rf @bdI (callA C n) n a H = callA C (n + 1) 41 a H := by
  unfold pdt_Engine_site.rf
  refine (pdt_Engine_site.rf_b n a H).trans ?_
  kernel_rfl
end Go.AM.L
end
