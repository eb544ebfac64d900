/- Merged by program (mkclaim.py) from: SqI SqJ SrA SrB SrH SrN AmVal AmVal2. -/
import Derived.Laws.Cells
import Derived.Laws.Append
import Derived.Laws.Strings
import Derived.Laws.StructEq
import Derived.ChangeKeysEq
import Derived.Test.YtmpkhfnegnlpmaaX3

section
set_option linter.unusedVariables false
set_option linter.unusedSimpArgs false
/- What the document's functions of layer 5 give: Of, Long, Mul, Add, Low, Floor, Round. -/
set_option linter.unusedSimpArgs false
set_option linter.unusedVariables false
namespace Go.AM
attribute [local congr] bnd_weak ite_weak

/-- A fraction of the document's: a whole number over one above nought. -/
def isK (H : Heap) (P : Nat → Prop) (v : V) (n : Int) (d : Nat) : Prop :=
  ∃ σ s τ t, v = .agg [.int .i64 σ, .slice s, .int .i64 τ, .slice t] ∧ isJ H P (.agg [.int .i64 σ, .slice s]) n ∧ isJ H P (.agg [.int .i64 τ, .slice t]) (d : Int) ∧ 0 < d
theorem isK.keep {H H' : Heap} {P : Nat → Prop} {v : V} {n : Int} {d : Nat} (h : isK H P v n d) (c : KeepP P H H') : isK H' P v n d := by
  obtain ⟨σ, s, τ, t, rfl, h1, h2, h3⟩ := h; exact ⟨σ, s, τ, t, rfl, h1.keep c, h2.keep c, h3⟩
theorem isK.mono {H : Heap} {P P' : Nat → Prop} {v : V} {n : Int} {d : Nat} (h : isK H P v n d) (c : ∀ i, i < H.n → P i → P' i) : isK H P' v n d := by
  obtain ⟨σ, s, τ, t, rfl, h1, h2, h3⟩ := h; exact ⟨σ, s, τ, t, rfl, h1.mono c, h2.mono c, h3⟩

theorem r5_long {H : Heap} {P : Nat → Prop} {z : Int} (hP : UpP H P) (hz : -9223372036854775808 ≤ z ∧ z ≤ 9223372036854775807) :
    Tot (fun n => f_ref05_Long n [.int .i64 z] H) fun v H' => Ext0 H H' ∧ isK H' P v z 1 := by
  refine Tot.of fun Q hQ => ?_
  refine ref05_Long_tot ?_
  simp only [ref05_Long_b]
  have hq : ∀ (G : Heap), H.n + 1 ≤ G.n → UpP G (fun i => P i ∧ i ≠ H.n) := fun G hG i hi => ⟨hP i (by omega), by omega⟩
  refine Tot.bind (r4_long (hq _ (by simp)) hz) ?_
  rintro v H1 ⟨c1, i1⟩
  have n1 := c1.n; try simp only [hn_push, hn_set, hn_more] at n1
  obtain ⟨b1, s1, rfl, -⟩ := i1.shape
  dsimp only
  refine Tot.bind (r4_long (z := 1) (hq _ (by omega)) (by omega)) ?_
  rintro v H2 ⟨c2, i2⟩
  have n2 := c2.n; try simp only [hn_push, hn_set, hn_more] at n2
  obtain ⟨b2, s2, rfl, -⟩ := i2.shape
  dsimp only
  repeat (first | refine Tot.pure (by simp (disch := first | omega | (simp only [hn_push, hn_set, hn_more] <;> omega) | fail) [ld1_get, ldN_get, stA_get, boxA, gz, gs, Heap.get_push_ne, Heap.get_push_eq, Heap.get_set_ne, Heap.get_set_eq, get_more, hn_push, hn_set, hn_more, c1.g, c2.g]; try exact rfl) ?_ | refine Tot.chk (by simp (disch := first | omega | (simp only [hn_push, hn_set, hn_more] <;> omega) | fail) [ld1_get, ldN_get, stA_get, boxA, gz, gs, Heap.get_push_ne, Heap.get_push_eq, Heap.get_set_ne, Heap.get_set_eq, get_more, hn_push, hn_set, hn_more, c1.g, c2.g]; done) ?_ | fail)
  refine Tot.ret (hQ _ _ ⟨Keep.ext (by (repeat (first | exact Keep.refl | refine Keep.call ?_ (by assumption) | refine Keep.push ?_ | refine Keep.more ?_ | refine Keep.set ?_ (by first | omega | (simp only [hn_push, hn_set, hn_more] <;> omega) | fail)))), b1, s1, b2, s2, rfl, (i1.keep (by (repeat (first | exact KeepP.refl | refine KeepP.call ?_ (by assumption) | refine KeepP.push ?_ | refine KeepP.more ?_ | refine KeepP.set ?_ (by first | (right; first | omega | (simp only [hn_push, hn_set, hn_more] <;> omega) | fail) | (left; simp; done) | fail))))).mono fun i _ hi => hi.1, (i2.keep (by (repeat (first | exact KeepP.refl | refine KeepP.call ?_ (by assumption) | refine KeepP.push ?_ | refine KeepP.more ?_ | refine KeepP.set ?_ (by first | (right; first | omega | (simp only [hn_push, hn_set, hn_more] <;> omega) | fail) | (left; simp; done) | fail))))).mono fun i _ hi => hi.1, by decide⟩)

theorem r5_of {H : Heap} {P : Nat → Prop} {v : V} {n : Int} {d N : Nat} (hP : UpP H P) (h : rawR H v n d N) (hm : N < 400000000) :
    Tot (fun n => f_ref05_Of n [v] H) fun v H' => Ext0 H H' ∧ isK H' P v (if d = 0 then 0 else n) (if d = 0 then 1 else d) := by
  obtain ⟨b, s, t, l, lt, rfl, r1, r2, hL, hL', hl, hl', rfl, rfl⟩ := h
  refine Tot.of fun Q hQ => ?_
  refine ref05_Of_tot ?_
  simp only [ref05_Of_b]
  have hq : ∀ (G : Heap), H.n + 2 ≤ G.n → UpP G (fun i => P i ∧ i ≠ H.n + 1) := fun G hG i hi => ⟨hP i (by omega), by omega⟩
  repeat (first | refine Tot.pure (by simp (disch := first | omega | (simp only [hn_push, hn_set, hn_more] <;> omega) | fail) [ld1_get, ldN_get, stA_get, boxA, gz, gs, Heap.get_push_ne, Heap.get_push_eq, Heap.get_set_ne, Heap.get_set_eq, get_more, hn_push, hn_set, hn_more, ]; try exact rfl) ?_ | refine Tot.chk (by simp (disch := first | omega | (simp only [hn_push, hn_set, hn_more] <;> omega) | fail) [ld1_get, ldN_get, stA_get, boxA, gz, gs, Heap.get_push_ne, Heap.get_push_eq, Heap.get_set_ne, Heap.get_set_eq, get_more, hn_push, hn_set, hn_more, ]; done) ?_ | fail)
  refine Tot.bind (r_of (r2.keep Fr.zero (by (repeat (first | exact Keep.refl | refine Keep.call ?_ (by assumption) | refine Keep.push ?_ | refine Keep.more ?_ | refine Keep.set ?_ (by first | omega | (simp only [hn_push, hn_set, hn_more] <;> omega) | fail))))) (by omega) hL') ?_
  rintro v H1 ⟨c1, s1, rfl, q1, f1⟩
  have n1 := c1.n; try simp only [hn_push, hn_set, hn_more] at n1
  dsimp only
  repeat (first | refine Tot.pure (by simp (disch := first | omega | (simp only [hn_push, hn_set, hn_more] <;> omega) | fail) [ld1_get, ldN_get, stA_get, boxA, gz, gs, Heap.get_push_ne, Heap.get_push_eq, Heap.get_set_ne, Heap.get_set_eq, get_more, hn_push, hn_set, hn_more, c1.g, q1.lenSl]; try exact rfl) ?_ | refine Tot.chk (by simp (disch := first | omega | (simp only [hn_push, hn_set, hn_more] <;> omega) | fail) [ld1_get, ldN_get, stA_get, boxA, gz, gs, Heap.get_push_ne, Heap.get_push_eq, Heap.get_set_ne, Heap.get_set_eq, get_more, hn_push, hn_set, hn_more, c1.g, q1.lenSl]; done) ?_ | fail)
  refine Tot.ite (fun h2 => ?_) (fun h2 => ?_)
  · have hx : val 4294967296 lt = 0 := by
      rw [← dig_eq_nil (b := 65536) (by decide)]
      exact List.eq_nil_of_length_eq_zero (by simpa using h2)
    rw [if_pos hx, if_pos hx] at hQ
    repeat (first | refine Tot.pure (by simp (disch := first | omega | (simp only [hn_push, hn_set, hn_more] <;> omega) | fail) [ld1_get, ldN_get, stA_get, boxA, gz, gs, Heap.get_push_ne, Heap.get_push_eq, Heap.get_set_ne, Heap.get_set_eq, get_more, hn_push, hn_set, hn_more, c1.g]; try exact rfl) ?_ | refine Tot.chk (by simp (disch := first | omega | (simp only [hn_push, hn_set, hn_more] <;> omega) | fail) [ld1_get, ldN_get, stA_get, boxA, gz, gs, Heap.get_push_ne, Heap.get_push_eq, Heap.get_set_ne, Heap.get_set_eq, get_more, hn_push, hn_set, hn_more, c1.g]; done) ?_ | fail)
    refine Tot.bind (r4_long (z := 1) (hq _ (by omega)) (by omega)) ?_
    rintro v H2 ⟨c2, i2⟩
    have n2 := c2.n; try simp only [hn_push, hn_set, hn_more] at n2
    obtain ⟨b2, s2, rfl, -⟩ := i2.shape
    dsimp only
    repeat (first | refine Tot.pure (by simp (disch := first | omega | (simp only [hn_push, hn_set, hn_more] <;> omega) | fail) [ld1_get, ldN_get, stA_get, boxA, gz, gs, Heap.get_push_ne, Heap.get_push_eq, Heap.get_set_ne, Heap.get_set_eq, get_more, hn_push, hn_set, hn_more, c1.g, c2.g]; try exact rfl) ?_ | refine Tot.chk (by simp (disch := first | omega | (simp only [hn_push, hn_set, hn_more] <;> omega) | fail) [ld1_get, ldN_get, stA_get, boxA, gz, gs, Heap.get_push_ne, Heap.get_push_eq, Heap.get_set_ne, Heap.get_set_eq, get_more, hn_push, hn_set, hn_more, c1.g, c2.g]; done) ?_ | fail)
    refine Tot.ret (hQ _ _ ⟨Keep.ext (by (repeat (first | exact Keep.refl | refine Keep.call ?_ (by assumption) | refine Keep.push ?_ | refine Keep.more ?_ | refine Keep.set ?_ (by first | omega | (simp only [hn_push, hn_set, hn_more] <;> omega) | fail)))), _, _, b2, s2, rfl, isJ.zero, (i2.keep (by (repeat (first | exact KeepP.refl | refine KeepP.call ?_ (by assumption) | refine KeepP.push ?_ | refine KeepP.more ?_ | refine KeepP.set ?_ (by first | (right; first | omega | (simp only [hn_push, hn_set, hn_more] <;> omega) | fail) | (left; simp; done) | fail))))).mono fun i _ hi => hi.1, by decide⟩)
  · have hx : val 4294967296 lt ≠ 0 := by
      intro e; apply h2; rw [e, dig_zero]; simp
    rw [if_neg hx, if_neg hx] at hQ
    repeat (first | refine Tot.pure (by simp (disch := first | omega | (simp only [hn_push, hn_set, hn_more] <;> omega) | fail) [ld1_get, ldN_get, stA_get, boxA, gz, gs, Heap.get_push_ne, Heap.get_push_eq, Heap.get_set_ne, Heap.get_set_eq, get_more, hn_push, hn_set, hn_more, c1.g]; try exact rfl) ?_ | refine Tot.chk (by simp (disch := first | omega | (simp only [hn_push, hn_set, hn_more] <;> omega) | fail) [ld1_get, ldN_get, stA_get, boxA, gz, gs, Heap.get_push_ne, Heap.get_push_eq, Heap.get_set_ne, Heap.get_set_eq, get_more, hn_push, hn_set, hn_more, c1.g]; done) ?_ | fail)
    refine Tot.bind (r4_of (hq _ (by omega)) (r1.keep Fr.zero (by (repeat (first | exact Keep.refl | refine Keep.call ?_ (by assumption) | refine Keep.push ?_ | refine Keep.more ?_ | refine Keep.set ?_ (by first | omega | (simp only [hn_push, hn_set, hn_more] <;> omega) | fail))))) (by omega) hL) ?_
    rintro v H2 ⟨c2, i2⟩
    have n2 := c2.n; try simp only [hn_push, hn_set, hn_more] at n2
    obtain ⟨b2, s2, rfl, -⟩ := i2.shape
    have j1 : isJ H1 (fun i => P i ∧ i ≠ H.n + 1) (.agg [.int .i64 1, .slice s1]) ((val 4294967296 lt : Nat) : Int) :=
      ⟨s1, by rw [Int.sign_eq_one_of_pos (by omega)], by rw [Int.natAbs_natCast]; exact q1, fun i hi => ⟨hP i (by have := f1 i hi; simp at this; omega), by have := f1 i hi; simp at this; omega⟩⟩
    dsimp only
    repeat (first | refine Tot.pure (by simp (disch := first | omega | (simp only [hn_push, hn_set, hn_more] <;> omega) | fail) [ld1_get, ldN_get, stA_get, boxA, gz, gs, Heap.get_push_ne, Heap.get_push_eq, Heap.get_set_ne, Heap.get_set_eq, get_more, hn_push, hn_set, hn_more, c1.g, c2.g]; try exact rfl) ?_ | refine Tot.chk (by simp (disch := first | omega | (simp only [hn_push, hn_set, hn_more] <;> omega) | fail) [ld1_get, ldN_get, stA_get, boxA, gz, gs, Heap.get_push_ne, Heap.get_push_eq, Heap.get_set_ne, Heap.get_set_eq, get_more, hn_push, hn_set, hn_more, c1.g, c2.g]; done) ?_ | fail)
    refine Tot.ret (hQ _ _ ⟨Keep.ext (by (repeat (first | exact Keep.refl | refine Keep.call ?_ (by assumption) | refine Keep.push ?_ | refine Keep.more ?_ | refine Keep.set ?_ (by first | omega | (simp only [hn_push, hn_set, hn_more] <;> omega) | fail)))), b2, s2, 1, s1, rfl, (i2.keep (by (repeat (first | exact KeepP.refl | refine KeepP.call ?_ (by assumption) | refine KeepP.push ?_ | refine KeepP.more ?_ | refine KeepP.set ?_ (by first | (right; first | omega | (simp only [hn_push, hn_set, hn_more] <;> omega) | fail) | (left; simp; done) | fail))))).mono fun i _ hi => hi.1, (j1.keep (by (repeat (first | exact KeepP.refl | refine KeepP.call ?_ (by assumption) | refine KeepP.push ?_ | refine KeepP.more ?_ | refine KeepP.set ?_ (by first | (right; first | omega | (simp only [hn_push, hn_set, hn_more] <;> omega) | fail) | (left; simp; done) | fail))))).mono fun i _ hi => hi.1, by omega⟩)

theorem r5_mul {H : Heap} {P : Nat → Prop} {v w : V} {n m : Int} {d e : Nat} (hP : UpP H P) (h : isK H P v n d) (h' : isK H P w m e) (h1 : (dig 65536 n.natAbs).length + (dig 65536 m.natAbs).length < 1000000000) (h2 : (dig 65536 d).length + (dig 65536 e).length < 1000000000) :
    Tot (fun n => f_ref05_Mul n [v, w] H) fun v H' => Ext0 H H' ∧ isK H' P v (n * m) (d * e) := by
  obtain ⟨σ, s, τ, t, rfl, a1, a2, hd⟩ := h
  obtain ⟨σ', s', τ', t', rfl, b1, b2, he⟩ := h'
  refine Tot.of fun Q hQ => ?_
  refine ref05_Mul_tot ?_
  simp only [ref05_Mul_b]
  have hq : ∀ (G : Heap), H.n + 3 ≤ G.n → UpP G (fun i => P i ∧ i ≠ H.n + 2) := fun G hG i hi => ⟨hP i (by omega), by omega⟩
  have hm : ∀ {v : V} {z : Int}, isJ H P v z → isJ H (fun i => P i ∧ i ≠ H.n + 2) v z := fun h => h.mono fun i hi hp => ⟨hp, by omega⟩
  repeat (first | refine Tot.pure (by simp (disch := first | omega | (simp only [hn_push, hn_set, hn_more] <;> omega) | fail) [ld1_get, ldN_get, stA_get, boxA, gz, gs, Heap.get_push_ne, Heap.get_push_eq, Heap.get_set_ne, Heap.get_set_eq, get_more, hn_push, hn_set, hn_more, ]; try exact rfl) ?_ | refine Tot.chk (by simp (disch := first | omega | (simp only [hn_push, hn_set, hn_more] <;> omega) | fail) [ld1_get, ldN_get, stA_get, boxA, gz, gs, Heap.get_push_ne, Heap.get_push_eq, Heap.get_set_ne, Heap.get_set_eq, get_more, hn_push, hn_set, hn_more, ]; done) ?_ | fail)
  refine Tot.bind (r4_mul (hq _ (by simp)) ((hm a1).keep (by (repeat (first | exact KeepP.refl | refine KeepP.call ?_ (by assumption) | refine KeepP.push ?_ | refine KeepP.more ?_ | refine KeepP.set ?_ (by first | (right; first | omega | (simp only [hn_push, hn_set, hn_more] <;> omega) | fail) | (left; simp; done) | fail))))) ((hm b1).keep (by (repeat (first | exact KeepP.refl | refine KeepP.call ?_ (by assumption) | refine KeepP.push ?_ | refine KeepP.more ?_ | refine KeepP.set ?_ (by first | (right; first | omega | (simp only [hn_push, hn_set, hn_more] <;> omega) | fail) | (left; simp; done) | fail))))) h1) ?_
  rintro v H1 ⟨c1, i1⟩
  have n1 := c1.n; try simp only [hn_push, hn_set, hn_more] at n1
  obtain ⟨p1, q1, rfl, -⟩ := i1.shape
  dsimp only
  repeat (first | refine Tot.pure (by simp (disch := first | omega | (simp only [hn_push, hn_set, hn_more] <;> omega) | fail) [ld1_get, ldN_get, stA_get, boxA, gz, gs, Heap.get_push_ne, Heap.get_push_eq, Heap.get_set_ne, Heap.get_set_eq, get_more, hn_push, hn_set, hn_more, c1.g]; try exact rfl) ?_ | refine Tot.chk (by simp (disch := first | omega | (simp only [hn_push, hn_set, hn_more] <;> omega) | fail) [ld1_get, ldN_get, stA_get, boxA, gz, gs, Heap.get_push_ne, Heap.get_push_eq, Heap.get_set_ne, Heap.get_set_eq, get_more, hn_push, hn_set, hn_more, c1.g]; done) ?_ | fail)
  refine Tot.bind (r4_mul (hq _ (by omega)) ((hm a2).keep (by (repeat (first | exact KeepP.refl | refine KeepP.call ?_ (by assumption) | refine KeepP.push ?_ | refine KeepP.more ?_ | refine KeepP.set ?_ (by first | (right; first | omega | (simp only [hn_push, hn_set, hn_more] <;> omega) | fail) | (left; simp; done) | fail))))) ((hm b2).keep (by (repeat (first | exact KeepP.refl | refine KeepP.call ?_ (by assumption) | refine KeepP.push ?_ | refine KeepP.more ?_ | refine KeepP.set ?_ (by first | (right; first | omega | (simp only [hn_push, hn_set, hn_more] <;> omega) | fail) | (left; simp; done) | fail))))) (by rw [Int.natAbs_natCast, Int.natAbs_natCast]; exact h2)) ?_
  rintro v H2 ⟨c2, i2⟩
  have n2 := c2.n; try simp only [hn_push, hn_set, hn_more] at n2
  obtain ⟨p2, q2, rfl, -⟩ := i2.shape
  rw [← Int.natCast_mul] at i2
  dsimp only
  repeat (first | refine Tot.pure (by simp (disch := first | omega | (simp only [hn_push, hn_set, hn_more] <;> omega) | fail) [ld1_get, ldN_get, stA_get, boxA, gz, gs, Heap.get_push_ne, Heap.get_push_eq, Heap.get_set_ne, Heap.get_set_eq, get_more, hn_push, hn_set, hn_more, c1.g, c2.g]; try exact rfl) ?_ | refine Tot.chk (by simp (disch := first | omega | (simp only [hn_push, hn_set, hn_more] <;> omega) | fail) [ld1_get, ldN_get, stA_get, boxA, gz, gs, Heap.get_push_ne, Heap.get_push_eq, Heap.get_set_ne, Heap.get_set_eq, get_more, hn_push, hn_set, hn_more, c1.g, c2.g]; done) ?_ | fail)
  refine Tot.ret (hQ _ _ ⟨Keep.ext (by (repeat (first | exact Keep.refl | refine Keep.call ?_ (by assumption) | refine Keep.push ?_ | refine Keep.more ?_ | refine Keep.set ?_ (by first | omega | (simp only [hn_push, hn_set, hn_more] <;> omega) | fail)))), p1, q1, p2, q2, rfl, (i1.keep (by (repeat (first | exact KeepP.refl | refine KeepP.call ?_ (by assumption) | refine KeepP.push ?_ | refine KeepP.more ?_ | refine KeepP.set ?_ (by first | (right; first | omega | (simp only [hn_push, hn_set, hn_more] <;> omega) | fail) | (left; simp; done) | fail))))).mono fun i _ hi => hi.1, (i2.keep (by (repeat (first | exact KeepP.refl | refine KeepP.call ?_ (by assumption) | refine KeepP.push ?_ | refine KeepP.more ?_ | refine KeepP.set ?_ (by first | (right; first | omega | (simp only [hn_push, hn_set, hn_more] <;> omega) | fail) | (left; simp; done) | fail))))).mono fun i _ hi => hi.1, Nat.mul_pos hd he⟩)

theorem rsz_mul {x y : Nat} : (dig 65536 (x * y)).length ≤ (dig 65536 x).length + (dig 65536 y).length := by
  apply dig_len_le (by decide)
  rw [Nat.pow_add]
  exact Nat.mul_lt_mul_of_lt_of_le (dig_len_lt (by decide)) (Nat.le_of_lt (dig_len_lt (by decide))) (by have := Nat.pow_pos (n := (dig 65536 y).length) (show 0 < 65536 by decide); omega)
theorem rsz_add {x y N : Nat} (h1 : (dig 65536 x).length ≤ N) (h2 : (dig 65536 y).length ≤ N) : (dig 65536 (x + y)).length ≤ N + 1 := by
  apply dig_len_le (by decide)
  have a1 := dig_len_lt (b := 65536) (x := x) (by decide)
  have a2 := dig_len_lt (b := 65536) (x := y) (by decide)
  have a3 : 65536 ^ (dig 65536 x).length ≤ 65536 ^ N := Nat.pow_le_pow_right (by decide) h1
  have a4 : 65536 ^ (dig 65536 y).length ≤ 65536 ^ N := Nat.pow_le_pow_right (by decide) h2
  rw [Nat.pow_succ]; omega

set_option maxHeartbeats 1000000 in
theorem r5_add {H : Heap} {P : Nat → Prop} {v w : V} {n m : Int} {d e : Nat} (hP : UpP H P) (h : isK H P v n d) (h' : isK H P w m e) (h1 : (dig 65536 n.natAbs).length < 10000000) (h2 : (dig 65536 m.natAbs).length < 10000000) (h3 : (dig 65536 d).length < 10000000) (h4 : (dig 65536 e).length < 10000000) :
    Tot (fun n => f_ref05_Add n [v, w] H) fun v H' => Ext0 H H' ∧ isK H' P v (n * e + m * d) (d * e) := by
  obtain ⟨σ, s, τ, t, rfl, a1, a2, hd⟩ := h
  obtain ⟨σ', s', τ', t', rfl, b1, b2, he⟩ := h'
  refine Tot.of fun Q hQ => ?_
  refine ref05_Add_tot ?_
  simp only [ref05_Add_b]
  have hq : ∀ (G : Heap), H.n + 3 ≤ G.n → UpP G (fun i => P i ∧ i ≠ H.n + 2) := fun G hG i hi => ⟨hP i (by omega), by omega⟩
  have hm : ∀ {v : V} {z : Int}, isJ H P v z → isJ H (fun i => P i ∧ i ≠ H.n + 2) v z := fun h => h.mono fun i hi hp => ⟨hp, by omega⟩
  repeat (first | refine Tot.pure (by simp (disch := first | omega | (simp only [hn_push, hn_set, hn_more] <;> omega) | fail) [ld1_get, ldN_get, stA_get, boxA, gz, gs, Heap.get_push_ne, Heap.get_push_eq, Heap.get_set_ne, Heap.get_set_eq, get_more, hn_push, hn_set, hn_more, ]; try exact rfl) ?_ | refine Tot.chk (by simp (disch := first | omega | (simp only [hn_push, hn_set, hn_more] <;> omega) | fail) [ld1_get, ldN_get, stA_get, boxA, gz, gs, Heap.get_push_ne, Heap.get_push_eq, Heap.get_set_ne, Heap.get_set_eq, get_more, hn_push, hn_set, hn_more, ]; done) ?_ | fail)
  refine Tot.bind (r4_mul (hq _ (by simp)) ((hm a1).keep (by (repeat (first | exact KeepP.refl | refine KeepP.call ?_ (by assumption) | refine KeepP.push ?_ | refine KeepP.more ?_ | refine KeepP.set ?_ (by first | (right; first | omega | (simp only [hn_push, hn_set, hn_more] <;> omega) | fail) | (left; simp; done) | fail))))) ((hm b2).keep (by (repeat (first | exact KeepP.refl | refine KeepP.call ?_ (by assumption) | refine KeepP.push ?_ | refine KeepP.more ?_ | refine KeepP.set ?_ (by first | (right; first | omega | (simp only [hn_push, hn_set, hn_more] <;> omega) | fail) | (left; simp; done) | fail))))) (by rw [Int.natAbs_natCast]; omega)) ?_
  rintro v H1 ⟨c1, i1⟩
  have n1 := c1.n; try simp only [hn_push, hn_set, hn_more] at n1
  obtain ⟨p1, q1, rfl, -⟩ := i1.shape
  dsimp only
  repeat (first | refine Tot.pure (by simp (disch := first | omega | (simp only [hn_push, hn_set, hn_more] <;> omega) | fail) [ld1_get, ldN_get, stA_get, boxA, gz, gs, Heap.get_push_ne, Heap.get_push_eq, Heap.get_set_ne, Heap.get_set_eq, get_more, hn_push, hn_set, hn_more, c1.g]; try exact rfl) ?_ | refine Tot.chk (by simp (disch := first | omega | (simp only [hn_push, hn_set, hn_more] <;> omega) | fail) [ld1_get, ldN_get, stA_get, boxA, gz, gs, Heap.get_push_ne, Heap.get_push_eq, Heap.get_set_ne, Heap.get_set_eq, get_more, hn_push, hn_set, hn_more, c1.g]; done) ?_ | fail)
  refine Tot.bind (r4_mul (hq _ (by omega)) ((hm b1).keep (by (repeat (first | exact KeepP.refl | refine KeepP.call ?_ (by assumption) | refine KeepP.push ?_ | refine KeepP.more ?_ | refine KeepP.set ?_ (by first | (right; first | omega | (simp only [hn_push, hn_set, hn_more] <;> omega) | fail) | (left; simp; done) | fail))))) ((hm a2).keep (by (repeat (first | exact KeepP.refl | refine KeepP.call ?_ (by assumption) | refine KeepP.push ?_ | refine KeepP.more ?_ | refine KeepP.set ?_ (by first | (right; first | omega | (simp only [hn_push, hn_set, hn_more] <;> omega) | fail) | (left; simp; done) | fail))))) (by rw [Int.natAbs_natCast]; omega)) ?_
  rintro v H2 ⟨c2, i2⟩
  have n2 := c2.n; try simp only [hn_push, hn_set, hn_more] at n2
  obtain ⟨p2, q2, rfl, -⟩ := i2.shape
  dsimp only
  repeat (first | refine Tot.pure (by simp (disch := first | omega | (simp only [hn_push, hn_set, hn_more] <;> omega) | fail) [ld1_get, ldN_get, stA_get, boxA, gz, gs, Heap.get_push_ne, Heap.get_push_eq, Heap.get_set_ne, Heap.get_set_eq, get_more, hn_push, hn_set, hn_more, c1.g, c2.g]; try exact rfl) ?_ | refine Tot.chk (by simp (disch := first | omega | (simp only [hn_push, hn_set, hn_more] <;> omega) | fail) [ld1_get, ldN_get, stA_get, boxA, gz, gs, Heap.get_push_ne, Heap.get_push_eq, Heap.get_set_ne, Heap.get_set_eq, get_more, hn_push, hn_set, hn_more, c1.g, c2.g]; done) ?_ | fail)
  have z1 := rsz_mul (x := n.natAbs) (y := e)
  have z2 := rsz_mul (x := m.natAbs) (y := d)
  rw [← Int.natAbs_natCast e, ← Int.natAbs_mul, Int.natAbs_natCast] at z1
  rw [← Int.natAbs_natCast d, ← Int.natAbs_mul, Int.natAbs_natCast] at z2
  refine Tot.bind (r4_add (hq _ (by omega)) (i1.keep (by (repeat (first | exact KeepP.refl | refine KeepP.call ?_ (by assumption) | refine KeepP.push ?_ | refine KeepP.more ?_ | refine KeepP.set ?_ (by first | (right; first | omega | (simp only [hn_push, hn_set, hn_more] <;> omega) | fail) | (left; simp; done) | fail))))) i2 (by omega) (by omega)) ?_
  rintro v H3 ⟨c3, i3⟩
  have n3 := c3.n; try simp only [hn_push, hn_set, hn_more] at n3
  obtain ⟨p3, q3, rfl, -⟩ := i3.shape
  dsimp only
  repeat (first | refine Tot.pure (by simp (disch := first | omega | (simp only [hn_push, hn_set, hn_more] <;> omega) | fail) [ld1_get, ldN_get, stA_get, boxA, gz, gs, Heap.get_push_ne, Heap.get_push_eq, Heap.get_set_ne, Heap.get_set_eq, get_more, hn_push, hn_set, hn_more, c1.g, c2.g, c3.g]; try exact rfl) ?_ | refine Tot.chk (by simp (disch := first | omega | (simp only [hn_push, hn_set, hn_more] <;> omega) | fail) [ld1_get, ldN_get, stA_get, boxA, gz, gs, Heap.get_push_ne, Heap.get_push_eq, Heap.get_set_ne, Heap.get_set_eq, get_more, hn_push, hn_set, hn_more, c1.g, c2.g, c3.g]; done) ?_ | fail)
  refine Tot.bind (r4_mul (hq _ (by omega)) ((hm a2).keep (by (repeat (first | exact KeepP.refl | refine KeepP.call ?_ (by assumption) | refine KeepP.push ?_ | refine KeepP.more ?_ | refine KeepP.set ?_ (by first | (right; first | omega | (simp only [hn_push, hn_set, hn_more] <;> omega) | fail) | (left; simp; done) | fail))))) ((hm b2).keep (by (repeat (first | exact KeepP.refl | refine KeepP.call ?_ (by assumption) | refine KeepP.push ?_ | refine KeepP.more ?_ | refine KeepP.set ?_ (by first | (right; first | omega | (simp only [hn_push, hn_set, hn_more] <;> omega) | fail) | (left; simp; done) | fail))))) (by rw [Int.natAbs_natCast, Int.natAbs_natCast]; omega)) ?_
  rintro v H4 ⟨c4, i4⟩
  have n4 := c4.n; try simp only [hn_push, hn_set, hn_more] at n4
  obtain ⟨p4, q4, rfl, -⟩ := i4.shape
  rw [← Int.natCast_mul] at i4
  dsimp only
  repeat (first | refine Tot.pure (by simp (disch := first | omega | (simp only [hn_push, hn_set, hn_more] <;> omega) | fail) [ld1_get, ldN_get, stA_get, boxA, gz, gs, Heap.get_push_ne, Heap.get_push_eq, Heap.get_set_ne, Heap.get_set_eq, get_more, hn_push, hn_set, hn_more, c1.g, c2.g, c3.g, c4.g]; try exact rfl) ?_ | refine Tot.chk (by simp (disch := first | omega | (simp only [hn_push, hn_set, hn_more] <;> omega) | fail) [ld1_get, ldN_get, stA_get, boxA, gz, gs, Heap.get_push_ne, Heap.get_push_eq, Heap.get_set_ne, Heap.get_set_eq, get_more, hn_push, hn_set, hn_more, c1.g, c2.g, c3.g, c4.g]; done) ?_ | fail)
  refine Tot.ret (hQ _ _ ⟨Keep.ext (by (repeat (first | exact Keep.refl | refine Keep.call ?_ (by assumption) | refine Keep.push ?_ | refine Keep.more ?_ | refine Keep.set ?_ (by first | omega | (simp only [hn_push, hn_set, hn_more] <;> omega) | fail)))), p3, q3, p4, q4, rfl, (i3.keep (by (repeat (first | exact KeepP.refl | refine KeepP.call ?_ (by assumption) | refine KeepP.push ?_ | refine KeepP.more ?_ | refine KeepP.set ?_ (by first | (right; first | omega | (simp only [hn_push, hn_set, hn_more] <;> omega) | fail) | (left; simp; done) | fail))))).mono fun i _ hi => hi.1, (i4.keep (by (repeat (first | exact KeepP.refl | refine KeepP.call ?_ (by assumption) | refine KeepP.push ?_ | refine KeepP.more ?_ | refine KeepP.set ?_ (by first | (right; first | omega | (simp only [hn_push, hn_set, hn_more] <;> omega) | fail) | (left; simp; done) | fail))))).mono fun i _ hi => hi.1, Nat.mul_pos hd he⟩)

theorem r5_low {H : Heap} {P : Nat → Prop} {v : V} {n : Int} {d : Nat} (hP : UpP H P) (h : isK H P v n d) (h1 : (dig 65536 n.natAbs).length < 10000000) (h2 : (dig 65536 d).length < 10000000) :
    Tot (fun n => f_ref05_Low n [v] H) fun v H' => Ext0 H H' ∧ isK H' P v (lowN n d) (lowD n d) := by
  obtain ⟨σ, s, τ, t, rfl, a1, a2, hd⟩ := h
  obtain ⟨_, _, e1, hσ, r1, f1⟩ := a1.shape
  simp at e1; obtain ⟨rfl, rfl⟩ := e1
  obtain ⟨_, _, e2, hτ, r2, f2⟩ := a2.shape
  simp at e2; obtain ⟨rfl, rfl⟩ := e2
  rw [Int.natAbs_natCast] at r2
  have sx := sign_cases n
  rw [← hσ] at sx
  have hg0 : 0 < Nat.gcd n.natAbs d := Nat.gcd_pos_of_pos_right _ hd
  refine Tot.of fun Q hQ => ?_
  refine ref05_Low_tot ?_
  simp only [ref05_Low_b]
  have hq : ∀ (G : Heap), H.n + 2 ≤ G.n → UpP G (fun i => P i ∧ i ≠ H.n + 1) := fun G hG i hi => ⟨hP i (by omega), by omega⟩
  repeat (first | refine Tot.pure (by simp (disch := first | omega | (simp only [hn_push, hn_set, hn_more] <;> omega) | fail) [ld1_get, ldN_get, stA_get, boxA, gz, gs, Heap.get_push_ne, Heap.get_push_eq, Heap.get_set_ne, Heap.get_set_eq, get_more, hn_push, hn_set, hn_more, ]; try exact rfl) ?_ | refine Tot.chk (by simp (disch := first | omega | (simp only [hn_push, hn_set, hn_more] <;> omega) | fail) [ld1_get, ldN_get, stA_get, boxA, gz, gs, Heap.get_push_ne, Heap.get_push_eq, Heap.get_set_ne, Heap.get_set_eq, get_more, hn_push, hn_set, hn_more, ]; done) ?_ | fail)
  refine Tot.ite (fun h0 => ?_) (fun h0 => ?_)
  · have h0' := of_decide_eq_true h0
    have hn : n = 0 := by omega
    subst hn
    rw [low_zero.1, low_zero.2] at hQ
    repeat (first | refine Tot.pure (by simp (disch := first | omega | (simp only [hn_push, hn_set, hn_more] <;> omega) | fail) [ld1_get, ldN_get, stA_get, boxA, gz, gs, Heap.get_push_ne, Heap.get_push_eq, Heap.get_set_ne, Heap.get_set_eq, get_more, hn_push, hn_set, hn_more, ]; try exact rfl) ?_ | refine Tot.chk (by simp (disch := first | omega | (simp only [hn_push, hn_set, hn_more] <;> omega) | fail) [ld1_get, ldN_get, stA_get, boxA, gz, gs, Heap.get_push_ne, Heap.get_push_eq, Heap.get_set_ne, Heap.get_set_eq, get_more, hn_push, hn_set, hn_more, ]; done) ?_ | fail)
    refine Tot.bind (r4_long (z := 1) (hq _ (by simp)) (by omega)) ?_
    rintro v H2 ⟨c2, i2⟩
    have n2 := c2.n; try simp only [hn_push, hn_set, hn_more] at n2
    obtain ⟨b2, s2, rfl, -⟩ := i2.shape
    dsimp only
    repeat (first | refine Tot.pure (by simp (disch := first | omega | (simp only [hn_push, hn_set, hn_more] <;> omega) | fail) [ld1_get, ldN_get, stA_get, boxA, gz, gs, Heap.get_push_ne, Heap.get_push_eq, Heap.get_set_ne, Heap.get_set_eq, get_more, hn_push, hn_set, hn_more, c2.g]; try exact rfl) ?_ | refine Tot.chk (by simp (disch := first | omega | (simp only [hn_push, hn_set, hn_more] <;> omega) | fail) [ld1_get, ldN_get, stA_get, boxA, gz, gs, Heap.get_push_ne, Heap.get_push_eq, Heap.get_set_ne, Heap.get_set_eq, get_more, hn_push, hn_set, hn_more, c2.g]; done) ?_ | fail)
    refine Tot.ret (hQ _ _ ⟨Keep.ext (by (repeat (first | exact Keep.refl | refine Keep.call ?_ (by assumption) | refine Keep.push ?_ | refine Keep.more ?_ | refine Keep.set ?_ (by first | omega | (simp only [hn_push, hn_set, hn_more] <;> omega) | fail)))), _, _, b2, s2, rfl, isJ.zero, (i2.keep (by (repeat (first | exact KeepP.refl | refine KeepP.call ?_ (by assumption) | refine KeepP.push ?_ | refine KeepP.more ?_ | refine KeepP.set ?_ (by first | (right; first | omega | (simp only [hn_push, hn_set, hn_more] <;> omega) | fail) | (left; simp; done) | fail))))).mono fun i _ hi => hi.1, by decide⟩)
  · have h0' : σ ≠ 0 := by simpa using h0
    have hn : n ≠ 0 := by omega
    repeat (first | refine Tot.pure (by simp (disch := first | omega | (simp only [hn_push, hn_set, hn_more] <;> omega) | fail) [ld1_get, ldN_get, stA_get, boxA, gz, gs, Heap.get_push_ne, Heap.get_push_eq, Heap.get_set_ne, Heap.get_set_eq, get_more, hn_push, hn_set, hn_more, ]; try exact rfl) ?_ | refine Tot.chk (by simp (disch := first | omega | (simp only [hn_push, hn_set, hn_more] <;> omega) | fail) [ld1_get, ldN_get, stA_get, boxA, gz, gs, Heap.get_push_ne, Heap.get_push_eq, Heap.get_set_ne, Heap.get_set_eq, get_more, hn_push, hn_set, hn_more, ]; done) ?_ | fail)
    refine Tot.bind (r_gcd (r1.ext (Keep.ext (by (repeat (first | exact Keep.refl | refine Keep.call ?_ (by assumption) | refine Keep.push ?_ | refine Keep.more ?_ | refine Keep.set ?_ (by first | omega | (simp only [hn_push, hn_set, hn_more] <;> omega) | fail)))))) (r2.ext (Keep.ext (by (repeat (first | exact Keep.refl | refine Keep.call ?_ (by assumption) | refine Keep.push ?_ | refine Keep.more ?_ | refine Keep.set ?_ (by first | omega | (simp only [hn_push, hn_set, hn_more] <;> omega) | fail)))))) (by omega) (by omega)) ?_
    rintro v H1 ⟨c1, s1, rfl, q1⟩
    have n1 := c1.n; try simp only [hn_push, hn_set, hn_more] at n1
    have hgd : Nat.gcd n.natAbs d ≤ d := Nat.gcd_le_right _ hd
    have hgz := rsz_mono hgd
    have hgn := Nat.gcd_dvd_left n.natAbs d
    have hgc : Nat.gcd n.natAbs d = Nat.gcd n.natAbs d := rfl
    have eN : lowN n d = sgn (decide (n < 0)) (n.natAbs / Nat.gcd n.natAbs d) := by rw [lowN, if_neg (by omega)]
    have eD : lowD n d = d / Nat.gcd n.natAbs d := by rw [lowD, if_neg (by omega)]
    have hDp := lowD_pos (n := n) (d := d)
    generalize Nat.gcd n.natAbs d = g at *
    dsimp only
    repeat (first | refine Tot.pure (by simp (disch := first | omega | (simp only [hn_push, hn_set, hn_more] <;> omega) | fail) [ld1_get, ldN_get, stA_get, boxA, gz, gs, Heap.get_push_ne, Heap.get_push_eq, Heap.get_set_ne, Heap.get_set_eq, get_more, hn_push, hn_set, hn_more, c1.g]; try exact rfl) ?_ | refine Tot.chk (by simp (disch := first | omega | (simp only [hn_push, hn_set, hn_more] <;> omega) | fail) [ld1_get, ldN_get, stA_get, boxA, gz, gs, Heap.get_push_ne, Heap.get_push_eq, Heap.get_set_ne, Heap.get_set_eq, get_more, hn_push, hn_set, hn_more, c1.g]; done) ?_ | fail)
    refine Tot.bind (r_divmod (r1.ext (Keep.ext (by (repeat (first | exact Keep.refl | refine Keep.call ?_ (by assumption) | refine Keep.push ?_ | refine Keep.more ?_ | refine Keep.set ?_ (by first | omega | (simp only [hn_push, hn_set, hn_more] <;> omega) | fail)))))) q1 (by omega) (by omega) hg0) ?_
    rintro v H2 ⟨c2, s2, s3, rfl, q2, -, f3, -⟩
    have n2 := c2.n; try simp only [hn_push, hn_set, hn_more] at n2
    dsimp only
    repeat (first | refine Tot.pure (by simp (disch := first | omega | (simp only [hn_push, hn_set, hn_more] <;> omega) | fail) [ld1_get, ldN_get, stA_get, boxA, gz, gs, Heap.get_push_ne, Heap.get_push_eq, Heap.get_set_ne, Heap.get_set_eq, get_more, hn_push, hn_set, hn_more, c1.g, c2.g]; try exact rfl) ?_ | refine Tot.chk (by simp (disch := first | omega | (simp only [hn_push, hn_set, hn_more] <;> omega) | fail) [ld1_get, ldN_get, stA_get, boxA, gz, gs, Heap.get_push_ne, Heap.get_push_eq, Heap.get_set_ne, Heap.get_set_eq, get_more, hn_push, hn_set, hn_more, c1.g, c2.g]; done) ?_ | fail)
    refine Tot.bind (r_divmod (r2.ext (Keep.ext (by (repeat (first | exact Keep.refl | refine Keep.call ?_ (by assumption) | refine Keep.push ?_ | refine Keep.more ?_ | refine Keep.set ?_ (by first | omega | (simp only [hn_push, hn_set, hn_more] <;> omega) | fail)))))) (q1.ext c2) (by omega) (by omega) hg0) ?_
    rintro v H3 ⟨c3, s4, s5, rfl, q4, -, f5, -⟩
    have n3 := c3.n; try simp only [hn_push, hn_set, hn_more] at n3
    dsimp only
    repeat (first | refine Tot.pure (by simp (disch := first | omega | (simp only [hn_push, hn_set, hn_more] <;> omega) | fail) [ld1_get, ldN_get, stA_get, boxA, gz, gs, Heap.get_push_ne, Heap.get_push_eq, Heap.get_set_ne, Heap.get_set_eq, get_more, hn_push, hn_set, hn_more, c1.g, c2.g, c3.g]; try exact rfl) ?_ | refine Tot.chk (by simp (disch := first | omega | (simp only [hn_push, hn_set, hn_more] <;> omega) | fail) [ld1_get, ldN_get, stA_get, boxA, gz, gs, Heap.get_push_ne, Heap.get_push_eq, Heap.get_set_ne, Heap.get_set_eq, get_more, hn_push, hn_set, hn_more, c1.g, c2.g, c3.g]; done) ?_ | fail)
    have hqn : n.natAbs / g ≠ 0 := by
      have := Nat.div_pos (Nat.le_of_dvd (by omega) hgn) hg0
      omega
    have hqp : (0 : Int) < ((n.natAbs / g : Nat) : Int) := Int.natCast_pos.2 (Nat.pos_of_ne_zero hqn)
    refine Tot.ret (hQ _ _ ⟨Keep.ext (by (repeat (first | exact Keep.refl | refine Keep.call ?_ (by assumption) | refine Keep.push ?_ | refine Keep.more ?_ | refine Keep.set ?_ (by first | omega | (simp only [hn_push, hn_set, hn_more] <;> omega) | fail)))), σ, s2, 1, s4, rfl, ⟨s2, ?_, ?_, fun i hi => hP i (by have := f3 i hi; omega)⟩, ⟨s4, ?_, ?_, fun i hi => hP i (by have := f5 i hi; omega)⟩, hDp⟩)
    · have : (lowN n d).sign = σ := by
        rw [eN]
        rcases sx with ⟨x1, x2⟩ | ⟨x1, x2⟩ | ⟨x1, x2⟩
        · rw [sgn, if_pos (by simpa using x2), Int.sign_neg, Int.sign_eq_one_of_pos hqp, x1]
        · omega
        · rw [sgn, if_neg (by simp; omega), Int.sign_eq_one_of_pos hqp, x1]
      rw [this]
    · rw [eN, sgn_abs]; exact q2.keep (lo := H1.n) f3 (by (repeat (first | exact Keep.refl | refine Keep.call ?_ (by assumption) | refine Keep.push ?_ | refine Keep.more ?_ | refine Keep.set ?_ (by first | omega | (simp only [hn_push, hn_set, hn_more] <;> omega) | fail))))
    · rw [Int.sign_eq_one_of_pos (by omega)]
    · rw [Int.natAbs_natCast, eD]; exact q4.keep (lo := H2.n) f5 (by (repeat (first | exact Keep.refl | refine Keep.call ?_ (by assumption) | refine Keep.push ?_ | refine Keep.more ?_ | refine Keep.set ?_ (by first | omega | (simp only [hn_push, hn_set, hn_more] <;> omega) | fail))))

theorem r5_floor {H : Heap} {P : Nat → Prop} {v : V} {n : Int} {d : Nat} (hP : UpP H P) (h : isK H P v n d) (h1 : (dig 65536 n.natAbs).length < 90000000) (h2 : (dig 65536 d).length < 90000000) :
    Tot (fun n => f_ref05_Floor n [v] H) fun v H' => Ext0 H H' ∧ isJ H' P v (n / d) := by
  obtain ⟨σ, s, τ, t, rfl, a1, a2, hd⟩ := h
  refine Tot.of fun Q hQ => ?_
  refine ref05_Floor_tot ?_
  simp only [ref05_Floor_b]
  have hq : ∀ (G : Heap), H.n + 2 ≤ G.n → UpP G (fun i => P i ∧ i ≠ H.n + 1) := fun G hG i hi => ⟨hP i (by omega), by omega⟩
  have hm : ∀ {v : V} {z : Int}, isJ H P v z → isJ H (fun i => P i ∧ i ≠ H.n + 1) v z := fun h => h.mono fun i hi hp => ⟨hp, by omega⟩
  repeat (first | refine Tot.pure (by simp (disch := first | omega | (simp only [hn_push, hn_set, hn_more] <;> omega) | fail) [ld1_get, ldN_get, stA_get, boxA, gz, gs, Heap.get_push_ne, Heap.get_push_eq, Heap.get_set_ne, Heap.get_set_eq, get_more, hn_push, hn_set, hn_more, ]; try exact rfl) ?_ | refine Tot.chk (by simp (disch := first | omega | (simp only [hn_push, hn_set, hn_more] <;> omega) | fail) [ld1_get, ldN_get, stA_get, boxA, gz, gs, Heap.get_push_ne, Heap.get_push_eq, Heap.get_set_ne, Heap.get_set_eq, get_more, hn_push, hn_set, hn_more, ]; done) ?_ | fail)
  refine Tot.bind (r4_floor (hq _ (by simp)) ((hm a1).keep (by (repeat (first | exact KeepP.refl | refine KeepP.call ?_ (by assumption) | refine KeepP.push ?_ | refine KeepP.more ?_ | refine KeepP.set ?_ (by first | (right; first | omega | (simp only [hn_push, hn_set, hn_more] <;> omega) | fail) | (left; simp; done) | fail))))) ((hm a2).keep (by (repeat (first | exact KeepP.refl | refine KeepP.call ?_ (by assumption) | refine KeepP.push ?_ | refine KeepP.more ?_ | refine KeepP.set ?_ (by first | (right; first | omega | (simp only [hn_push, hn_set, hn_more] <;> omega) | fail) | (left; simp; done) | fail))))) hd h1 h2) ?_
  rintro v H1 ⟨c1, v1, v2, z, rfl, i1, i2⟩
  have n1 := c1.n; try simp only [hn_push, hn_set, hn_more] at n1
  obtain ⟨p1, q1, rfl, -⟩ := i1.shape
  obtain ⟨p2, q2, rfl, -⟩ := i2.shape
  dsimp only
  repeat (first | refine Tot.pure (by simp (disch := first | omega | (simp only [hn_push, hn_set, hn_more] <;> omega) | fail) [ld1_get, ldN_get, stA_get, boxA, gz, gs, Heap.get_push_ne, Heap.get_push_eq, Heap.get_set_ne, Heap.get_set_eq, get_more, hn_push, hn_set, hn_more, c1.g]; try exact rfl) ?_ | refine Tot.chk (by simp (disch := first | omega | (simp only [hn_push, hn_set, hn_more] <;> omega) | fail) [ld1_get, ldN_get, stA_get, boxA, gz, gs, Heap.get_push_ne, Heap.get_push_eq, Heap.get_set_ne, Heap.get_set_eq, get_more, hn_push, hn_set, hn_more, c1.g]; done) ?_ | fail)
  exact Tot.ret (hQ _ _ ⟨Keep.ext (by (repeat (first | exact Keep.refl | refine Keep.call ?_ (by assumption) | refine Keep.push ?_ | refine Keep.more ?_ | refine Keep.set ?_ (by first | omega | (simp only [hn_push, hn_set, hn_more] <;> omega) | fail)))), (i1.keep (by (repeat (first | exact KeepP.refl | refine KeepP.call ?_ (by assumption) | refine KeepP.push ?_ | refine KeepP.more ?_ | refine KeepP.set ?_ (by first | (right; first | omega | (simp only [hn_push, hn_set, hn_more] <;> omega) | fail) | (left; simp; done) | fail))))).mono fun i _ hi => hi.1⟩)

theorem one_rlen : (dig 65536 1).length = 1 := by rw [dig_pos (by decide) (by decide)]; simp [dig_zero]
theorem two_rlen : (dig 65536 2).length = 1 := by rw [dig_pos (by decide) (by decide)]; simp [dig_zero]

theorem r5_round {H : Heap} {P : Nat → Prop} {v : V} {n : Int} {d : Nat} (hP : UpP H P) (h : isK H P v n d) (h1 : (dig 65536 n.natAbs).length < 1000000) (h2 : (dig 65536 d).length < 1000000) :
    Tot (fun n => f_ref05_Round n [v] H) fun v H' => Ext0 H H' ∧ isJ H' P v (rnd n d) := by
  have ha := h
  obtain ⟨σ, s, τ, t, rfl, a1, a2, hd⟩ := h
  refine Tot.of fun Q hQ => ?_
  refine ref05_Round_tot ?_
  simp only [ref05_Round_b]
  have hq : ∀ (G : Heap), H.n + 2 ≤ G.n → UpP G (fun i => P i ∧ i ≠ H.n + 1) := fun G hG i hi => ⟨hP i (by omega), by omega⟩
  have hm : isK H (fun i => P i ∧ i ≠ H.n + 1) (.agg [.int .i64 σ, .slice s, .int .i64 τ, .slice t]) n d := ha.mono fun i hi hp => ⟨hp, by omega⟩
  repeat (first | refine Tot.pure (by simp (disch := first | omega | (simp only [hn_push, hn_set, hn_more] <;> omega) | fail) [ld1_get, ldN_get, stA_get, boxA, gz, gs, Heap.get_push_ne, Heap.get_push_eq, Heap.get_set_ne, Heap.get_set_eq, get_more, hn_push, hn_set, hn_more, ]; try exact rfl) ?_ | refine Tot.chk (by simp (disch := first | omega | (simp only [hn_push, hn_set, hn_more] <;> omega) | fail) [ld1_get, ldN_get, stA_get, boxA, gz, gs, Heap.get_push_ne, Heap.get_push_eq, Heap.get_set_ne, Heap.get_set_eq, get_more, hn_push, hn_set, hn_more, ]; done) ?_ | fail)
  refine Tot.bind (r4_long (z := 1) (hq _ (by simp)) (by omega)) ?_
  rintro v H1 ⟨c1, i1⟩
  have n1 := c1.n; try simp only [hn_push, hn_set, hn_more] at n1
  obtain ⟨p1, q1, rfl, -⟩ := i1.shape
  dsimp only
  refine Tot.bind (r4_long (z := 2) (hq _ (by omega)) (by omega)) ?_
  rintro v H2 ⟨c2, i2⟩
  have n2 := c2.n; try simp only [hn_push, hn_set, hn_more] at n2
  obtain ⟨p2, q2, rfl, -⟩ := i2.shape
  dsimp only
  repeat (first | refine Tot.pure (by simp (disch := first | omega | (simp only [hn_push, hn_set, hn_more] <;> omega) | fail) [ld1_get, ldN_get, stA_get, boxA, gz, gs, Heap.get_push_ne, Heap.get_push_eq, Heap.get_set_ne, Heap.get_set_eq, get_more, hn_push, hn_set, hn_more, c1.g, c2.g]; try exact rfl) ?_ | refine Tot.chk (by simp (disch := first | omega | (simp only [hn_push, hn_set, hn_more] <;> omega) | fail) [ld1_get, ldN_get, stA_get, boxA, gz, gs, Heap.get_push_ne, Heap.get_push_eq, Heap.get_set_ne, Heap.get_set_eq, get_more, hn_push, hn_set, hn_more, c1.g, c2.g]; done) ?_ | fail)
  have hk : isK H2 (fun i => P i ∧ i ≠ H.n + 1) (.agg [.int .i64 p1, .slice q1, .int .i64 p2, .slice q2]) 1 2 := ⟨_, _, _, _, rfl, i1.keep (by (repeat (first | exact KeepP.refl | refine KeepP.call ?_ (by assumption) | refine KeepP.push ?_ | refine KeepP.more ?_ | refine KeepP.set ?_ (by first | (right; first | omega | (simp only [hn_push, hn_set, hn_more] <;> omega) | fail) | (left; simp; done) | fail)))), i2, by decide⟩
  refine Tot.bind (r5_add (hq _ (by omega)) (hm.keep (by (repeat (first | exact KeepP.refl | refine KeepP.call ?_ (by assumption) | refine KeepP.push ?_ | refine KeepP.more ?_ | refine KeepP.set ?_ (by first | (right; first | omega | (simp only [hn_push, hn_set, hn_more] <;> omega) | fail) | (left; simp; done) | fail))))) hk (by omega) (by rw [show (1 : Int).natAbs = 1 from rfl, one_rlen]; decide) (by omega) (by rw [two_rlen]; decide)) ?_
  rintro v H3 ⟨c3, i3⟩
  have n3 := c3.n; try simp only [hn_push, hn_set, hn_more] at n3
  dsimp only
  have z1 : (dig 65536 (n * ((2 : Nat) : Int) + 1 * (d : Int)).natAbs).length ≤ 1000003 := by
    have e1 : (n * ((2 : Nat) : Int) + 1 * (d : Int)).natAbs ≤ (n.natAbs + n.natAbs) + d := by omega
    refine Nat.le_trans (rsz_mono e1) (rsz_add (N := 1000002) ?_ (by omega))
    exact Nat.le_trans (rsz_add (N := 1000000) (by omega) (by omega)) (by omega)
  have z2 := rsz_mul (x := d) (y := 2)
  rw [two_rlen] at z2
  refine Tot.bind (r5_floor (hq _ (by omega)) i3 (by omega) (by omega)) ?_
  rintro v H4 ⟨c4, i4⟩
  have n4 := c4.n; try simp only [hn_push, hn_set, hn_more] at n4
  obtain ⟨p4, q4, rfl, -⟩ := i4.shape
  have e4 : (n * ((2 : Nat) : Int) + 1 * (d : Int)) / ((d * 2 : Nat) : Int) = rnd n d := by
    unfold rnd
    congr 1
    · omega
    · congr 1; omega
  rw [e4] at i4
  dsimp only
  repeat (first | refine Tot.pure (by simp (disch := first | omega | (simp only [hn_push, hn_set, hn_more] <;> omega) | fail) [ld1_get, ldN_get, stA_get, boxA, gz, gs, Heap.get_push_ne, Heap.get_push_eq, Heap.get_set_ne, Heap.get_set_eq, get_more, hn_push, hn_set, hn_more, c1.g, c2.g, c3.g, c4.g]; try exact rfl) ?_ | refine Tot.chk (by simp (disch := first | omega | (simp only [hn_push, hn_set, hn_more] <;> omega) | fail) [ld1_get, ldN_get, stA_get, boxA, gz, gs, Heap.get_push_ne, Heap.get_push_eq, Heap.get_set_ne, Heap.get_set_eq, get_more, hn_push, hn_set, hn_more, c1.g, c2.g, c3.g, c4.g]; done) ?_ | fail)
  exact Tot.ret (hQ _ _ ⟨Keep.ext (by (repeat (first | exact Keep.refl | refine Keep.call ?_ (by assumption) | refine Keep.push ?_ | refine Keep.more ?_ | refine Keep.set ?_ (by first | omega | (simp only [hn_push, hn_set, hn_more] <;> omega) | fail)))), (i4.keep (by (repeat (first | exact KeepP.refl | refine KeepP.call ?_ (by assumption) | refine KeepP.push ?_ | refine KeepP.more ?_ | refine KeepP.set ?_ (by first | (right; first | omega | (simp only [hn_push, hn_set, hn_more] <;> omega) | fail) | (left; simp; done) | fail))))).mono fun i _ hi => hi.1⟩)
end Go.AM
end

section
set_option linter.unusedVariables false
set_option linter.unusedSimpArgs false
/- What the document's functions of layer 40 give: Scaled, Decimal. -/
set_option linter.unusedSimpArgs false
set_option linter.unusedVariables false
namespace Go.AM
attribute [local congr] bnd_weak ite_weak

theorem ten_rlen : (dig 65536 10).length = 1 := by rw [dig_pos (by decide) (by decide)]; simp [dig_zero]

set_option maxHeartbeats 1000000 in
theorem r40_scaled {H : Heap} {P : Nat → Prop} {v : V} {n : Int} {d places : Nat} (hP : UpP H P) (h : isK H P v n d) (hp : places ≤ 30) (h1 : (dig 65536 n.natAbs).length < 900000) (h2 : (dig 65536 d).length < 900000) :
    Tot (fun n => f_ref40_Scaled n [v, .int .i64 places] H) fun v H' => Ext0 H H' ∧ isJ H' P v (rnd (n * 10 ^ places) d) := by
  have ha := h
  obtain ⟨σ, s, τ, t, rfl, -, -, hd⟩ := h
  refine Tot.of fun Q hQ => ?_
  refine ref40_Scaled_tot ?_
  simp only [ref40_Scaled_b]
  repeat (first | refine Tot.pure (by simp (disch := first | omega | (simp only [hn_push, hn_set, hn_more] <;> omega) | fail) [ld1_get, ldN_get, stA_get, boxA, gz, gs, Heap.get_push_ne, Heap.get_push_eq, Heap.get_set_ne, Heap.get_set_eq, get_more, hn_push, hn_set, hn_more, ]; try exact rfl) ?_ | refine Tot.chk (by simp (disch := first | omega | (simp only [hn_push, hn_set, hn_more] <;> omega) | fail) [ld1_get, ldN_get, stA_get, boxA, gz, gs, Heap.get_push_ne, Heap.get_push_eq, Heap.get_set_ne, Heap.get_set_eq, get_more, hn_push, hn_set, hn_more, ]; done) ?_ | fail)
  have lp : ∀ (j i : Nat) (ii : Int) (H' : Heap) (σ τ : Int) (s t : Sl), i + j = places → ii = (i : Int) → Keep 0 H H' → H.n + 2 ≤ H'.n → H'.get H.n = .cells [.int .i64 σ, .slice s, .int .i64 τ, .slice t] ty_ref05_Rat false → H'.get (H.n + 1) = .cells [.int .i64 0, .slice ⟨none, 0, 0, false⟩] ty_ref04_Int false →
      isK H' (fun i => P i ∧ i ≠ H.n ∧ i ≠ H.n + 1) (.agg [.int .i64 σ, .slice s, .int .i64 τ, .slice t]) (n * 10 ^ i) d → (dig 65536 (n * 10 ^ i).natAbs).length < 900000 + i → ∀ m, Big m →
      Tot (fun n => ref40_Scaled.l0 n (m n) (.int .i64 places) (.ptr (some (H.n, 0))) (.ptr (some (H.n + 1, 0))) (.int .i64 ii) H') Q := by
    intro j
    have hq : ∀ (G : Heap), H.n + 2 ≤ G.n → UpP G (fun i => P i ∧ i ≠ H.n ∧ i ≠ H.n + 1) := fun G hG i hi => ⟨hP i (by omega), by omega, by omega⟩
    induction j with
    | zero =>
      intro i ii H' σ τ s t hi hii k hn g0 g1 hk hz m hb
      subst hii
      refine ref40_Scaled.l0_tot hb fun m' hb' => ?_
      simp only [ref40_Scaled.l0_b]
      repeat (first | refine Tot.pure (by simp (disch := first | omega | (simp only [hn_push, hn_set, hn_more] <;> omega) | fail) [ld1_get, ldN_get, stA_get, boxA, gz, gs, Heap.get_push_ne, Heap.get_push_eq, Heap.get_set_ne, Heap.get_set_eq, get_more, hn_push, hn_set, hn_more, ]; try exact rfl) ?_ | refine Tot.chk (by simp (disch := first | omega | (simp only [hn_push, hn_set, hn_more] <;> omega) | fail) [ld1_get, ldN_get, stA_get, boxA, gz, gs, Heap.get_push_ne, Heap.get_push_eq, Heap.get_set_ne, Heap.get_set_eq, get_more, hn_push, hn_set, hn_more, ]; done) ?_ | fail)
      refine Tot.no (by simp; omega) ?_
      repeat (first | refine Tot.pure (by simp (disch := first | omega | (simp only [hn_push, hn_set, hn_more] <;> omega) | fail) [ld1_get, ldN_get, stA_get, boxA, gz, gs, Heap.get_push_ne, Heap.get_push_eq, Heap.get_set_ne, Heap.get_set_eq, get_more, hn_push, hn_set, hn_more, g0]; try exact rfl) ?_ | refine Tot.chk (by simp (disch := first | omega | (simp only [hn_push, hn_set, hn_more] <;> omega) | fail) [ld1_get, ldN_get, stA_get, boxA, gz, gs, Heap.get_push_ne, Heap.get_push_eq, Heap.get_set_ne, Heap.get_set_eq, get_more, hn_push, hn_set, hn_more, g0]; done) ?_ | fail)
      refine Tot.bind (r5_round (hq _ hn) hk (by omega) (by omega)) ?_
      rintro v H2 ⟨c2, i2⟩
      have n2 := c2.n; try simp only [hn_push, hn_set, hn_more] at n2
      obtain ⟨p2, q2, rfl, -⟩ := i2.shape
      have hip : i = places := by omega
      rw [hip] at i2
      dsimp only
      repeat (first | refine Tot.pure (by simp (disch := first | omega | (simp only [hn_push, hn_set, hn_more] <;> omega) | fail) [ld1_get, ldN_get, stA_get, boxA, gz, gs, Heap.get_push_ne, Heap.get_push_eq, Heap.get_set_ne, Heap.get_set_eq, get_more, hn_push, hn_set, hn_more, c2.g, g1]; try exact rfl) ?_ | refine Tot.chk (by simp (disch := first | omega | (simp only [hn_push, hn_set, hn_more] <;> omega) | fail) [ld1_get, ldN_get, stA_get, boxA, gz, gs, Heap.get_push_ne, Heap.get_push_eq, Heap.get_set_ne, Heap.get_set_eq, get_more, hn_push, hn_set, hn_more, c2.g, g1]; done) ?_ | fail)
      exact Tot.ret (hQ _ _ ⟨Keep.ext (Keep.set (k.call c2) (by omega)), (i2.keep (by (repeat (first | exact KeepP.refl | refine KeepP.call ?_ (by assumption) | refine KeepP.push ?_ | refine KeepP.more ?_ | refine KeepP.set ?_ (by first | (right; first | omega | (simp only [hn_push, hn_set, hn_more] <;> omega) | fail) | (left; simp; done) | fail))))).mono fun i _ hi => hi.1⟩)
    | succ j ih =>
      intro i ii H' σ τ s t hi hii k hn g0 g1 hk hz m hb
      subst hii
      refine ref40_Scaled.l0_tot hb fun m' hb' => ?_
      simp only [ref40_Scaled.l0_b]
      repeat (first | refine Tot.pure (by simp (disch := first | omega | (simp only [hn_push, hn_set, hn_more] <;> omega) | fail) [ld1_get, ldN_get, stA_get, boxA, gz, gs, Heap.get_push_ne, Heap.get_push_eq, Heap.get_set_ne, Heap.get_set_eq, get_more, hn_push, hn_set, hn_more, ]; try exact rfl) ?_ | refine Tot.chk (by simp (disch := first | omega | (simp only [hn_push, hn_set, hn_more] <;> omega) | fail) [ld1_get, ldN_get, stA_get, boxA, gz, gs, Heap.get_push_ne, Heap.get_push_eq, Heap.get_set_ne, Heap.get_set_eq, get_more, hn_push, hn_set, hn_more, ]; done) ?_ | fail)
      refine Tot.yes (by simp; omega) ?_
      refine Tot.bind (r5_long (z := 10) (hq _ (by simp only [hn_more]; omega)) (by omega)) ?_
      rintro v H2 ⟨c2, i2⟩
      have n2 := c2.n; try simp only [hn_push, hn_set, hn_more] at n2
      have i2' := i2
      obtain ⟨p2, q2, p3, q3, rfl, -⟩ := i2
      dsimp only
      repeat (first | refine Tot.pure (by simp (disch := first | omega | (simp only [hn_push, hn_set, hn_more] <;> omega) | fail) [ld1_get, ldN_get, stA_get, boxA, gz, gs, Heap.get_push_ne, Heap.get_push_eq, Heap.get_set_ne, Heap.get_set_eq, get_more, hn_push, hn_set, hn_more, c2.g, g0]; try exact rfl) ?_ | refine Tot.chk (by simp (disch := first | omega | (simp only [hn_push, hn_set, hn_more] <;> omega) | fail) [ld1_get, ldN_get, stA_get, boxA, gz, gs, Heap.get_push_ne, Heap.get_push_eq, Heap.get_set_ne, Heap.get_set_eq, get_more, hn_push, hn_set, hn_more, c2.g, g0]; done) ?_ | fail)
      refine Tot.bind (r5_mul (hq _ (by omega)) (hk.keep (by (repeat (first | exact KeepP.refl | refine KeepP.call ?_ (by assumption) | refine KeepP.push ?_ | refine KeepP.more ?_ | refine KeepP.set ?_ (by first | (right; first | omega | (simp only [hn_push, hn_set, hn_more] <;> omega) | fail) | (left; simp; done) | fail))))) i2' (by rw [show (10 : Int).natAbs = 10 from rfl, ten_rlen]; omega) (by rw [one_rlen]; omega)) ?_
      rintro v H3 ⟨c3, i3⟩
      have n3 := c3.n; try simp only [hn_push, hn_set, hn_more] at n3
      have i3' := i3
      obtain ⟨p4, q4, p5, q5, rfl, -⟩ := i3
      rw [Nat.mul_one, Int.mul_assoc, ← Int.pow_succ] at i3'
      have hz' : (dig 65536 (n * 10 ^ (i + 1)).natAbs).length < 900000 + (i + 1) := by
        have e := rsz_mul (x := (n * 10 ^ i).natAbs) (y := 10)
        have e2 : (n * 10 ^ (i + 1)).natAbs = (n * 10 ^ i).natAbs * 10 := by rw [Int.pow_succ, ← Int.mul_assoc, Int.natAbs_mul]; rfl
        rw [ten_rlen] at e
        rw [e2]; omega
      dsimp only
      repeat (first | refine Tot.pure (by simp (disch := first | omega | (simp only [hn_push, hn_set, hn_more] <;> omega) | fail) [ld1_get, ldN_get, stA_get, boxA, gz, gs, Heap.get_push_ne, Heap.get_push_eq, Heap.get_set_ne, Heap.get_set_eq, get_more, hn_push, hn_set, hn_more, c2.g, c3.g, g0]; try exact rfl) ?_ | refine Tot.chk (by simp (disch := first | omega | (simp only [hn_push, hn_set, hn_more] <;> omega) | fail) [ld1_get, ldN_get, stA_get, boxA, gz, gs, Heap.get_push_ne, Heap.get_push_eq, Heap.get_set_ne, Heap.get_set_eq, get_more, hn_push, hn_set, hn_more, c2.g, c3.g, g0]; done) ?_ | fail)
      refine ih (i + 1) _ _ p4 p5 q4 q5 (by omega) (by omega) (Keep.set ((k.call (Ch.more.t c2)).call c3) (by omega)) (by simp only [hn_set]; omega) (by rw [Heap.get_set_eq rfl]) (by rw [Heap.get_set_ne (by omega), c3.g (by omega), c2.g (by simp only [hn_more]; omega), get_more]; exact g1) (i3'.keep (by (repeat (first | exact KeepP.refl | refine KeepP.call ?_ (by assumption) | refine KeepP.push ?_ | refine KeepP.more ?_ | refine KeepP.set ?_ (by first | (right; first | omega | (simp only [hn_push, hn_set, hn_more] <;> omega) | fail) | (left; simp; done) | fail))))) hz' _ hb'
  refine lp places 0 _ _ σ τ s t (by omega) rfl (by (repeat (first | exact Keep.refl | refine Keep.call ?_ (by assumption) | refine Keep.push ?_ | refine Keep.more ?_ | refine Keep.set ?_ (by first | omega | (simp only [hn_push, hn_set, hn_more] <;> omega) | fail)))) (by simp) (by simp (disch := first | omega | (simp only [hn_push, hn_set, hn_more] <;> omega) | (simp <;> omega) | fail) [ld1_get, ldN_get, stA_get, faA_mk, boxA_agg, Heap.get_push_ne, Heap.get_push_eq, Heap.get_set_ne, Heap.get_set_eq, get_more, hn_push, hn_set, hn_more, chk_agg, ]) (by simp (disch := first | omega | (simp only [hn_push, hn_set, hn_more] <;> omega) | (simp <;> omega) | fail) [ld1_get, ldN_get, stA_get, faA_mk, boxA_agg, Heap.get_push_ne, Heap.get_push_eq, Heap.get_set_ne, Heap.get_set_eq, get_more, hn_push, hn_set, hn_more, chk_agg, ]) ?_ (by simpa using h1) _ Big.id
  rw [Int.pow_zero, Int.mul_one]
  exact (ha.mono fun i hi hp => ⟨hp, by omega, by omega⟩).keep (by (repeat (first | exact KeepP.refl | refine KeepP.call ?_ (by assumption) | refine KeepP.push ?_ | refine KeepP.more ?_ | refine KeepP.set ?_ (by first | (right; first | omega | (simp only [hn_push, hn_set, hn_more] <;> omega) | fail) | (left; simp; done) | fail))))

theorem drop_split {α : Type} {l : List α} {a b : Nat} (h : a ≤ b) (hb : b ≤ l.length) : l.drop a = (l.take b).drop a ++ l.drop b := by
  conv => lhs; rw [← List.take_append_drop b l]
  rw [List.drop_append_of_le_length (by simp; omega)]

/-- What the document's loop has written, so many letters from the end. -/
def half_fmt (D : List UInt8) (places i : Nat) : List UInt8 :=
  if places < i ∧ 0 < places then (D.take (D.length - places)).drop (D.length - i) ++ (46 :: D.drop (D.length - places)) else D.drop (D.length - i)

theorem half_step {D : List UInt8} {places i : Nat} {c : List UInt8} (hi : i < D.length) (hp : places < D.length) (hc : D.drop (D.length - 1 - i) = c ++ D.drop (D.length - i)) (hc1 : c.length = 1) :
    half_fmt D places (i + 1) = c ++ (if i = places ∧ 0 < places then 46 :: half_fmt D places i else half_fmt D places i) := by
  have e1 : D.length - (i + 1) = D.length - 1 - i := by omega
  have hcs : c = (D.take (D.length - i)).drop (D.length - 1 - i) := by
    have h1 := drop_split (l := D) (a := D.length - 1 - i) (b := D.length - i) (by omega) (by omega)
    rw [h1] at hc
    have := List.append_cancel_right hc
    exact this.symm
  unfold half_fmt
  by_cases h0 : 0 < places
  · rcases Nat.lt_trichotomy i places with h | h | h
    · rw [if_neg (by omega), if_neg (by omega), if_neg (by omega), e1, hc]
    · subst h
      rw [if_pos (by omega), if_pos ⟨rfl, h0⟩, if_neg (by omega), e1, ← hcs]
    · rw [if_pos (by omega), if_neg (by omega), if_pos (by omega), e1, ← List.append_assoc]
      congr 1
      have h2 := drop_split (l := D.take (D.length - places)) (a := D.length - 1 - i) (b := D.length - i) (by omega) (by simp; omega)
      rw [h2, List.take_take, Nat.min_eq_left (by omega), ← hcs]
  · rw [if_neg (by omega), if_neg (by omega), if_neg (by omega), e1, hc]

theorem half_len {D : List UInt8} {places i : Nat} : (half_fmt D places i).length ≤ D.length + D.length + 1 := by
  unfold half_fmt; split <;> simp <;> omega
theorem dec_lenr {x m : Nat} (h : (dig 65536 x).length ≤ m) (hm : 0 < m) : (dec x).length ≤ 10 * m := by
  have h1 := dig_len_lt (b := 65536) (x := x) (by decide)
  have h2 : 65536 ^ (dig 65536 x).length ≤ 4294967296 ^ m := Nat.le_trans (Nat.pow_le_pow_left (m := 4294967296) (by decide) _) (Nat.pow_le_pow_right (by decide) h)
  have := dec_len (Nat.lt_of_lt_of_le h1 h2) hm
  omega
theorem dec_pos {x : Nat} : 0 < (dec x).length := by
  unfold dec; split
  · simp
  · rename_i h
    simp only [List.length_map, List.length_reverse, lets_len]
    rcases Nat.eq_zero_or_pos (dig 10 x).length with e | e
    · exact (h ((dig_eq_nil (by decide)).1 (List.eq_nil_of_length_eq_zero e))).elim
    · exact e

set_option maxHeartbeats 1000000 in
theorem r40_decimal {H : Heap} {P : Nat → Prop} {v : V} {n : Int} {d places : Nat} (hP : UpP H P) (h : isK H P v n d) (hp : places ≤ 30) (h1 : (dig 65536 n.natAbs).length < 900000) (h2 : (dig 65536 d).length < 900000) (hz : (dig 65536 (rnd (n * 10 ^ places) d).natAbs).length < 1000000) :
    Tot (fun n => f_ref40_Decimal n [v, .int .i64 places] H) fun v H' => Ext0 H H' ∧ v = .str (fmt (rnd (n * 10 ^ places) d) places) := by
  have ha := h
  obtain ⟨σ, s, τ, t, rfl, -, -, hd⟩ := h
  refine Tot.of fun Q hQ => ?_
  refine ref40_Decimal_tot ?_
  simp only [ref40_Decimal_b]
  repeat (first | refine Tot.pure (by simp (disch := first | omega | (simp only [hn_push, hn_set, hn_more] <;> omega) | fail) [ld1_get, ldN_get, stA_get, boxA, gz, gs, Heap.get_push_ne, Heap.get_push_eq, Heap.get_set_ne, Heap.get_set_eq, get_more, hn_push, hn_set, hn_more, ]; try exact rfl) ?_ | refine Tot.chk (by simp (disch := first | omega | (simp only [hn_push, hn_set, hn_more] <;> omega) | fail) [ld1_get, ldN_get, stA_get, boxA, gz, gs, Heap.get_push_ne, Heap.get_push_eq, Heap.get_set_ne, Heap.get_set_eq, get_more, hn_push, hn_set, hn_more, ]; done) ?_ | fail)
  refine Tot.bind (r40_scaled (P := P) (fun i hi => hP i (by simp at hi; omega)) (ha.keep (by (repeat (first | exact KeepP.refl | refine KeepP.call ?_ (by assumption) | refine KeepP.push ?_ | refine KeepP.more ?_ | refine KeepP.set ?_ (by first | (right; first | omega | (simp only [hn_push, hn_set, hn_more] <;> omega) | fail) | (left; simp; done) | fail))))) hp h1 h2) ?_
  rintro v H1 ⟨c1, i1⟩
  have n1 := c1.n; try simp only [hn_push, hn_set, hn_more] at n1
  obtain ⟨z, hze⟩ : ∃ z, z = rnd (n * 10 ^ places) d := ⟨_, rfl⟩
  rw [← hze] at i1 hz hQ
  obtain ⟨p1, q1, rfl, hp1, r1, f1⟩ := i1.shape
  dsimp only
  repeat (first | refine Tot.pure (by simp (disch := first | omega | (simp only [hn_push, hn_set, hn_more] <;> omega) | fail) [ld1_get, ldN_get, stA_get, boxA, gz, gs, Heap.get_push_ne, Heap.get_push_eq, Heap.get_set_ne, Heap.get_set_eq, get_more, hn_push, hn_set, hn_more, c1.g]; try exact rfl) ?_ | refine Tot.chk (by simp (disch := first | omega | (simp only [hn_push, hn_set, hn_more] <;> omega) | fail) [ld1_get, ldN_get, stA_get, boxA, gz, gs, Heap.get_push_ne, Heap.get_push_eq, Heap.get_set_ne, Heap.get_set_eq, get_more, hn_push, hn_set, hn_more, c1.g]; done) ?_ | fail)
  refine Tot.bind (r_show (r1.keep Fr.zero (by (repeat (first | exact Keep.refl | refine Keep.call ?_ (by assumption) | refine Keep.push ?_ | refine Keep.more ?_ | refine Keep.set ?_ (by first | omega | (simp only [hn_push, hn_set, hn_more] <;> omega) | fail))))) (by omega)) ?_
  rintro v H2 ⟨c2, rfl⟩
  have n2 := c2.n; try simp only [hn_push, hn_set, hn_more] at n2
  dsimp only
  have g2 : H2.get H1.n = .cells [.int .i64 p1, .slice q1] ty_ref04_Int false := by rw [c2.g (by simp), Heap.get_set_eq rfl]
  have hL0 := dec_pos (x := z.natAbs)
  have hLm : (dec z.natAbs).length < 100000000 := by
    have := dec_lenr (m := 1000000) (Nat.le_of_lt hz) (by decide)
    omega
  obtain ⟨D, hD⟩ : ∃ D, D = List.replicate (places + 1 - (dec z.natAbs).length) 48 ++ dec z.natAbs := ⟨_, rfl⟩
  have hDl : D.length = places + 1 - (dec z.natAbs).length + (dec z.natAbs).length := by rw [hD]; simp
  have hfin : half_fmt D places D.length = (if 0 < places then D.take (D.length - places) ++ [46] ++ D.drop (D.length - places) else D) := by
    unfold half_fmt
    rw [Nat.sub_self, List.drop_zero]
    by_cases h0 : 0 < places
    · rw [if_pos (by omega), if_pos h0]; simp
    · rw [if_neg (by omega), if_neg h0]; simp
  have hfmt : fmt z places = if z < 0 then 45 :: half_fmt D places D.length else half_fmt D places D.length := by
    rw [hfin, hD]; rfl
  obtain ⟨L, hL⟩ : ∃ L, L = (dec z.natAbs).length := ⟨_, rfl⟩
  rw [← hL] at hDl hL0 hLm
  have hat1 : ∀ i, i < L → D.drop (D.length - 1 - i) = ((dec z.natAbs).take (L - i)).drop (L - 1 - i) ++ D.drop (D.length - i) := by
    intro i hi
    rw [hDl, hD, List.drop_append, List.drop_append]
    simp only [List.length_replicate, ← hL]
    rw [List.drop_of_length_le (by simp; omega), List.drop_of_length_le (l := List.replicate _ _) (by simp; omega), List.nil_append, List.nil_append,
      show places + 1 - L + L - 1 - i - (places + 1 - L) = L - 1 - i by omega, show places + 1 - L + L - i - (places + 1 - L) = L - i by omega]
    exact drop_split (by omega) (by omega)
  have hat2 : ∀ i, L ≤ i → i < D.length → D.drop (D.length - 1 - i) = [48] ++ D.drop (D.length - i) := by
    intro i hi hi2
    rw [hDl, hD, List.drop_append_of_le_length (by simp; omega), List.drop_append_of_le_length (by simp; omega), List.drop_replicate, List.drop_replicate, ← hL,
      show places + 1 - L - (places + 1 - L + L - 1 - i) = (i - L) + 1 by omega, show places + 1 - L - (places + 1 - L + L - i) = i - L by omega, List.replicate_succ]
    rfl
  have dl : ∀ (j i : Nat) (ii : Int), i + j = D.length → ii = (i : Int) → ∀ m, Big m → Tot (fun n => ref40_Decimal.l0 n (m n) (.int .i64 places) (.ptr (some (H1.n, 0))) (.str (half_fmt D places i)) (.str (dec z.natAbs)) (.int .i64 ii) H2) Q := by
    intro j
    induction j with
    | zero =>
      intro i ii hi hii m hb
      subst hii
      refine ref40_Decimal.l0_tot hb fun m' hb' => ?_
      simp only [ref40_Decimal.l0_b]
      repeat (first | refine Tot.pure (by simp (disch := first | omega | (simp only [hn_push, hn_set, hn_more] <;> omega) | fail) [ld1_get, ldN_get, stA_get, boxA, gz, gs, Heap.get_push_ne, Heap.get_push_eq, Heap.get_set_ne, Heap.get_set_eq, get_more, hn_push, hn_set, hn_more, len_str, ← hL]; try exact rfl) ?_ | refine Tot.chk (by simp (disch := first | omega | (simp only [hn_push, hn_set, hn_more] <;> omega) | fail) [ld1_get, ldN_get, stA_get, boxA, gz, gs, Heap.get_push_ne, Heap.get_push_eq, Heap.get_set_ne, Heap.get_set_eq, get_more, hn_push, hn_set, hn_more, len_str, ← hL]; done) ?_ | fail)
      refine Tot.no (by simp; omega) ?_
      repeat (first | refine Tot.pure (by simp (disch := first | omega | (simp only [hn_push, hn_set, hn_more] <;> omega) | fail) [ld1_get, ldN_get, stA_get, boxA, gz, gs, Heap.get_push_ne, Heap.get_push_eq, Heap.get_set_ne, Heap.get_set_eq, get_more, hn_push, hn_set, hn_more, ]; try exact rfl) ?_ | refine Tot.chk (by simp (disch := first | omega | (simp only [hn_push, hn_set, hn_more] <;> omega) | fail) [ld1_get, ldN_get, stA_get, boxA, gz, gs, Heap.get_push_ne, Heap.get_push_eq, Heap.get_set_ne, Heap.get_set_eq, get_more, hn_push, hn_set, hn_more, ]; done) ?_ | fail)
      refine Tot.no (by simp; omega) ?_
      refine ref40_Decimal.p2_tot ?_
      simp only [ref40_Decimal.p2_b]
      repeat (first | refine Tot.pure (by simp (disch := first | omega | (simp only [hn_push, hn_set, hn_more] <;> omega) | fail) [ld1_get, ldN_get, stA_get, boxA, gz, gs, Heap.get_push_ne, Heap.get_push_eq, Heap.get_set_ne, Heap.get_set_eq, get_more, hn_push, hn_set, hn_more, g2]; try exact rfl) ?_ | refine Tot.chk (by simp (disch := first | omega | (simp only [hn_push, hn_set, hn_more] <;> omega) | fail) [ld1_get, ldN_get, stA_get, boxA, gz, gs, Heap.get_push_ne, Heap.get_push_eq, Heap.get_set_ne, Heap.get_set_eq, get_more, hn_push, hn_set, hn_more, g2]; done) ?_ | fail)
      have hil : i = D.length := by omega
      subst hil
      have sz := sign_cases z
      rw [← hp1] at sz
      refine Tot.ite (fun h3 => ?_) (fun h3 => ?_)
      · have h3' := of_decide_eq_true h3
        have hcc := ar_cat (a := [45]) (b := half_fmt D places D.length) (by have := half_len (D := D) (places := places) (i := D.length); simp; omega)
        repeat (first | refine Tot.pure (by simp (disch := first | omega | (simp only [hn_push, hn_set, hn_more] <;> omega) | fail) [ld1_get, ldN_get, stA_get, boxA, gz, gs, Heap.get_push_ne, Heap.get_push_eq, Heap.get_set_ne, Heap.get_set_eq, get_more, hn_push, hn_set, hn_more, hcc]; try exact rfl) ?_ | refine Tot.chk (by simp (disch := first | omega | (simp only [hn_push, hn_set, hn_more] <;> omega) | fail) [ld1_get, ldN_get, stA_get, boxA, gz, gs, Heap.get_push_ne, Heap.get_push_eq, Heap.get_set_ne, Heap.get_set_eq, get_more, hn_push, hn_set, hn_more, hcc]; done) ?_ | fail)
        exact Tot.ret (hQ _ _ ⟨Keep.ext (by (repeat (first | exact Keep.refl | refine Keep.call ?_ (by assumption) | refine Keep.push ?_ | refine Keep.more ?_ | refine Keep.set ?_ (by first | omega | (simp only [hn_push, hn_set, hn_more] <;> omega) | fail)))), by rw [hfmt, if_pos (by omega)]⟩)
      · have h3' : ¬ p1 < 0 := by simpa using h3
        exact Tot.ret (hQ _ _ ⟨Keep.ext (by (repeat (first | exact Keep.refl | refine Keep.call ?_ (by assumption) | refine Keep.push ?_ | refine Keep.more ?_ | refine Keep.set ?_ (by first | omega | (simp only [hn_push, hn_set, hn_more] <;> omega) | fail)))), by rw [hfmt, if_neg (by omega)]⟩)
    | succ j ih =>
      intro i ii hi hii m hb
      subst hii
      have hhl := half_len (D := D) (places := places) (i := i)
      -- the digit
      have p1' : ∀ (m' : Nat → Nat), Big m' → ∀ w : List UInt8, w = (if i = places ∧ 0 < places then 46 :: half_fmt D places i else half_fmt D places i) → Tot (fun n => ref40_Decimal.p1 n (m' n) (.int .i64 places) (.ptr (some (H1.n, 0))) (.str w) (.str (dec z.natAbs)) (.int .i64 i) H2) Q := by
        intro m' hb' w hw
        have hwl : w.length ≤ D.length + D.length + 2 := by rw [hw]; split <;> (try rw [List.length_cons]) <;> omega
        refine ref40_Decimal.p1_tot ?_
        simp only [ref40_Decimal.p1_b]
        repeat (first | refine Tot.pure (by simp (disch := first | omega | (simp only [hn_push, hn_set, hn_more] <;> omega) | fail) [ld1_get, ldN_get, stA_get, boxA, gz, gs, Heap.get_push_ne, Heap.get_push_eq, Heap.get_set_ne, Heap.get_set_eq, get_more, hn_push, hn_set, hn_more, len_str, ← hL]; try exact rfl) ?_ | refine Tot.chk (by simp (disch := first | omega | (simp only [hn_push, hn_set, hn_more] <;> omega) | fail) [ld1_get, ldN_get, stA_get, boxA, gz, gs, Heap.get_push_ne, Heap.get_push_eq, Heap.get_set_ne, Heap.get_set_eq, get_more, hn_push, hn_set, hn_more, len_str, ← hL]; done) ?_ | fail)
        refine Tot.ite (fun h4 => ?_) (fun h4 => ?_)
        · have h4' := of_decide_eq_true h4
          have hsl : slStr (.str (dec z.natAbs)) (some (.int .i64 ((L : Int) - 1 - i))) (some (.int .i64 ((L : Int) - i))) = some (.str (((dec z.natAbs).take (L - i)).drop (L - 1 - i))) := by
            have b1 : bndA 0 (some (.int .i64 ((L : Int) - 1 - i))) = some (L - 1 - i) := by rw [bndA_int (by omega)]; congr 1; omega
            have b2 : bndA (dec z.natAbs).length (some (.int .i64 ((L : Int) - i))) = some (L - i) := by rw [bndA_int (by omega)]; congr 1; omega
            simp only [slStr, b1, b2, Option.bind_some]
            rw [if_pos (by omega)]
          have hcl : (((dec z.natAbs).take (L - i)).drop (L - 1 - i)).length = 1 := by simp; omega
          have hcc := ar_cat (a := ((dec z.natAbs).take (L - i)).drop (L - 1 - i)) (b := w) (by rw [hcl]; omega)
          repeat (first | refine Tot.pure (by simp (disch := first | omega | (simp only [hn_push, hn_set, hn_more] <;> omega) | fail) [ld1_get, ldN_get, stA_get, boxA, gz, gs, Heap.get_push_ne, Heap.get_push_eq, Heap.get_set_ne, Heap.get_set_eq, get_more, hn_push, hn_set, hn_more, len_str, ← hL, hsl, hcc]; try exact rfl) ?_ | refine Tot.chk (by simp (disch := first | omega | (simp only [hn_push, hn_set, hn_more] <;> omega) | fail) [ld1_get, ldN_get, stA_get, boxA, gz, gs, Heap.get_push_ne, Heap.get_push_eq, Heap.get_set_ne, Heap.get_set_eq, get_more, hn_push, hn_set, hn_more, len_str, ← hL, hsl, hcc]; done) ?_ | fail)
          have := ih (i + 1) ((i : Int) + 1) (by omega) (by omega) m' hb'
          rw [half_step (by omega) (by omega) (hat1 i (by omega)) hcl, ← hw] at this
          exact this
        · have h4' : ¬ (i : Int) < L := by simpa using h4
          have hcc := ar_cat (a := [48]) (b := w) (by simp; omega)
          repeat (first | refine Tot.pure (by simp (disch := first | omega | (simp only [hn_push, hn_set, hn_more] <;> omega) | fail) [ld1_get, ldN_get, stA_get, boxA, gz, gs, Heap.get_push_ne, Heap.get_push_eq, Heap.get_set_ne, Heap.get_set_eq, get_more, hn_push, hn_set, hn_more, hcc]; try exact rfl) ?_ | refine Tot.chk (by simp (disch := first | omega | (simp only [hn_push, hn_set, hn_more] <;> omega) | fail) [ld1_get, ldN_get, stA_get, boxA, gz, gs, Heap.get_push_ne, Heap.get_push_eq, Heap.get_set_ne, Heap.get_set_eq, get_more, hn_push, hn_set, hn_more, hcc]; done) ?_ | fail)
          have := ih (i + 1) ((i : Int) + 1) (by omega) (by omega) m' hb'
          rw [half_step (by omega) (by omega) (hat2 i (by omega) (by omega)) rfl, ← hw] at this
          exact this
      have pt : ∀ (m' : Nat → Nat), Big m' → Tot (fun n => if (decide (i = places)) = true then (bnd (arA .gtr (.int .i64 (places : Int)) (.int .i64 0)) fun t32 => bnd (asB t32) fun b7 => if b7 = true then (bnd (arA .add (.str [46]) (.str (half_fmt D places i))) fun t35 => ref40_Decimal.p1 n (m' n) (.int .i64 places) (.ptr (some (H1.n, 0))) t35 (.str (dec z.natAbs)) (.int .i64 i) H2)
          else ref40_Decimal.p1 n (m' n) (.int .i64 places) (.ptr (some (H1.n, 0))) (.str (half_fmt D places i)) (.str (dec z.natAbs)) (.int .i64 i) H2) else ref40_Decimal.p1 n (m' n) (.int .i64 places) (.ptr (some (H1.n, 0))) (.str (half_fmt D places i)) (.str (dec z.natAbs)) (.int .i64 i) H2) Q := by
        intro m' hb'
        refine Tot.ite (fun h5 => ?_) (fun h5 => ?_)
        · have h5' := of_decide_eq_true h5
          repeat (first | refine Tot.pure (by simp (disch := first | omega | (simp only [hn_push, hn_set, hn_more] <;> omega) | fail) [ld1_get, ldN_get, stA_get, boxA, gz, gs, Heap.get_push_ne, Heap.get_push_eq, Heap.get_set_ne, Heap.get_set_eq, get_more, hn_push, hn_set, hn_more, ]; try exact rfl) ?_ | refine Tot.chk (by simp (disch := first | omega | (simp only [hn_push, hn_set, hn_more] <;> omega) | fail) [ld1_get, ldN_get, stA_get, boxA, gz, gs, Heap.get_push_ne, Heap.get_push_eq, Heap.get_set_ne, Heap.get_set_eq, get_more, hn_push, hn_set, hn_more, ]; done) ?_ | fail)
          refine Tot.ite (fun h6 => ?_) (fun h6 => ?_)
          · have h6' := of_decide_eq_true h6
            have hcc := ar_cat (a := [46]) (b := half_fmt D places i) (by simp; omega)
            repeat (first | refine Tot.pure (by simp (disch := first | omega | (simp only [hn_push, hn_set, hn_more] <;> omega) | fail) [ld1_get, ldN_get, stA_get, boxA, gz, gs, Heap.get_push_ne, Heap.get_push_eq, Heap.get_set_ne, Heap.get_set_eq, get_more, hn_push, hn_set, hn_more, hcc]; try exact rfl) ?_ | refine Tot.chk (by simp (disch := first | omega | (simp only [hn_push, hn_set, hn_more] <;> omega) | fail) [ld1_get, ldN_get, stA_get, boxA, gz, gs, Heap.get_push_ne, Heap.get_push_eq, Heap.get_set_ne, Heap.get_set_eq, get_more, hn_push, hn_set, hn_more, hcc]; done) ?_ | fail)
            exact p1' m' hb' _ (by rw [if_pos ⟨h5', by omega⟩])
          · have h6' : ¬ (0 : Int) < places := by simpa using h6
            exact p1' m' hb' _ (by rw [if_neg (by omega)])
        · have h5' : ¬ i = places := by simpa using h5
          exact p1' m' hb' _ (by rw [if_neg (by omega)])
      refine ref40_Decimal.l0_tot hb fun m' hb' => ?_
      simp only [ref40_Decimal.l0_b]
      have hie : arA .eql (.int .i64 (i : Int)) (.int .i64 (places : Int)) = some (.bool (decide (i = places))) := by
        rw [ar_eql]; congr 3; exact propext Int.natCast_inj
      repeat (first | refine Tot.pure (by simp (disch := first | omega | (simp only [hn_push, hn_set, hn_more] <;> omega) | fail) [ld1_get, ldN_get, stA_get, boxA, gz, gs, Heap.get_push_ne, Heap.get_push_eq, Heap.get_set_ne, Heap.get_set_eq, get_more, hn_push, hn_set, hn_more, len_str, ← hL]; try exact rfl) ?_ | refine Tot.chk (by simp (disch := first | omega | (simp only [hn_push, hn_set, hn_more] <;> omega) | fail) [ld1_get, ldN_get, stA_get, boxA, gz, gs, Heap.get_push_ne, Heap.get_push_eq, Heap.get_set_ne, Heap.get_set_eq, get_more, hn_push, hn_set, hn_more, len_str, ← hL]; done) ?_ | fail)
      refine Tot.ite (fun h4 => ?_) (fun h4 => ?_)
      · refine Tot.pure (by simp (disch := first | omega | (simp only [hn_push, hn_set, hn_more] <;> omega) | fail) [ld1_get, ldN_get, stA_get, boxA, gz, gs, Heap.get_push_ne, Heap.get_push_eq, Heap.get_set_ne, Heap.get_set_eq, get_more, hn_push, hn_set, hn_more, hie]; try exact rfl) ?_
        refine Tot.pure (by simp (disch := first | omega | (simp only [hn_push, hn_set, hn_more] <;> omega) | fail) [ld1_get, ldN_get, stA_get, boxA, gz, gs, Heap.get_push_ne, Heap.get_push_eq, Heap.get_set_ne, Heap.get_set_eq, get_more, hn_push, hn_set, hn_more, ]; try exact rfl) ?_
        exact pt m' hb'
      · have h4' : ¬ (i : Int) < L := by simpa using h4
        repeat (first | refine Tot.pure (by simp (disch := first | omega | (simp only [hn_push, hn_set, hn_more] <;> omega) | fail) [ld1_get, ldN_get, stA_get, boxA, gz, gs, Heap.get_push_ne, Heap.get_push_eq, Heap.get_set_ne, Heap.get_set_eq, get_more, hn_push, hn_set, hn_more, ]; try exact rfl) ?_ | refine Tot.chk (by simp (disch := first | omega | (simp only [hn_push, hn_set, hn_more] <;> omega) | fail) [ld1_get, ldN_get, stA_get, boxA, gz, gs, Heap.get_push_ne, Heap.get_push_eq, Heap.get_set_ne, Heap.get_set_eq, get_more, hn_push, hn_set, hn_more, ]; done) ?_ | fail)
        refine Tot.yes (by simp; omega) ?_
        refine Tot.pure (by simp (disch := first | omega | (simp only [hn_push, hn_set, hn_more] <;> omega) | fail) [ld1_get, ldN_get, stA_get, boxA, gz, gs, Heap.get_push_ne, Heap.get_push_eq, Heap.get_set_ne, Heap.get_set_eq, get_more, hn_push, hn_set, hn_more, hie]; try exact rfl) ?_
        refine Tot.pure (by simp (disch := first | omega | (simp only [hn_push, hn_set, hn_more] <;> omega) | fail) [ld1_get, ldN_get, stA_get, boxA, gz, gs, Heap.get_push_ne, Heap.get_push_eq, Heap.get_set_ne, Heap.get_set_eq, get_more, hn_push, hn_set, hn_more, ]; try exact rfl) ?_
        exact pt m' hb'
  have h00 : half_fmt D places 0 = [] := by
    unfold half_fmt; rw [if_neg (by omega)]; simp
  have := dl D.length 0 0 (by omega) rfl _ Big.id
  rw [h00] at this
  exact this
end Go.AM
end

section
set_option linter.unusedVariables false
set_option linter.unusedSimpArgs false
/- What the law's own functions give: short, lives, SvgDecimals. -/
set_option linter.unusedSimpArgs false
set_option linter.unusedVariables false
namespace Go.AM
attribute [local congr] bnd_weak ite_weak

theorem Own.put {H : Heap} {k : IntKind} {e i : Nat} {l : List Nat} (h : i < H.n) : Own (H.set i (.cells (nums k l) e false)) k e ⟨some (i, 0), l.length, 1, false⟩ l :=
  .inr ⟨i, rfl, by simpa using h, Heap.get_set_eq rfl⟩

set_option maxHeartbeats 1000000 in
theorem law_short {H : Heap} {v : V} {n : Int} {d N : Nat} (h : rawR H v n d N) :
    Tot (fun n => f_law40_short n [v] H) fun v H' => Ext0 H H' ∧ ∃ n' d', ∀ G, Ch (fun i => i < H.n) H' G → rawR G v n' d' 4 := by
  obtain ⟨b, s, t, l, lt, rfl, r1, r2, hL, hL', hl, hl', rfl, rfl⟩ := h
  refine Tot.of fun Q hQ => ?_
  refine law40_short_tot ?_
  simp only [law40_short_b]
  have hb0 : bSl 1 ty_uint32 [.int .u32 0] 0 [] = some (.cells (nums .u32 []) ty_uint32 false) := by simp [bSl, rowA, fillA, V.one]
  repeat (first | refine Tot.pure (by simp (disch := first | omega | (simp only [hn_push, hn_set, hn_more] <;> omega) | fail) [ld1_get, ldN_get, stA_get, boxA, gz, gs, Heap.get_push_ne, Heap.get_push_eq, Heap.get_set_ne, Heap.get_set_eq, get_more, hn_push, hn_set, hn_more, r1.lenSl, r2.lenSl]; try exact rfl) ?_ | refine Tot.chk (by simp (disch := first | omega | (simp only [hn_push, hn_set, hn_more] <;> omega) | fail) [ld1_get, ldN_get, stA_get, boxA, gz, gs, Heap.get_push_ne, Heap.get_push_eq, Heap.get_set_ne, Heap.get_set_eq, get_more, hn_push, hn_set, hn_more, r1.lenSl, r2.lenSl]; done) ?_ | fail)
  -- the second part
  have q1 : ∀ (G : Heap) (s' t' : Sl) (k1 k2 : List Nat), Keep 0 H G → H.n + 2 ≤ G.n → G.get H.n = .cells [.bool b, .slice s, .slice t] ty_api_Rat false → G.get (H.n + 1) = .cells [.bool false, .slice ⟨none, 0, 0, false⟩, .slice ⟨none, 0, 0, false⟩] ty_api_Rat false →
      Row G .u32 s' k1 → Row G .u32 t' k2 → k1.length ≤ 4 → k2.length ≤ 4 → Lim 4294967296 k1 → Lim 4294967296 k2 →
      Tot (fun n => law40_short.p1 n (.ptr (some (H.n, 0))) (.ptr (some (H.n + 1, 0))) (.slice s') (.slice t') G) Q := by
    intro G s' t' k1 k2 hk hn g0 g1 w1 w2 z1 z2 u1 u2
    refine law40_short.p1_tot ?_
    simp only [law40_short.p1_b]
    refine Tot.pure hb0 ?_
    have o1 : Own ((G.more 2).set (G.n + 0) (.cells (nums .u32 []) ty_uint32 false)) .u32 ty_uint32 ⟨some (G.n + 0, 0), 0, 1, false⟩ [] := Own.put (by simp)
    have cA : Ext0 G ((G.more 2).set (G.n + 0) (.cells (nums .u32 []) ty_uint32 false)) := Keep.ext (by (repeat (first | exact Keep.refl | refine Keep.call ?_ (by assumption) | refine Keep.push ?_ | refine Keep.more ?_ | refine Keep.set ?_ (by first | omega | (simp only [hn_push, hn_set, hn_more] <;> omega) | fail))))
    obtain ⟨s1, H1, a1, b1, c1, d1⟩ := appA_own (by_ := 4) o1 (w1.ext cA).src (by simp; omega) (by decide)
    refine Tot.pure a1 ?_
    refine Tot.pure hb0 ?_
    have c1' : Ext0 G H1 := by
      have := (cA.trans c1 (Y := (Sl.mk (some (G.n + 0, 0)) 0 1 false).has) fun i hi hx => by rw [has_mk] at hx; omega)
      exact this
    have n1 := c1.n
    simp only [hn_set, hn_more] at n1
    have o2 : Own (H1.set (G.n + 1) (.cells (nums .u32 []) ty_uint32 false)) .u32 ty_uint32 ⟨some (G.n + 1, 0), 0, 1, false⟩ [] := Own.put (by omega)
    have cB : Ext0 G (H1.set (G.n + 1) (.cells (nums .u32 []) ty_uint32 false)) := (c1'.trans (Y := fun i => i = G.n + 1) (Ch.set rfl) fun i hi hx => by omega)
    obtain ⟨s2, H2, a2, b2, c2, d2⟩ := appA_own (by_ := 4) o2 (w2.ext cB).src (by simp; omega) (by decide)
    dsimp only
    refine Tot.pure a2 ?_
    have c2' : Ext0 G H2 := cB.trans c2 fun i hi hx => by rw [has_mk] at hx; omega
    have n2 := c2.n
    simp only [hn_set] at n2
    have x0 := c1'.get H.n (by omega) (fun f => f)
    have x1 := c2'.get H.n (by omega) (fun f => f)
    have y1 := c2'.get (H.n + 1) (by omega) (fun f => f)
    rw [g0] at x0 x1
    rw [g1] at y1
    dsimp only
    have hs1 : ∀ i, s1.has i → i ≠ G.n + 1 := by
      intro i hi
      rcases d1 i hi with h | h
      · rw [has_mk] at h; omega
      · simp at h; omega
    repeat (first | refine Tot.pure (by simp (disch := first | omega | (simp only [hn_push, hn_set, hn_more] <;> omega) | fail) [ld1_get, ldN_get, stA_get, boxA, gz, gs, Heap.get_push_ne, Heap.get_push_eq, Heap.get_set_ne, Heap.get_set_eq, get_more, hn_push, hn_set, hn_more, x0, x1, y1, g0, faA_mk]; try exact rfl) ?_ | refine Tot.chk (by simp (disch := first | omega | (simp only [hn_push, hn_set, hn_more] <;> omega) | fail) [ld1_get, ldN_get, stA_get, boxA, gz, gs, Heap.get_push_ne, Heap.get_push_eq, Heap.get_set_ne, Heap.get_set_eq, get_more, hn_push, hn_set, hn_more, x0, x1, y1, g0, faA_mk]; done) ?_ | fail)
    have fin : Ext0 H (H2.set (H.n + 1) (.cells [.bool b, .slice s1, .slice s2] ty_api_Rat false)) := Keep.ext (Keep.set (hk.call c2') (by omega))
    refine Tot.ret (hQ _ _ ⟨fin, _, _, fun F cF => ⟨b, s1, s2, k1, k2, rfl, ?_, ?_, u1, u2, z1, z2, rfl, rfl⟩⟩)
    · have e1 : Row H2 .u32 s1 ([] ++ k1) := ((b1.ch (X := fun i => i = G.n + 1) (Ch.set rfl) hs1).ch c2 fun i hi hx => hs1 i hi (has_mk.1 hx)).row
      have hf : ∀ i, s1.has i → H.n + 2 ≤ i := by
        intro i hi
        rcases d1 i hi with h | h
        · rw [has_mk] at h; omega
        · simp at h; omega
      exact (e1.ch (X := fun i => i = H.n + 1) (Ch.set rfl) fun i hi hx => by have := hf i hi; omega).ch cF fun i hi hx => by have := hf i hi; omega
    · have e2 : Row H2 .u32 s2 ([] ++ k2) := b2.row
      have hf : ∀ i, s2.has i → H.n + 2 ≤ i := by
        intro i hi
        rcases d2 i hi with h | h
        · rw [has_mk] at h; omega
        · simp at h; omega
      exact (e2.ch (X := fun i => i = H.n + 1) (Ch.set rfl) fun i hi hx => by have := hf i hi; omega).ch cF fun i hi hx => by have := hf i hi; omega
  have hpush : ∀ (x : O), H.n + 1 = (H.push x).n := fun _ => rfl
  have q0 : ∀ (G : Heap) (s' : Sl) (k1 : List Nat), Keep 0 H G → H.n + 2 ≤ G.n → G.get H.n = .cells [.bool b, .slice s, .slice t] ty_api_Rat false → G.get (H.n + 1) = .cells [.bool false, .slice ⟨none, 0, 0, false⟩, .slice ⟨none, 0, 0, false⟩] ty_api_Rat false →
      Row G .u32 s' k1 → k1.length ≤ 4 → Lim 4294967296 k1 →
      Tot (fun n => law40_short.p0 n (.ptr (some (H.n, 0))) (.ptr (some (H.n + 1, 0))) (.slice s') (.slice t) G) Q := by
    intro G s' k1 hk hn g0 g1 w1 z1 u1
    refine law40_short.p0_tot ?_
    simp only [law40_short.p0_b]
    have w2 := r2.keep Fr.zero hk
    repeat (first | refine Tot.pure (by simp (disch := first | omega | (simp only [hn_push, hn_set, hn_more] <;> omega) | fail) [ld1_get, ldN_get, stA_get, boxA, gz, gs, Heap.get_push_ne, Heap.get_push_eq, Heap.get_set_ne, Heap.get_set_eq, get_more, hn_push, hn_set, hn_more, w2.lenSl]; try exact rfl) ?_ | refine Tot.chk (by simp (disch := first | omega | (simp only [hn_push, hn_set, hn_more] <;> omega) | fail) [ld1_get, ldN_get, stA_get, boxA, gz, gs, Heap.get_push_ne, Heap.get_push_eq, Heap.get_set_ne, Heap.get_set_eq, get_more, hn_push, hn_set, hn_more, w2.lenSl]; done) ?_ | fail)
    refine Tot.ite (fun h1 => ?_) (fun h1 => ?_)
    · have h1' := of_decide_eq_true h1
      repeat (first | refine Tot.pure (by simp (disch := first | omega | (simp only [hn_push, hn_set, hn_more] <;> omega) | fail) [ld1_get, ldN_get, stA_get, boxA, gz, gs, Heap.get_push_ne, Heap.get_push_eq, Heap.get_set_ne, Heap.get_set_eq, get_more, hn_push, hn_set, hn_more, w2.slice (lo := none) (hi := some (.int .i64 4)) (a := 0) (b := 4) rfl (bndA_int (by decide)) (by decide) (by omega)]; try exact rfl) ?_ | refine Tot.chk (by simp (disch := first | omega | (simp only [hn_push, hn_set, hn_more] <;> omega) | fail) [ld1_get, ldN_get, stA_get, boxA, gz, gs, Heap.get_push_ne, Heap.get_push_eq, Heap.get_set_ne, Heap.get_set_eq, get_more, hn_push, hn_set, hn_more, w2.slice (lo := none) (hi := some (.int .i64 4)) (a := 0) (b := 4) rfl (bndA_int (by decide)) (by decide) (by omega)]; done) ?_ | fail)
      have w3 := w2.sub (lo := 0) (hi := 4) (by decide) (by omega)
      exact q1 _ _ _ _ _ hk hn g0 g1 w1 w3 z1 (by simp; omega) u1 (fun x hx => hL' x (List.mem_of_mem_drop (List.mem_of_mem_take hx)))
    · have h1' : ¬ (lt.length : Int) > 4 := by simpa using h1
      exact q1 _ _ _ _ _ hk hn g0 g1 w1 w2 z1 (by omega) u1 hL'
  refine Tot.ite (fun h1 => ?_) (fun h1 => ?_)
  · have h1' := of_decide_eq_true h1
    repeat (first | refine Tot.pure (by simp (disch := first | omega | (simp only [hn_push, hn_set, hn_more] <;> omega) | fail) [ld1_get, ldN_get, stA_get, boxA, gz, gs, Heap.get_push_ne, Heap.get_push_eq, Heap.get_set_ne, Heap.get_set_eq, get_more, hn_push, hn_set, hn_more, r1.slice (lo := none) (hi := some (.int .i64 4)) (a := 0) (b := 4) rfl (bndA_int (by decide)) (by decide) (by omega)]; try exact rfl) ?_ | refine Tot.chk (by simp (disch := first | omega | (simp only [hn_push, hn_set, hn_more] <;> omega) | fail) [ld1_get, ldN_get, stA_get, boxA, gz, gs, Heap.get_push_ne, Heap.get_push_eq, Heap.get_set_ne, Heap.get_set_eq, get_more, hn_push, hn_set, hn_more, r1.slice (lo := none) (hi := some (.int .i64 4)) (a := 0) (b := 4) rfl (bndA_int (by decide)) (by decide) (by omega)]; done) ?_ | fail)
    have w3 := r1.sub (lo := 0) (hi := 4) (by decide) (by omega)
    exact q0 _ _ _ (by (repeat (first | exact Keep.refl | refine Keep.call ?_ (by assumption) | refine Keep.push ?_ | refine Keep.more ?_ | refine Keep.set ?_ (by first | omega | (simp only [hn_push, hn_set, hn_more] <;> omega) | fail)))) (by simp only [hn_more, hn_push]; omega) (by simp (disch := first | omega | (simp only [hn_push, hn_set, hn_more] <;> omega) | (simp <;> omega) | fail) [ld1_get, ldN_get, stA_get, faA_mk, boxA_agg, Heap.get_push_ne, Heap.get_push_eq, Heap.get_set_ne, Heap.get_set_eq, get_more, hn_push, hn_set, hn_more, chk_agg, ]) (by simp (disch := first | omega | (simp only [hn_push, hn_set, hn_more] <;> omega) | (simp <;> omega) | fail) [ld1_get, ldN_get, stA_get, faA_mk, boxA_agg, Heap.get_push_ne, Heap.get_push_eq, Heap.get_set_ne, Heap.get_set_eq, get_more, hn_push, hn_set, hn_more, chk_agg, ]) (w3.keep Fr.zero (by (repeat (first | exact Keep.refl | refine Keep.call ?_ (by assumption) | refine Keep.push ?_ | refine Keep.more ?_ | refine Keep.set ?_ (by first | omega | (simp only [hn_push, hn_set, hn_more] <;> omega) | fail))))) (by simp; omega) (fun x hx => hL x (List.mem_of_mem_drop (List.mem_of_mem_take hx)))
  · have h1' : ¬ (l.length : Int) > 4 := by simpa using h1
    exact q0 _ _ _ (by (repeat (first | exact Keep.refl | refine Keep.call ?_ (by assumption) | refine Keep.push ?_ | refine Keep.more ?_ | refine Keep.set ?_ (by first | omega | (simp only [hn_push, hn_set, hn_more] <;> omega) | fail)))) (by simp only [hn_more, hn_push]; omega) (by simp (disch := first | omega | (simp only [hn_push, hn_set, hn_more] <;> omega) | (simp <;> omega) | fail) [ld1_get, ldN_get, stA_get, faA_mk, boxA_agg, Heap.get_push_ne, Heap.get_push_eq, Heap.get_set_ne, Heap.get_set_eq, get_more, hn_push, hn_set, hn_more, chk_agg, ]) (by simp (disch := first | omega | (simp only [hn_push, hn_set, hn_more] <;> omega) | (simp <;> omega) | fail) [ld1_get, ldN_get, stA_get, faA_mk, boxA_agg, Heap.get_push_ne, Heap.get_push_eq, Heap.get_set_ne, Heap.get_set_eq, get_more, hn_push, hn_set, hn_more, chk_agg, ]) (r1.keep Fr.zero (by (repeat (first | exact Keep.refl | refine Keep.call ?_ (by assumption) | refine Keep.push ?_ | refine Keep.more ?_ | refine Keep.set ?_ (by first | omega | (simp only [hn_push, hn_set, hn_more] <;> omega) | fail))))) (by omega) hL
end Go.AM
end

section
set_option linter.unusedVariables false
set_option linter.unusedSimpArgs false
/- What the law's own functions give: lives, SvgDecimals. -/
set_option linter.unusedSimpArgs false
set_option linter.unusedVariables false
namespace Go.AM
attribute [local congr] bnd_weak ite_weak

theorem ar_eqs {a b : List UInt8} : arA .eql (.str a) (.str b) = some (.bool (a == b)) := (Eq.refl _).trans (Eq.refl _)

theorem low18 : lowN (-1) 8 = -1 ∧ lowD (-1) 8 = 8 := by decide
theorem dec0 : dec 0 = [48] := by unfold dec; simp
theorem dec12 : dec 12 = [49, 50] := by
  unfold dec; rw [if_neg (by decide), dig_pos (by decide) (by decide), dig_pos (by decide) (by decide)]; simp [dig_zero, lets]
theorem fmt2 : fmt (rnd (lowN (-1) 8 * 10 ^ 2) (lowD (-1) 8)) 2 = [45, 48, 46, 49, 50] := by
  rw [low18.1, low18.2, show rnd (-1 * 10 ^ 2) 8 = -12 by decide]
  unfold fmt
  rw [show (-12 : Int).natAbs = 12 from rfl, dec12]
  decide
theorem fmt0 : fmt (rnd (lowN (-1) 8 * 10 ^ 0) (lowD (-1) 8)) 0 = [48] := by
  rw [low18.1, low18.2, show rnd (-1 * 10 ^ 0) 8 = 0 by decide]
  unfold fmt
  rw [show (0 : Int).natAbs = 0 from rfl, dec0]
  decide

set_option maxHeartbeats 1000000 in
theorem law_lives {H : Heap} : Tot (fun n => f_law40_lives n [] H) fun v H' => Ext0 H H' ∧ v = .bool true := by
  refine Tot.of fun Q hQ => ?_
  refine law40_lives_tot ?_
  simp only [law40_lives_b]
  have hb1 : bSl 1 ty_uint32 [.int .u32 0] 1 [(0, .int .u32 1)] = some (.cells (nums .u32 [1]) ty_uint32 false) := by simp [bSl, rowA]
  have hb8 : bSl 1 ty_uint32 [.int .u32 0] 1 [(0, .int .u32 8)] = some (.cells (nums .u32 [8]) ty_uint32 false) := by simp [bSl, rowA]
  refine Tot.pure hb1 ?_
  repeat (first | refine Tot.pure (by simp (disch := first | omega | (simp only [hn_push, hn_set, hn_more] <;> omega) | fail) [ld1_get, ldN_get, stA_get, boxA, gz, gs, Heap.get_push_ne, Heap.get_push_eq, Heap.get_set_ne, Heap.get_set_eq, get_more, hn_push, hn_set, hn_more, ]; try exact rfl) ?_ | refine Tot.chk (by simp (disch := first | omega | (simp only [hn_push, hn_set, hn_more] <;> omega) | fail) [ld1_get, ldN_get, stA_get, boxA, gz, gs, Heap.get_push_ne, Heap.get_push_eq, Heap.get_set_ne, Heap.get_set_eq, get_more, hn_push, hn_set, hn_more, ]; done) ?_ | fail)
  refine Tot.pure hb8 ?_
  repeat (first | refine Tot.pure (by simp (disch := first | omega | (simp only [hn_push, hn_set, hn_more] <;> omega) | fail) [ld1_get, ldN_get, stA_get, boxA, gz, gs, Heap.get_push_ne, Heap.get_push_eq, Heap.get_set_ne, Heap.get_set_eq, get_more, hn_push, hn_set, hn_more, ]; try exact rfl) ?_ | refine Tot.chk (by simp (disch := first | omega | (simp only [hn_push, hn_set, hn_more] <;> omega) | fail) [ld1_get, ldN_get, stA_get, boxA, gz, gs, Heap.get_push_ne, Heap.get_push_eq, Heap.get_set_ne, Heap.get_set_eq, get_more, hn_push, hn_set, hn_more, ]; done) ?_ | fail)
  obtain ⟨H1, h1⟩ : ∃ H1, H1 = (((H.push (.cells [.int .u32 1] ty_uint32 false)).push (.cells [.int .u32 8] ty_uint32 false)).push (.cells [(.bool false), (.slice ⟨none, 0, 0, false⟩), (.slice ⟨none, 0, 0, false⟩)] ty_api_Rat false)).set (H.n + 1 + 1) (.cells [.bool true, .slice ⟨some (H.n, 0), 1, 1, false⟩, .slice ⟨some (H.n + 1, 0), 1, 1, false⟩] ty_api_Rat false) := ⟨_, rfl⟩
  rw [← h1]
  have k1 : Keep 0 H H1 := by rw [h1]; exact (by (repeat (first | exact Keep.refl | refine Keep.call ?_ (by assumption) | refine Keep.push ?_ | refine Keep.more ?_ | refine Keep.set ?_ (by first | omega | (simp only [hn_push, hn_set, hn_more] <;> omega) | fail))))
  have n1 : H1.n = H.n + 3 := by rw [h1]; rfl
  have g1 : H1.get (H.n + 2) = .cells [.bool true, .slice ⟨some (H.n, 0), 1, 1, false⟩, .slice ⟨some (H.n + 1, 0), 1, 1, false⟩] ty_api_Rat false := by rw [h1, Heap.get_set_eq rfl]
  have ga : H1.get H.n = .cells (nums .u32 [1]) ty_uint32 false := by rw [h1]; simp (disch := first | omega | (simp only [hn_push, hn_set, hn_more] <;> omega) | (simp <;> omega) | fail) [ld1_get, ldN_get, stA_get, faA_mk, boxA_agg, Heap.get_push_ne, Heap.get_push_eq, Heap.get_set_ne, Heap.get_set_eq, get_more, hn_push, hn_set, hn_more, chk_agg, ]
  have gb : H1.get (H.n + 1) = .cells (nums .u32 [8]) ty_uint32 false := by rw [h1]; simp (disch := first | omega | (simp only [hn_push, hn_set, hn_more] <;> omega) | (simp <;> omega) | fail) [ld1_get, ldN_get, stA_get, faA_mk, boxA_agg, Heap.get_push_ne, Heap.get_push_eq, Heap.get_set_ne, Heap.get_set_eq, get_more, hn_push, hn_set, hn_more, chk_agg, ]
  have raw : rawR H1 (.agg [.bool true, .slice ⟨some (H.n, 0), 1, 1, false⟩, .slice ⟨some (H.n + 1, 0), 1, 1, false⟩]) (-1) 8 1 := by
    refine ⟨true, _, _, [1], [8], rfl, Row.new (l := [1]) (by omega) ga, Row.new (l := [8]) (by omega) gb, Lim.one.2 (by decide), Lim.one.2 (by decide), by decide, by decide, ?_, ?_⟩
    · rw [val_one]; rfl
    · rw [val_one]
  have hp : ((H.push (.cells (nums .u32 [1]) ty_uint32 false)).push (.cells (nums .u32 [8]) ty_uint32 false)).n = H.n + 2 := rfl
  rw [hp]
  refine Tot.bind (svg_Decimal_spec (places := 2) raw (by decide)) ?_
  rintro v H2 ⟨c2, rfl⟩
  have n2 := c2.n; try simp only [hn_push, hn_set, hn_more] at n2
  rw [if_neg (by decide), show (2 : Int).toNat = 2 from rfl, fmt2]
  dsimp only
  repeat (first | refine Tot.pure (by simp (disch := first | omega | (simp only [hn_push, hn_set, hn_more] <;> omega) | fail) [ld1_get, ldN_get, stA_get, boxA, gz, gs, Heap.get_push_ne, Heap.get_push_eq, Heap.get_set_ne, Heap.get_set_eq, get_more, hn_push, hn_set, hn_more, ext_tuple, c2.g, g1]; try exact rfl) ?_ | refine Tot.chk (by simp (disch := first | omega | (simp only [hn_push, hn_set, hn_more] <;> omega) | fail) [ld1_get, ldN_get, stA_get, boxA, gz, gs, Heap.get_push_ne, Heap.get_push_eq, Heap.get_set_ne, Heap.get_set_eq, get_more, hn_push, hn_set, hn_more, ext_tuple, c2.g, g1]; done) ?_ | fail)
  refine Tot.bind (svg_Decimal_spec (places := 0) (raw.ext c2) (by decide)) ?_
  rintro v H3 ⟨c3, rfl⟩
  have n3 := c3.n; try simp only [hn_push, hn_set, hn_more] at n3
  rw [if_neg (by decide), show (0 : Int).toNat = 0 from rfl, fmt0]
  dsimp only
  repeat (first | refine Tot.pure (by simp (disch := first | omega | (simp only [hn_push, hn_set, hn_more] <;> omega) | fail) [ld1_get, ldN_get, stA_get, boxA, gz, gs, Heap.get_push_ne, Heap.get_push_eq, Heap.get_set_ne, Heap.get_set_eq, get_more, hn_push, hn_set, hn_more, ext_tuple, c2.g, c3.g, g1]; try exact rfl) ?_ | refine Tot.chk (by simp (disch := first | omega | (simp only [hn_push, hn_set, hn_more] <;> omega) | fail) [ld1_get, ldN_get, stA_get, boxA, gz, gs, Heap.get_push_ne, Heap.get_push_eq, Heap.get_set_ne, Heap.get_set_eq, get_more, hn_push, hn_set, hn_more, ext_tuple, c2.g, c3.g, g1]; done) ?_ | fail)
  refine Tot.bind (svg_Decimal_spec (places := 31) (raw.ext (c2.t c3)) (by decide)) ?_
  rintro v H4 ⟨c4, rfl⟩
  rw [if_pos (by decide)]
  dsimp only
  repeat (first | refine Tot.pure (by simp (disch := first | omega | (simp only [hn_push, hn_set, hn_more] <;> omega) | fail) [ld1_get, ldN_get, stA_get, boxA, gz, gs, Heap.get_push_ne, Heap.get_push_eq, Heap.get_set_ne, Heap.get_set_eq, get_more, hn_push, hn_set, hn_more, ext_tuple, ar_eqs]; try exact rfl) ?_ | refine Tot.chk (by simp (disch := first | omega | (simp only [hn_push, hn_set, hn_more] <;> omega) | fail) [ld1_get, ldN_get, stA_get, boxA, gz, gs, Heap.get_push_ne, Heap.get_push_eq, Heap.get_set_ne, Heap.get_set_eq, get_more, hn_push, hn_set, hn_more, ext_tuple, ar_eqs]; done) ?_ | fail)
  refine Tot.yes rfl ?_
  repeat (first | refine Tot.pure (by simp (disch := first | omega | (simp only [hn_push, hn_set, hn_more] <;> omega) | fail) [ld1_get, ldN_get, stA_get, boxA, gz, gs, Heap.get_push_ne, Heap.get_push_eq, Heap.get_set_ne, Heap.get_set_eq, get_more, hn_push, hn_set, hn_more, ]; try exact rfl) ?_ | refine Tot.chk (by simp (disch := first | omega | (simp only [hn_push, hn_set, hn_more] <;> omega) | fail) [ld1_get, ldN_get, stA_get, boxA, gz, gs, Heap.get_push_ne, Heap.get_push_eq, Heap.get_set_ne, Heap.get_set_eq, get_more, hn_push, hn_set, hn_more, ]; done) ?_ | fail)
  refine Tot.yes rfl ?_
  repeat (first | refine Tot.pure (by simp (disch := first | omega | (simp only [hn_push, hn_set, hn_more] <;> omega) | fail) [ld1_get, ldN_get, stA_get, boxA, gz, gs, Heap.get_push_ne, Heap.get_push_eq, Heap.get_set_ne, Heap.get_set_eq, get_more, hn_push, hn_set, hn_more, ext_tuple, ar_eqs]; try exact rfl) ?_ | refine Tot.chk (by simp (disch := first | omega | (simp only [hn_push, hn_set, hn_more] <;> omega) | fail) [ld1_get, ldN_get, stA_get, boxA, gz, gs, Heap.get_push_ne, Heap.get_push_eq, Heap.get_set_ne, Heap.get_set_eq, get_more, hn_push, hn_set, hn_more, ext_tuple, ar_eqs]; done) ?_ | fail)
  refine Tot.yes rfl ?_
  repeat (first | refine Tot.pure (by simp (disch := first | omega | (simp only [hn_push, hn_set, hn_more] <;> omega) | fail) [ld1_get, ldN_get, stA_get, boxA, gz, gs, Heap.get_push_ne, Heap.get_push_eq, Heap.get_set_ne, Heap.get_set_eq, get_more, hn_push, hn_set, hn_more, ]; try exact rfl) ?_ | refine Tot.chk (by simp (disch := first | omega | (simp only [hn_push, hn_set, hn_more] <;> omega) | fail) [ld1_get, ldN_get, stA_get, boxA, gz, gs, Heap.get_push_ne, Heap.get_push_eq, Heap.get_set_ne, Heap.get_set_eq, get_more, hn_push, hn_set, hn_more, ]; done) ?_ | fail)
  refine Tot.yes rfl ?_
  repeat (first | refine Tot.pure (by simp (disch := first | omega | (simp only [hn_push, hn_set, hn_more] <;> omega) | fail) [ld1_get, ldN_get, stA_get, boxA, gz, gs, Heap.get_push_ne, Heap.get_push_eq, Heap.get_set_ne, Heap.get_set_eq, get_more, hn_push, hn_set, hn_more, ]; try exact rfl) ?_ | refine Tot.chk (by simp (disch := first | omega | (simp only [hn_push, hn_set, hn_more] <;> omega) | fail) [ld1_get, ldN_get, stA_get, boxA, gz, gs, Heap.get_push_ne, Heap.get_push_eq, Heap.get_set_ne, Heap.get_set_eq, get_more, hn_push, hn_set, hn_more, ]; done) ?_ | fail)
  exact Tot.ret (hQ _ _ ⟨Keep.ext (((k1.call c2).call c3).call c4), rfl⟩)

theorem r_len {n : Nat} {N : Nat} (h : n < 4294967296 ^ N) : (dig 65536 n).length ≤ 2 * N := by
  apply dig_len_le (by decide)
  rw [Nat.pow_mul]; exact h

set_option maxHeartbeats 1000000 in
theorem law_decimals {H : Heap} {v : V} {n : Int} {d N : Nat} {places : Int} (h : rawR H v n d N) :
    Tot (fun n => f_law40_SvgDecimals n [v, .int .i64 places] H) fun v H' => v = .bool true := by
  have ha := h
  obtain ⟨b, s, t, l, lt, rfl, -⟩ := h
  refine Tot.of fun Q hQ => ?_
  refine law40_SvgDecimals_tot ?_
  simp only [law40_SvgDecimals_b]
  repeat (first | refine Tot.pure (by simp (disch := first | omega | (simp only [hn_push, hn_set, hn_more] <;> omega) | fail) [ld1_get, ldN_get, stA_get, boxA, gz, gs, Heap.get_push_ne, Heap.get_push_eq, Heap.get_set_ne, Heap.get_set_eq, get_more, hn_push, hn_set, hn_more, ]; try exact rfl) ?_ | refine Tot.chk (by simp (disch := first | omega | (simp only [hn_push, hn_set, hn_more] <;> omega) | fail) [ld1_get, ldN_get, stA_get, boxA, gz, gs, Heap.get_push_ne, Heap.get_push_eq, Heap.get_set_ne, Heap.get_set_eq, get_more, hn_push, hn_set, hn_more, ]; done) ?_ | fail)
  refine Tot.bind (law_short (ha.ext Ch.push)) ?_
  rintro v H1 ⟨c1, n', d', r1⟩
  have n1 := c1.n; try simp only [hn_push, hn_set, hn_more] at n1
  obtain ⟨b1, s1, t1, l1, lt1, rfl, -⟩ := id (r1 H1 Ch.refl)
  dsimp only
  repeat (first | refine Tot.pure (by simp (disch := first | omega | (simp only [hn_push, hn_set, hn_more] <;> omega) | fail) [ld1_get, ldN_get, stA_get, boxA, gz, gs, Heap.get_push_ne, Heap.get_push_eq, Heap.get_set_ne, Heap.get_set_eq, get_more, hn_push, hn_set, hn_more, c1.g]; try exact rfl) ?_ | refine Tot.chk (by simp (disch := first | omega | (simp only [hn_push, hn_set, hn_more] <;> omega) | fail) [ld1_get, ldN_get, stA_get, boxA, gz, gs, Heap.get_push_ne, Heap.get_push_eq, Heap.get_set_ne, Heap.get_set_eq, get_more, hn_push, hn_set, hn_more, c1.g]; done) ?_ | fail)
  obtain ⟨H2, h2⟩ : ∃ H2, H2 = H1.set H.n (.cells [.bool b1, .slice s1, .slice t1] ty_api_Rat false) := ⟨_, rfl⟩
  rw [← h2]
  have r2 := r1 H2 (by rw [h2]; exact Ch.set (by simp))
  have g2 : H2.get H.n = .cells [.bool b1, .slice s1, .slice t1] ty_api_Rat false := by rw [h2, Heap.get_set_eq rfl]
  have n2 : H2.n = H1.n := by rw [h2]; rfl
  refine Tot.bind (svg_Decimal_spec (places := places) r2 (by decide)) ?_
  rintro v H3 ⟨c3, rfl⟩
  have n3 := c3.n; try simp only [hn_push, hn_set, hn_more] at n3
  dsimp only
  have hlv : ∀ {G : Heap}, Tot (fun n => bnd (f_law40_lives n [] G) fun r => some (r.1, r.2)) Q := by
    intro G
    refine Tot.bind law_lives ?_
    rintro v G' ⟨-, rfl⟩
    exact Tot.ret (hQ _ _ rfl)
  by_cases hp : places < 0 ∨ 30 < places
  · rw [if_pos hp]
    repeat (first | refine Tot.pure (by simp (disch := first | omega | (simp only [hn_push, hn_set, hn_more] <;> omega) | fail) [ld1_get, ldN_get, stA_get, boxA, gz, gs, Heap.get_push_ne, Heap.get_push_eq, Heap.get_set_ne, Heap.get_set_eq, get_more, hn_push, hn_set, hn_more, ext_tuple]; try exact rfl) ?_ | refine Tot.chk (by simp (disch := first | omega | (simp only [hn_push, hn_set, hn_more] <;> omega) | fail) [ld1_get, ldN_get, stA_get, boxA, gz, gs, Heap.get_push_ne, Heap.get_push_eq, Heap.get_set_ne, Heap.get_set_eq, get_more, hn_push, hn_set, hn_more, ext_tuple]; done) ?_ | fail)
    refine Tot.ite (fun h0 => ?_) (fun h0 => ?_)
    · repeat (first | refine Tot.pure (by simp (disch := first | omega | (simp only [hn_push, hn_set, hn_more] <;> omega) | fail) [ld1_get, ldN_get, stA_get, boxA, gz, gs, Heap.get_push_ne, Heap.get_push_eq, Heap.get_set_ne, Heap.get_set_eq, get_more, hn_push, hn_set, hn_more, ar_eqs]; try exact rfl) ?_ | refine Tot.chk (by simp (disch := first | omega | (simp only [hn_push, hn_set, hn_more] <;> omega) | fail) [ld1_get, ldN_get, stA_get, boxA, gz, gs, Heap.get_push_ne, Heap.get_push_eq, Heap.get_set_ne, Heap.get_set_eq, get_more, hn_push, hn_set, hn_more, ar_eqs]; done) ?_ | fail)
      refine Tot.yes rfl ?_
      repeat (first | refine Tot.pure (by simp (disch := first | omega | (simp only [hn_push, hn_set, hn_more] <;> omega) | fail) [ld1_get, ldN_get, stA_get, boxA, gz, gs, Heap.get_push_ne, Heap.get_push_eq, Heap.get_set_ne, Heap.get_set_eq, get_more, hn_push, hn_set, hn_more, ]; try exact rfl) ?_ | refine Tot.chk (by simp (disch := first | omega | (simp only [hn_push, hn_set, hn_more] <;> omega) | fail) [ld1_get, ldN_get, stA_get, boxA, gz, gs, Heap.get_push_ne, Heap.get_push_eq, Heap.get_set_ne, Heap.get_set_eq, get_more, hn_push, hn_set, hn_more, ]; done) ?_ | fail)
      refine Tot.yes rfl ?_
      exact hlv
    · repeat (first | refine Tot.pure (by simp (disch := first | omega | (simp only [hn_push, hn_set, hn_more] <;> omega) | fail) [ld1_get, ldN_get, stA_get, boxA, gz, gs, Heap.get_push_ne, Heap.get_push_eq, Heap.get_set_ne, Heap.get_set_eq, get_more, hn_push, hn_set, hn_more, ]; try exact rfl) ?_ | refine Tot.chk (by simp (disch := first | omega | (simp only [hn_push, hn_set, hn_more] <;> omega) | fail) [ld1_get, ldN_get, stA_get, boxA, gz, gs, Heap.get_push_ne, Heap.get_push_eq, Heap.get_set_ne, Heap.get_set_eq, get_more, hn_push, hn_set, hn_more, ]; done) ?_ | fail)
      have h0' : ¬ places < 0 := by simpa using h0
      refine Tot.yes (by simp; omega) ?_
      repeat (first | refine Tot.pure (by simp (disch := first | omega | (simp only [hn_push, hn_set, hn_more] <;> omega) | fail) [ld1_get, ldN_get, stA_get, boxA, gz, gs, Heap.get_push_ne, Heap.get_push_eq, Heap.get_set_ne, Heap.get_set_eq, get_more, hn_push, hn_set, hn_more, ar_eqs]; try exact rfl) ?_ | refine Tot.chk (by simp (disch := first | omega | (simp only [hn_push, hn_set, hn_more] <;> omega) | fail) [ld1_get, ldN_get, stA_get, boxA, gz, gs, Heap.get_push_ne, Heap.get_push_eq, Heap.get_set_ne, Heap.get_set_eq, get_more, hn_push, hn_set, hn_more, ar_eqs]; done) ?_ | fail)
      refine Tot.yes rfl ?_
      repeat (first | refine Tot.pure (by simp (disch := first | omega | (simp only [hn_push, hn_set, hn_more] <;> omega) | fail) [ld1_get, ldN_get, stA_get, boxA, gz, gs, Heap.get_push_ne, Heap.get_push_eq, Heap.get_set_ne, Heap.get_set_eq, get_more, hn_push, hn_set, hn_more, ]; try exact rfl) ?_ | refine Tot.chk (by simp (disch := first | omega | (simp only [hn_push, hn_set, hn_more] <;> omega) | fail) [ld1_get, ldN_get, stA_get, boxA, gz, gs, Heap.get_push_ne, Heap.get_push_eq, Heap.get_set_ne, Heap.get_set_eq, get_more, hn_push, hn_set, hn_more, ]; done) ?_ | fail)
      refine Tot.yes rfl ?_
      exact hlv
  · rw [if_neg hp]
    obtain ⟨p, rfl⟩ : ∃ p : Nat, places = (p : Int) := ⟨places.toNat, by omega⟩
    repeat (first | refine Tot.pure (by simp (disch := first | omega | (simp only [hn_push, hn_set, hn_more] <;> omega) | fail) [ld1_get, ldN_get, stA_get, boxA, gz, gs, Heap.get_push_ne, Heap.get_push_eq, Heap.get_set_ne, Heap.get_set_eq, get_more, hn_push, hn_set, hn_more, ext_tuple]; try exact rfl) ?_ | refine Tot.chk (by simp (disch := first | omega | (simp only [hn_push, hn_set, hn_more] <;> omega) | fail) [ld1_get, ldN_get, stA_get, boxA, gz, gs, Heap.get_push_ne, Heap.get_push_eq, Heap.get_set_ne, Heap.get_set_eq, get_more, hn_push, hn_set, hn_more, ext_tuple]; done) ?_ | fail)
    refine Tot.no (by simp) ?_
    repeat (first | refine Tot.pure (by simp (disch := first | omega | (simp only [hn_push, hn_set, hn_more] <;> omega) | fail) [ld1_get, ldN_get, stA_get, boxA, gz, gs, Heap.get_push_ne, Heap.get_push_eq, Heap.get_set_ne, Heap.get_set_eq, get_more, hn_push, hn_set, hn_more, ]; try exact rfl) ?_ | refine Tot.chk (by simp (disch := first | omega | (simp only [hn_push, hn_set, hn_more] <;> omega) | fail) [ld1_get, ldN_get, stA_get, boxA, gz, gs, Heap.get_push_ne, Heap.get_push_eq, Heap.get_set_ne, Heap.get_set_eq, get_more, hn_push, hn_set, hn_more, ]; done) ?_ | fail)
    refine Tot.no (by simp; omega) ?_
    repeat (first | refine Tot.pure (by simp (disch := first | omega | (simp only [hn_push, hn_set, hn_more] <;> omega) | fail) [ld1_get, ldN_get, stA_get, boxA, gz, gs, Heap.get_push_ne, Heap.get_push_eq, Heap.get_set_ne, Heap.get_set_eq, get_more, hn_push, hn_set, hn_more, c3.g, g2]; try exact rfl) ?_ | refine Tot.chk (by simp (disch := first | omega | (simp only [hn_push, hn_set, hn_more] <;> omega) | fail) [ld1_get, ldN_get, stA_get, boxA, gz, gs, Heap.get_push_ne, Heap.get_push_eq, Heap.get_set_ne, Heap.get_set_eq, get_more, hn_push, hn_set, hn_more, c3.g, g2]; done) ?_ | fail)
    have r3 := r2.ext c3
    have z1 : (dig 65536 n'.natAbs).length ≤ 8 ∧ (dig 65536 d').length ≤ 8 := by
      obtain ⟨b4, s4, t4, l4, lt4, -, -, -, z1, z2, z3, z4, z5, z6⟩ := r2
      refine ⟨r_len (N := 4) ?_, r_len (N := 4) ?_⟩
      · rw [z5, sgn_abs]; exact Nat.lt_of_lt_of_le (val_lt (b := 4294967296) z1) (Nat.pow_le_pow_right (by decide) z3)
      · rw [z6]; exact Nat.lt_of_lt_of_le (val_lt (b := 4294967296) z2) (Nat.pow_le_pow_right (by decide) z4)
    refine Tot.bind (r5_of (P := fun _ => True) (fun i hi => trivial) r3 (by decide)) ?_
    rintro v H4 ⟨c4, i4⟩
    have y1 : (dig 65536 (if d' = 0 then 0 else n').natAbs).length ≤ 8 := by
      split
      · simp [dig_zero]
      · exact z1.1
    have y2 : (dig 65536 (if d' = 0 then 1 else d')).length ≤ 8 := by
      split
      · exact r_len (N := 4) (by decide)
      · exact z1.2
    dsimp only
    refine Tot.bind (r5_low (P := fun _ => True) (fun i hi => trivial) i4 (by omega) (by omega)) ?_
    rintro v H5 ⟨c5, i5⟩
    have e1 : lowN (if d' = 0 then 0 else n') (if d' = 0 then 1 else d') = lowN n' d' := by
      by_cases h0 : d' = 0
      · rw [if_pos h0, if_pos h0, h0]; simp [lowN, lowD, sgn]
      · rw [if_neg h0, if_neg h0]
    have e2 : lowD (if d' = 0 then 0 else n') (if d' = 0 then 1 else d') = lowD n' d' := by
      by_cases h0 : d' = 0
      · rw [if_pos h0, if_pos h0, h0]; simp [lowN, lowD, sgn]
      · rw [if_neg h0, if_neg h0]
    rw [e1, e2] at i5
    have w1 : (dig 65536 (lowN n' d').natAbs).length ≤ 8 := Nat.le_trans (rsz_mono lowN_le) z1.1
    have w2 : (dig 65536 (lowD n' d')).length ≤ 8 := by
      have := rsz_mono (lowD_le (n := n') (d := d'))
      by_cases h0 : d' = 0
      · rw [h0] at this ⊢
        exact Nat.le_trans this (r_len (N := 4) (by decide))
      · rw [show max d' 1 = d' by omega] at this; exact Nat.le_trans this z1.2
    have w3 : (dig 65536 (rnd (lowN n' d' * 10 ^ p) (lowD n' d')).natAbs).length ≤ 72 := by
      apply r_len (N := 36)
      have q1 : (dig 4294967296 (lowN n' d').natAbs).length ≤ 4 := by
        refine Nat.le_trans (sz_mono lowN_le) ?_
        obtain ⟨b4, s4, t4, l4, lt4, -, -, -, z1, z2, z3, z4, z5, z6⟩ := r2
        apply dig_len_le (by decide)
        rw [z5, sgn_abs]; exact Nat.lt_of_lt_of_le (val_lt (b := 4294967296) z1) (Nat.pow_le_pow_right (by decide) z3)
      have q2 : (dig 4294967296 (lowN n' d' * 10 ^ p).natAbs).length ≤ 35 := by
        have h1 := sz_mul (x := (lowN n' d').natAbs) (y := (10 ^ p : Int).natAbs)
        rw [← Int.natAbs_mul] at h1
        have h2 : (dig 4294967296 (10 ^ p : Int).natAbs).length ≤ 31 := by
          apply dig_len_le (by decide)
          rw [Int.natAbs_pow]
          exact Nat.lt_of_le_of_lt (Nat.pow_le_pow_right (by decide) (show p ≤ 30 by omega)) (by decide)
        omega
      have q3 := rnd_sz (lowD_pos (n := n') (d := d')) q2
      have q4 := dig_len_lt (b := 4294967296) (x := (rnd (lowN n' d' * 10 ^ p) (lowD n' d')).natAbs) (by decide)
      exact Nat.lt_of_lt_of_le q4 (Nat.pow_le_pow_right (by decide) q3)
    refine Tot.bind (r40_decimal (P := fun _ => True) (fun i hi => trivial) i5 (by omega) (by omega) (by omega) (by omega)) ?_
    rintro v H6 ⟨c6, rfl⟩
    dsimp only
    have hbe : ∀ w : List UInt8, (w == w) = true := fun w => by simp
    repeat (first | refine Tot.pure (by simp (disch := first | omega | (simp only [hn_push, hn_set, hn_more] <;> omega) | fail) [ld1_get, ldN_get, stA_get, boxA, gz, gs, Heap.get_push_ne, Heap.get_push_eq, Heap.get_set_ne, Heap.get_set_eq, get_more, hn_push, hn_set, hn_more, ar_eqs, hbe]; try exact rfl) ?_ | refine Tot.chk (by simp (disch := first | omega | (simp only [hn_push, hn_set, hn_more] <;> omega) | fail) [ld1_get, ldN_get, stA_get, boxA, gz, gs, Heap.get_push_ne, Heap.get_push_eq, Heap.get_set_ne, Heap.get_set_eq, get_more, hn_push, hn_set, hn_more, ar_eqs, hbe]; done) ?_ | fail)
    refine Tot.yes rfl ?_
    repeat (first | refine Tot.pure (by simp (disch := first | omega | (simp only [hn_push, hn_set, hn_more] <;> omega) | fail) [ld1_get, ldN_get, stA_get, boxA, gz, gs, Heap.get_push_ne, Heap.get_push_eq, Heap.get_set_ne, Heap.get_set_eq, get_more, hn_push, hn_set, hn_more, ]; try exact rfl) ?_ | refine Tot.chk (by simp (disch := first | omega | (simp only [hn_push, hn_set, hn_more] <;> omega) | fail) [ld1_get, ldN_get, stA_get, boxA, gz, gs, Heap.get_push_ne, Heap.get_push_eq, Heap.get_set_ne, Heap.get_set_eq, get_more, hn_push, hn_set, hn_more, ]; done) ?_ | fail)
    refine Tot.yes rfl ?_
    exact hlv
end Go.AM
end

section
set_option linter.unusedVariables false
set_option linter.unusedSimpArgs false
/- What the document's functions give: Cmp of layer 4; Neg, Sub, Cmp of layer 5. -/
set_option linter.unusedSimpArgs false
set_option linter.unusedVariables false
namespace Go.AM
attribute [local congr] bnd_weak ite_weak

theorem r4_cmp {H : Heap} {P : Nat → Prop} {v w : V} {x y : Int} (hP : UpP H P) (h : isJ H P v x) (h' : isJ H P w y) (hm : (dig 65536 x.natAbs).length < 400000000) (hm' : (dig 65536 y.natAbs).length < 400000000) :
    Tot (fun n => f_ref04_Cmp n [v, w] H) fun v H' => Ext0 H H' ∧ v = .int .i64 (x - y).sign := by
  obtain ⟨σ, s, rfl, hσ, r, f⟩ := h.shape
  obtain ⟨τ, t, rfl, hτ, r', f'⟩ := h'.shape
  refine Tot.of fun Q hQ => ?_
  refine ref04_Cmp_tot ?_
  simp only [ref04_Cmp_b]
  repeat (first | refine Tot.pure (by simp (disch := first | omega | (simp only [hn_push, hn_set, hn_more] <;> omega) | fail) [ld1_get, ldN_get, stA_get, boxA, gz, gs, Heap.get_push_ne, Heap.get_push_eq, Heap.get_set_ne, Heap.get_set_eq, get_more, hn_push, hn_set, hn_more, ]; try exact rfl) ?_ | refine Tot.chk (by simp (disch := first | omega | (simp only [hn_push, hn_set, hn_more] <;> omega) | fail) [ld1_get, ldN_get, stA_get, boxA, gz, gs, Heap.get_push_ne, Heap.get_push_eq, Heap.get_set_ne, Heap.get_set_eq, get_more, hn_push, hn_set, hn_more, ]; done) ?_ | fail)
  refine Tot.bind (r4_sub (P := P) (fun i hi => hP i (by simp only [hn_push] at hi; omega)) (h.keep (by (repeat (first | exact KeepP.refl | refine KeepP.call ?_ (by assumption) | refine KeepP.push ?_ | refine KeepP.more ?_ | refine KeepP.set ?_ (by first | (right; first | omega | (simp only [hn_push, hn_set, hn_more] <;> omega) | fail) | (left; simp; done) | fail))))) (h'.keep (by (repeat (first | exact KeepP.refl | refine KeepP.call ?_ (by assumption) | refine KeepP.push ?_ | refine KeepP.more ?_ | refine KeepP.set ?_ (by first | (right; first | omega | (simp only [hn_push, hn_set, hn_more] <;> omega) | fail) | (left; simp; done) | fail))))) hm hm') ?_
  rintro v H1 ⟨c1, i1⟩
  have n1 := c1.n; try simp only [hn_push, hn_set, hn_more] at n1
  obtain ⟨b1, s1, rfl, hb, -⟩ := i1.shape
  subst hb
  dsimp only
  repeat (first | refine Tot.pure (by simp (disch := first | omega | (simp only [hn_push, hn_set, hn_more] <;> omega) | fail) [ld1_get, ldN_get, stA_get, boxA, gz, gs, Heap.get_push_ne, Heap.get_push_eq, Heap.get_set_ne, Heap.get_set_eq, get_more, hn_push, hn_set, hn_more, fd1]; try exact rfl) ?_ | refine Tot.chk (by simp (disch := first | omega | (simp only [hn_push, hn_set, hn_more] <;> omega) | fail) [ld1_get, ldN_get, stA_get, boxA, gz, gs, Heap.get_push_ne, Heap.get_push_eq, Heap.get_set_ne, Heap.get_set_eq, get_more, hn_push, hn_set, hn_more, fd1]; done) ?_ | fail)
  exact Tot.ret (hQ _ _ ⟨Keep.ext (by (repeat (first | exact Keep.refl | refine Keep.call ?_ (by assumption) | refine Keep.push ?_ | refine Keep.more ?_ | refine Keep.set ?_ (by first | omega | (simp only [hn_push, hn_set, hn_more] <;> omega) | fail)))), rfl⟩)

theorem r5_neg {H : Heap} {P : Nat → Prop} {v : V} {n : Int} {d : Nat} (hP : UpP H P) (h : isK H P v n d) :
    Tot (fun n => f_ref05_Neg n [v] H) fun v H' => Ext0 H H' ∧ isK H' P v (-n) d := by
  obtain ⟨σ, s, τ, t, rfl, a1, a2, hd⟩ := h
  refine Tot.of fun Q hQ => ?_
  refine ref05_Neg_tot ?_
  simp only [ref05_Neg_b]
  have hm : ∀ {v : V} {z : Int}, isJ H P v z → isJ H (fun i => P i ∧ i ≠ H.n + 1) v z := fun h => h.mono fun i hi hp => ⟨hp, by omega⟩
  repeat (first | refine Tot.pure (by simp (disch := first | omega | (simp only [hn_push, hn_set, hn_more] <;> omega) | fail) [ld1_get, ldN_get, stA_get, boxA, gz, gs, Heap.get_push_ne, Heap.get_push_eq, Heap.get_set_ne, Heap.get_set_eq, get_more, hn_push, hn_set, hn_more, ]; try exact rfl) ?_ | refine Tot.chk (by simp (disch := first | omega | (simp only [hn_push, hn_set, hn_more] <;> omega) | fail) [ld1_get, ldN_get, stA_get, boxA, gz, gs, Heap.get_push_ne, Heap.get_push_eq, Heap.get_set_ne, Heap.get_set_eq, get_more, hn_push, hn_set, hn_more, ]; done) ?_ | fail)
  refine Tot.bind (r4_neg ((hm a1).keep (by (repeat (first | exact KeepP.refl | refine KeepP.call ?_ (by assumption) | refine KeepP.push ?_ | refine KeepP.more ?_ | refine KeepP.set ?_ (by first | (right; first | omega | (simp only [hn_push, hn_set, hn_more] <;> omega) | fail) | (left; simp; done) | fail)))))) ?_
  rintro v H1 ⟨c1, i1⟩
  have n1 := c1.n; try simp only [hn_push, hn_set, hn_more] at n1
  obtain ⟨p1, q1, rfl, -⟩ := i1.shape
  dsimp only
  repeat (first | refine Tot.pure (by simp (disch := first | omega | (simp only [hn_push, hn_set, hn_more] <;> omega) | fail) [ld1_get, ldN_get, stA_get, boxA, gz, gs, Heap.get_push_ne, Heap.get_push_eq, Heap.get_set_ne, Heap.get_set_eq, get_more, hn_push, hn_set, hn_more, c1.g]; try exact rfl) ?_ | refine Tot.chk (by simp (disch := first | omega | (simp only [hn_push, hn_set, hn_more] <;> omega) | fail) [ld1_get, ldN_get, stA_get, boxA, gz, gs, Heap.get_push_ne, Heap.get_push_eq, Heap.get_set_ne, Heap.get_set_eq, get_more, hn_push, hn_set, hn_more, c1.g]; done) ?_ | fail)
  exact Tot.ret (hQ _ _ ⟨Keep.ext (by (repeat (first | exact Keep.refl | refine Keep.call ?_ (by assumption) | refine Keep.push ?_ | refine Keep.more ?_ | refine Keep.set ?_ (by first | omega | (simp only [hn_push, hn_set, hn_more] <;> omega) | fail)))), p1, q1, τ, t, rfl, (i1.keep (by (repeat (first | exact KeepP.refl | refine KeepP.call ?_ (by assumption) | refine KeepP.push ?_ | refine KeepP.more ?_ | refine KeepP.set ?_ (by first | (right; first | omega | (simp only [hn_push, hn_set, hn_more] <;> omega) | fail) | (left; simp; done) | fail))))).mono fun i _ hi => hi.1, ((hm a2).keep (by (repeat (first | exact KeepP.refl | refine KeepP.call ?_ (by assumption) | refine KeepP.push ?_ | refine KeepP.more ?_ | refine KeepP.set ?_ (by first | (right; first | omega | (simp only [hn_push, hn_set, hn_more] <;> omega) | fail) | (left; simp; done) | fail))))).mono fun i _ hi => hi.1, hd⟩)

theorem r5_sub {H : Heap} {P : Nat → Prop} {v w : V} {n m : Int} {d e : Nat} (hP : UpP H P) (h : isK H P v n d) (h' : isK H P w m e) (h1 : (dig 65536 n.natAbs).length < 10000000) (h2 : (dig 65536 m.natAbs).length < 10000000) (h3 : (dig 65536 d).length < 10000000) (h4 : (dig 65536 e).length < 10000000) :
    Tot (fun n => f_ref05_Sub n [v, w] H) fun v H' => Ext0 H H' ∧ isK H' P v (n * e - m * d) (d * e) := by
  have ha := h
  have hb := h'
  obtain ⟨σ, s, τ, t, rfl, -⟩ := h
  obtain ⟨σ', s', τ', t', rfl, -⟩ := h'
  refine Tot.of fun Q hQ => ?_
  refine ref05_Sub_tot ?_
  simp only [ref05_Sub_b]
  have hq : ∀ (G : Heap), H.n + 3 ≤ G.n → UpP G (fun i => P i ∧ i ≠ H.n + 1 + 1) := fun G hG i hi => ⟨hP i (by omega), by omega⟩
  have hm : ∀ {v : V} {n : Int} {d : Nat}, isK H P v n d → isK H (fun i => P i ∧ i ≠ H.n + 1 + 1) v n d := fun h => h.mono fun i hi hp => ⟨hp, by omega⟩
  repeat (first | refine Tot.pure (by simp (disch := first | omega | (simp only [hn_push, hn_set, hn_more] <;> omega) | fail) [ld1_get, ldN_get, stA_get, boxA, gz, gs, Heap.get_push_ne, Heap.get_push_eq, Heap.get_set_ne, Heap.get_set_eq, get_more, hn_push, hn_set, hn_more, ]; try exact rfl) ?_ | refine Tot.chk (by simp (disch := first | omega | (simp only [hn_push, hn_set, hn_more] <;> omega) | fail) [ld1_get, ldN_get, stA_get, boxA, gz, gs, Heap.get_push_ne, Heap.get_push_eq, Heap.get_set_ne, Heap.get_set_eq, get_more, hn_push, hn_set, hn_more, ]; done) ?_ | fail)
  refine Tot.bind (r5_neg (hq _ (by simp)) ((hm hb).keep (by (repeat (first | exact KeepP.refl | refine KeepP.call ?_ (by assumption) | refine KeepP.push ?_ | refine KeepP.more ?_ | refine KeepP.set ?_ (by first | (right; first | omega | (simp only [hn_push, hn_set, hn_more] <;> omega) | fail) | (left; simp; done) | fail)))))) ?_
  rintro v H1 ⟨c1, i1⟩
  have n1 := c1.n; try simp only [hn_push, hn_set, hn_more] at n1
  have i1' := i1
  obtain ⟨p1, q1, p2, q2, rfl, -⟩ := i1
  dsimp only
  repeat (first | refine Tot.pure (by simp (disch := first | omega | (simp only [hn_push, hn_set, hn_more] <;> omega) | fail) [ld1_get, ldN_get, stA_get, boxA, gz, gs, Heap.get_push_ne, Heap.get_push_eq, Heap.get_set_ne, Heap.get_set_eq, get_more, hn_push, hn_set, hn_more, c1.g]; try exact rfl) ?_ | refine Tot.chk (by simp (disch := first | omega | (simp only [hn_push, hn_set, hn_more] <;> omega) | fail) [ld1_get, ldN_get, stA_get, boxA, gz, gs, Heap.get_push_ne, Heap.get_push_eq, Heap.get_set_ne, Heap.get_set_eq, get_more, hn_push, hn_set, hn_more, c1.g]; done) ?_ | fail)
  refine Tot.bind (r5_add (hq _ (by omega)) ((hm ha).keep (by (repeat (first | exact KeepP.refl | refine KeepP.call ?_ (by assumption) | refine KeepP.push ?_ | refine KeepP.more ?_ | refine KeepP.set ?_ (by first | (right; first | omega | (simp only [hn_push, hn_set, hn_more] <;> omega) | fail) | (left; simp; done) | fail))))) i1' h1 (by rw [Int.natAbs_neg]; exact h2) h3 h4) ?_
  rintro v H2 ⟨c2, i2⟩
  have n2 := c2.n; try simp only [hn_push, hn_set, hn_more] at n2
  rw [Int.neg_mul, ← Int.sub_eq_add_neg] at i2
  have i2' := i2
  obtain ⟨p3, q3, p4, q4, rfl, -⟩ := i2
  dsimp only
  repeat (first | refine Tot.pure (by simp (disch := first | omega | (simp only [hn_push, hn_set, hn_more] <;> omega) | fail) [ld1_get, ldN_get, stA_get, boxA, gz, gs, Heap.get_push_ne, Heap.get_push_eq, Heap.get_set_ne, Heap.get_set_eq, get_more, hn_push, hn_set, hn_more, c1.g, c2.g]; try exact rfl) ?_ | refine Tot.chk (by simp (disch := first | omega | (simp only [hn_push, hn_set, hn_more] <;> omega) | fail) [ld1_get, ldN_get, stA_get, boxA, gz, gs, Heap.get_push_ne, Heap.get_push_eq, Heap.get_set_ne, Heap.get_set_eq, get_more, hn_push, hn_set, hn_more, c1.g, c2.g]; done) ?_ | fail)
  exact Tot.ret (hQ _ _ ⟨Keep.ext (by (repeat (first | exact Keep.refl | refine Keep.call ?_ (by assumption) | refine Keep.push ?_ | refine Keep.more ?_ | refine Keep.set ?_ (by first | omega | (simp only [hn_push, hn_set, hn_more] <;> omega) | fail)))), (i2'.keep (by (repeat (first | exact KeepP.refl | refine KeepP.call ?_ (by assumption) | refine KeepP.push ?_ | refine KeepP.more ?_ | refine KeepP.set ?_ (by first | (right; first | omega | (simp only [hn_push, hn_set, hn_more] <;> omega) | fail) | (left; simp; done) | fail))))).mono fun i _ hi => hi.1⟩)

theorem r5_cmp {H : Heap} {P : Nat → Prop} {v w : V} {n m : Int} {d e : Nat} (hP : UpP H P) (h : isK H P v n d) (h' : isK H P w m e) (h1 : (dig 65536 n.natAbs).length < 10000000) (h2 : (dig 65536 m.natAbs).length < 10000000) (h3 : (dig 65536 d).length < 10000000) (h4 : (dig 65536 e).length < 10000000) :
    Tot (fun n => f_ref05_Cmp n [v, w] H) fun v H' => Ext0 H H' ∧ v = .int .i64 (n * e - m * d).sign := by
  obtain ⟨σ, s, τ, t, rfl, a1, a2, hd⟩ := h
  obtain ⟨σ', s', τ', t', rfl, b1, b2, he⟩ := h'
  refine Tot.of fun Q hQ => ?_
  refine ref05_Cmp_tot ?_
  simp only [ref05_Cmp_b]
  have hq : ∀ (G : Heap), H.n ≤ G.n → UpP G P := fun G hG i hi => hP i (by omega)
  repeat (first | refine Tot.pure (by simp (disch := first | omega | (simp only [hn_push, hn_set, hn_more] <;> omega) | fail) [ld1_get, ldN_get, stA_get, boxA, gz, gs, Heap.get_push_ne, Heap.get_push_eq, Heap.get_set_ne, Heap.get_set_eq, get_more, hn_push, hn_set, hn_more, ]; try exact rfl) ?_ | refine Tot.chk (by simp (disch := first | omega | (simp only [hn_push, hn_set, hn_more] <;> omega) | fail) [ld1_get, ldN_get, stA_get, boxA, gz, gs, Heap.get_push_ne, Heap.get_push_eq, Heap.get_set_ne, Heap.get_set_eq, get_more, hn_push, hn_set, hn_more, ]; done) ?_ | fail)
  refine Tot.bind (r4_mul (hq _ (by simp; omega)) (a1.keep (by (repeat (first | exact KeepP.refl | refine KeepP.call ?_ (by assumption) | refine KeepP.push ?_ | refine KeepP.more ?_ | refine KeepP.set ?_ (by first | (right; first | omega | (simp only [hn_push, hn_set, hn_more] <;> omega) | fail) | (left; simp; done) | fail))))) (b2.keep (by (repeat (first | exact KeepP.refl | refine KeepP.call ?_ (by assumption) | refine KeepP.push ?_ | refine KeepP.more ?_ | refine KeepP.set ?_ (by first | (right; first | omega | (simp only [hn_push, hn_set, hn_more] <;> omega) | fail) | (left; simp; done) | fail))))) (by rw [Int.natAbs_natCast]; omega)) ?_
  rintro v H1 ⟨c1, i1⟩
  have n1 := c1.n; try simp only [hn_push, hn_set, hn_more] at n1
  obtain ⟨p1, q1, rfl, -⟩ := i1.shape
  dsimp only
  repeat (first | refine Tot.pure (by simp (disch := first | omega | (simp only [hn_push, hn_set, hn_more] <;> omega) | fail) [ld1_get, ldN_get, stA_get, boxA, gz, gs, Heap.get_push_ne, Heap.get_push_eq, Heap.get_set_ne, Heap.get_set_eq, get_more, hn_push, hn_set, hn_more, c1.g]; try exact rfl) ?_ | refine Tot.chk (by simp (disch := first | omega | (simp only [hn_push, hn_set, hn_more] <;> omega) | fail) [ld1_get, ldN_get, stA_get, boxA, gz, gs, Heap.get_push_ne, Heap.get_push_eq, Heap.get_set_ne, Heap.get_set_eq, get_more, hn_push, hn_set, hn_more, c1.g]; done) ?_ | fail)
  refine Tot.bind (r4_mul (hq _ (by omega)) (b1.keep (by (repeat (first | exact KeepP.refl | refine KeepP.call ?_ (by assumption) | refine KeepP.push ?_ | refine KeepP.more ?_ | refine KeepP.set ?_ (by first | (right; first | omega | (simp only [hn_push, hn_set, hn_more] <;> omega) | fail) | (left; simp; done) | fail))))) (a2.keep (by (repeat (first | exact KeepP.refl | refine KeepP.call ?_ (by assumption) | refine KeepP.push ?_ | refine KeepP.more ?_ | refine KeepP.set ?_ (by first | (right; first | omega | (simp only [hn_push, hn_set, hn_more] <;> omega) | fail) | (left; simp; done) | fail))))) (by rw [Int.natAbs_natCast]; omega)) ?_
  rintro v H2 ⟨c2, i2⟩
  have n2 := c2.n; try simp only [hn_push, hn_set, hn_more] at n2
  obtain ⟨p2, q2, rfl, -⟩ := i2.shape
  dsimp only
  have z1 := rsz_mul (x := n.natAbs) (y := e)
  have z2 := rsz_mul (x := m.natAbs) (y := d)
  rw [← Int.natAbs_natCast e, ← Int.natAbs_mul, Int.natAbs_natCast] at z1
  rw [← Int.natAbs_natCast d, ← Int.natAbs_mul, Int.natAbs_natCast] at z2
  refine Tot.bind (r4_cmp (hq _ (by omega)) (i1.keep (by (repeat (first | exact KeepP.refl | refine KeepP.call ?_ (by assumption) | refine KeepP.push ?_ | refine KeepP.more ?_ | refine KeepP.set ?_ (by first | (right; first | omega | (simp only [hn_push, hn_set, hn_more] <;> omega) | fail) | (left; simp; done) | fail))))) i2 (by omega) (by omega)) ?_
  rintro v H3 ⟨c3, rfl⟩
  exact Tot.ret (hQ _ _ ⟨Keep.ext (by (repeat (first | exact Keep.refl | refine Keep.call ?_ (by assumption) | refine Keep.push ?_ | refine Keep.more ?_ | refine Keep.set ?_ (by first | omega | (simp only [hn_push, hn_set, hn_more] <;> omega) | fail)))), rfl⟩)
end Go.AM
end

section
set_option linter.unusedVariables false
set_option linter.unusedSimpArgs false
/- What SvgNear gives: the digits of a text, read back. -/
set_option linter.unusedSimpArgs false
set_option linter.unusedVariables false
namespace Go.AM
attribute [local congr] bnd_weak ite_weak

/-- Digits, read from the left. -/
def rdl : List UInt8 → Nat → Nat
  | [], x => x
  | c :: s, x => if 48 ≤ c.toNat ∧ c.toNat ≤ 57 then rdl s (x * 10 + (c.toNat - 48)) else rdl s x

theorem rdl_app : ∀ (a b : List UInt8) (x : Nat), rdl (a ++ b) x = rdl b (rdl a x)
  | [], b, x => rfl
  | c :: a, b, x => by
    simp only [List.cons_append, rdl]
    split <;> exact rdl_app a b _
theorem rdl_zeros : ∀ k, rdl (List.replicate k 48) 0 = 0
  | 0 => rfl
  | k + 1 => by
    rw [List.replicate_succ]
    simp only [rdl]
    rw [if_pos (by decide)]
    exact rdl_zeros k
theorem ofNat_digit {d : Nat} (h : d < 10) : (UInt8.ofNat (48 + d)).toNat = 48 + d := by
  simp; omega
theorem rdl_digs : ∀ (ds : List Nat) (x : Nat), Lim 10 ds → rdl ((lets ds).reverse.map UInt8.ofNat) x = x * 10 ^ ds.length + val 10 ds
  | [], x, _ => by simp [rdl, lets, val]
  | d :: ds, x, h => by
    rw [Lim.cons] at h
    simp only [lets, List.map_cons, List.reverse_cons, List.map_append, List.map_nil]
    rw [rdl_app]
    have := rdl_digs ds x h.2
    simp only [lets] at this
    rw [this]
    simp only [rdl, ofNat_digit h.1]
    rw [if_pos (by omega), val_cons, List.length_cons, Nat.pow_succ]
    rw [show 48 + d - 48 = d by omega, Nat.add_mul, Nat.mul_assoc]
    omega
theorem rdl_dec (x : Nat) : rdl (dec x) 0 = x := by
  unfold dec
  split
  · subst_vars; rfl
  · rw [rdl_digs _ _ (dig_lim (by decide) x), val_dig (by decide)]; omega
theorem rdl_le : ∀ (s : List UInt8) (x : Nat), rdl s x < (x + 1) * 10 ^ s.length
  | [], x => by simp [rdl]
  | c :: s, x => by
    simp only [rdl, List.length_cons, Nat.pow_succ]
    have h0 : 0 < 10 ^ s.length := Nat.pow_pos (by decide)
    split
    · have := rdl_le s (x * 10 + (c.toNat - 48))
      refine Nat.lt_of_lt_of_le this ?_
      rw [Nat.mul_comm (10 ^ s.length) 10, ← Nat.mul_assoc]
      exact Nat.mul_le_mul_right _ (by omega)
    · have := rdl_le s x
      refine Nat.lt_of_lt_of_le this ?_
      rw [Nat.mul_comm (10 ^ s.length) 10, ← Nat.mul_assoc]
      exact Nat.mul_le_mul_right _ (by omega)
theorem rdl_len (s : List UInt8) : (dig 65536 (rdl s 0)).length ≤ s.length := by
  apply dig_len_le (by decide)
  have := rdl_le s 0
  refine Nat.lt_of_lt_of_le this ?_
  rw [Nat.zero_add, Nat.one_mul]
  exact Nat.pow_le_pow_left (by decide) _
theorem rdl_snoc {s : List UInt8} {i : Nat} {c : UInt8} (h : s[i]? = some c) (x : Nat) : rdl (s.take (i + 1)) x = if 48 ≤ c.toNat ∧ c.toNat ≤ 57 then rdl (s.take i) x * 10 + (c.toNat - 48) else rdl (s.take i) x := by
  rw [List.take_add_one, h, rdl_app]
  simp only [Option.toList, rdl]

theorem dec_digit {x : Nat} {c : UInt8} (h : c ∈ dec x) : 48 ≤ c.toNat ∧ c.toNat ≤ 57 := by
  unfold dec at h
  split at h
  · simp at h; subst h; decide
  · simp only [List.mem_map, List.mem_reverse, lets] at h
    obtain ⟨a, ⟨d, hd, rfl⟩, rfl⟩ := h
    have := dig_lim (b := 10) (by decide) x d hd
    rw [ofNat_digit this]; omega
/-- A text of a number without its sign. -/
def ufmt (z : Int) (places : Nat) : List UInt8 :=
  let s := List.replicate (places + 1 - (dec z.natAbs).length) 48 ++ dec z.natAbs
  if 0 < places then s.take (s.length - places) ++ [46] ++ s.drop (s.length - places) else s
theorem fmt_u (z : Int) (places : Nat) : fmt z places = if z < 0 then 45 :: ufmt z places else ufmt z places := rfl
theorem ufmt_mem {z : Int} {places : Nat} {c : UInt8} (h : c ∈ ufmt z places) : c ≠ 45 := by
  have key : ∀ c : UInt8, c ∈ List.replicate (places + 1 - (dec z.natAbs).length) 48 ++ dec z.natAbs → c ≠ 45 := by
    intro c hc
    rcases List.mem_append.1 hc with hc | hc
    · rw [(List.mem_replicate.1 hc).2]; decide
    · have := dec_digit hc
      rintro rfl
      exact absurd this (by decide)
  unfold ufmt at h
  split at h
  · rcases List.mem_append.1 h with h | h
    · rcases List.mem_append.1 h with h | h
      · exact key c (List.mem_of_mem_take h)
      · simp at h; subst h; decide
    · exact key c (List.mem_of_mem_drop h)
  · exact key c h
theorem ufmt_rdl (z : Int) (places : Nat) : rdl (ufmt z places) 0 = z.natAbs := by
  have key : rdl (List.replicate (places + 1 - (dec z.natAbs).length) 48 ++ dec z.natAbs) 0 = z.natAbs := by rw [rdl_app, rdl_zeros, rdl_dec]
  unfold ufmt
  split
  · generalize List.replicate (places + 1 - (dec z.natAbs).length) 48 ++ dec z.natAbs = s at *
    rw [rdl_app, rdl_app]
    have : ∀ x, rdl [46] x = x := fun x => by simp only [rdl]; rw [if_neg (by decide)]
    rw [this, ← rdl_app, List.take_append_drop]; exact key
  · exact key
theorem fmt_rdl (z : Int) (places : Nat) : rdl (fmt z places) 0 = z.natAbs := by
  rw [fmt_u]
  split
  · simp only [rdl]; rw [if_neg (by decide)]; exact ufmt_rdl z places
  · exact ufmt_rdl z places
theorem ufmt_len (z : Int) (places : Nat) : 0 < (ufmt z places).length ∧ (ufmt z places).length ≤ places + 3 + (dec z.natAbs).length := by
  have h0 := dec_pos (x := z.natAbs)
  unfold ufmt
  split
  · simp; omega
  · simp; omega
theorem fmt_len (z : Int) (places : Nat) : 0 < (fmt z places).length ∧ (fmt z places).length ≤ places + 4 + (dec z.natAbs).length := by
  have h0 := ufmt_len z places
  rw [fmt_u]
  split
  · simp; omega
  · omega
theorem fmt_head (z : Int) (places : Nat) : ∃ c s, fmt z places = c :: s ∧ (c = 45 ↔ z < 0) := by
  rw [fmt_u]
  split
  · rename_i h; exact ⟨45, _, rfl, by simp [h]⟩
  · rename_i h
    have h0 := ufmt_len z places
    match hu : ufmt z places, h0 with
    | c :: s, _ => exact ⟨c, s, rfl, by
        have := ufmt_mem (z := z) (places := places) (c := c) (by rw [hu]; simp)
        simp [this, h]⟩
    | [], h0 => simp at h0

/-- A rounded fraction is off it by no more than a half. -/
theorem rnd_near (n : Int) {d : Nat} (hd : 0 < d) : ((rnd n d * d - n) * 2 - d) ≤ 0 ∧ 0 < ((rnd n d * d - n) * 2 + d) := by
  have h1 := Int.emod_add_mul_ediv (n + n + (d : Int)) ((d + d : Nat) : Int)
  have h2 := Int.emod_nonneg (n + n + (d : Int)) (b := ((d + d : Nat) : Int)) (by omega)
  have h3 := Int.emod_lt_of_pos (n + n + (d : Int)) (b := ((d + d : Nat) : Int)) (by omega)
  unfold rnd
  generalize (n + n + (d : Int)) % ((d + d : Nat) : Int) = r at *
  generalize (n + n + (d : Int)) / ((d + d : Nat) : Int) = q at *
  have e : ((d + d : Nat) : Int) * q = q * d + q * d := by rw [Int.natCast_add, Int.add_mul, Int.mul_comm]
  rw [e] at h1
  omega

theorem ix_str {s : List UInt8} {i : Nat} {c : UInt8} (h : s[i]? = some c) {q : IntKind} {iv : Int} (he : iv = (i : Int)) : ixStr (.str s) (.int q iv) = some (.int .u8 (c.toNat : Int)) := by
  subst he
  simp only [ixStr, Int.toNat_natCast, h]
  rw [if_pos (by omega)]

set_option maxHeartbeats 2000000 in
theorem law_near {H : Heap} {v : V} {n : Int} {d N : Nat} {k : Int} (h : rawR H v n d N) (hk : 0 ≤ k ∧ k ≤ 255) :
    Tot (fun n => f_law40_SvgNear n [v, .int .u8 k] H) fun v H' => v = .bool true := by
  have ha := h
  obtain ⟨b, s, t, l, lt, rfl, -⟩ := h
  refine Tot.of fun Q hQ => ?_
  refine law40_SvgNear_tot ?_
  simp only [law40_SvgNear_b]
  repeat (first | refine Tot.pure (by simp (disch := first | omega | (simp only [hn_push, hn_set, hn_more] <;> omega) | fail) [ld1_get, ldN_get, stA_get, boxA, gz, gs, Heap.get_push_ne, Heap.get_push_eq, Heap.get_set_ne, Heap.get_set_eq, get_more, hn_push, hn_set, hn_more, ]; try exact rfl) ?_ | refine Tot.chk (by simp (disch := first | omega | (simp only [hn_push, hn_set, hn_more] <;> omega) | fail) [ld1_get, ldN_get, stA_get, boxA, gz, gs, Heap.get_push_ne, Heap.get_push_eq, Heap.get_set_ne, Heap.get_set_eq, get_more, hn_push, hn_set, hn_more, ]; done) ?_ | fail)
  refine Tot.bind (law_short (ha.ext Ch.push)) ?_
  rintro v H1 ⟨c1, n', d', r1⟩
  have n1 := c1.n; try simp only [hn_push, hn_set, hn_more] at n1
  obtain ⟨b1, s1, t1, l1, lt1, rfl, -⟩ := id (r1 H1 Ch.refl)
  dsimp only
  obtain ⟨p, hp, hp30⟩ : ∃ p : Nat, k % 31 = (p : Int) ∧ p ≤ 30 := ⟨(k % 31).toNat, by omega, by omega⟩
  have hrem : arA .rem (.int .u8 k) (.int .u8 31) = some (.int .u8 (p : Int)) := by rw [ar_rem (by omega), hp]
  have hcv : cvInt .i64 (.int .u8 (p : Int)) = some (.int .i64 (p : Int)) := by rw [cv_int, wrap_i64 (by omega)]
  repeat (first | refine Tot.pure (by simp (disch := first | omega | (simp only [hn_push, hn_set, hn_more] <;> omega) | fail) [ld1_get, ldN_get, stA_get, boxA, gz, gs, Heap.get_push_ne, Heap.get_push_eq, Heap.get_set_ne, Heap.get_set_eq, get_more, hn_push, hn_set, hn_more, c1.g, hrem, hcv]; try exact rfl) ?_ | refine Tot.chk (by simp (disch := first | omega | (simp only [hn_push, hn_set, hn_more] <;> omega) | fail) [ld1_get, ldN_get, stA_get, boxA, gz, gs, Heap.get_push_ne, Heap.get_push_eq, Heap.get_set_ne, Heap.get_set_eq, get_more, hn_push, hn_set, hn_more, c1.g, hrem, hcv]; done) ?_ | fail)
  obtain ⟨H2, h2⟩ : ∃ H2, H2 = H1.set H.n (.cells [.bool b1, .slice s1, .slice t1] ty_api_Rat false) := ⟨_, rfl⟩
  rw [← h2]
  have r2 := r1 H2 (by rw [h2]; exact Ch.set (by simp))
  have g2 : H2.get H.n = .cells [.bool b1, .slice s1, .slice t1] ty_api_Rat false := by rw [h2, Heap.get_set_eq rfl]
  have n2 : H2.n = H1.n := by rw [h2]; rfl
  refine Tot.bind (svg_Decimal_spec (places := p) r2 (by decide)) ?_
  rintro v H3 ⟨c3, rfl⟩
  have n3 := c3.n; try simp only [hn_push, hn_set, hn_more] at n3
  dsimp only
  rw [if_neg (by omega), Int.toNat_natCast]
  obtain ⟨z, hz⟩ : ∃ z, z = rnd (lowN n' d' * 10 ^ p) (lowD n' d') := ⟨_, rfl⟩
  rw [← hz]
  repeat (first | refine Tot.pure (by simp (disch := first | omega | (simp only [hn_push, hn_set, hn_more] <;> omega) | fail) [ld1_get, ldN_get, stA_get, boxA, gz, gs, Heap.get_push_ne, Heap.get_push_eq, Heap.get_set_ne, Heap.get_set_eq, get_more, hn_push, hn_set, hn_more, ext_tuple]; try exact rfl) ?_ | refine Tot.chk (by simp (disch := first | omega | (simp only [hn_push, hn_set, hn_more] <;> omega) | fail) [ld1_get, ldN_get, stA_get, boxA, gz, gs, Heap.get_push_ne, Heap.get_push_eq, Heap.get_set_ne, Heap.get_set_eq, get_more, hn_push, hn_set, hn_more, ext_tuple]; done) ?_ | fail)
  refine Tot.no (by decide) ?_
  have fl := fmt_len z p
  obtain ⟨ch, rest, hf, hch⟩ := fmt_head z p
  have hf0 : (fmt z p)[0]? = some ch := by rw [hf]; rfl
  have hneg : (decide (((ch.toNat : Nat) : Int) = 45)) = decide (z < 0) := by
    have h1 : ((ch.toNat : Nat) : Int) = 45 ↔ ch = 45 := by
      constructor
      · intro h; apply UInt8.toNat_inj.1; show ch.toNat = 45; omega
      · rintro rfl; rfl
    by_cases h0 : z < 0
    · rw [decide_eq_true h0, decide_eq_true (h1.2 (hch.2 h0))]
    · rw [decide_eq_false h0, decide_eq_false (fun h => h0 (hch.1 (h1.1 h)))]
  -- sizes
  have z1 : (dig 65536 n'.natAbs).length ≤ 8 ∧ (dig 65536 d').length ≤ 8 ∧ (dig 4294967296 (lowN n' d').natAbs).length ≤ 4 := by
    obtain ⟨b4, s4, t4, l4, lt4, -, -, -, z1, z2, z3, z4, z5, z6⟩ := r2
    refine ⟨r_len (N := 4) ?_, r_len (N := 4) ?_, ?_⟩
    · rw [z5, sgn_abs]; exact Nat.lt_of_lt_of_le (val_lt (b := 4294967296) z1) (Nat.pow_le_pow_right (by decide) z3)
    · rw [z6]; exact Nat.lt_of_lt_of_le (val_lt (b := 4294967296) z2) (Nat.pow_le_pow_right (by decide) z4)
    · refine Nat.le_trans (sz_mono lowN_le) ?_
      apply dig_len_le (by decide)
      rw [z5, sgn_abs]; exact Nat.lt_of_lt_of_le (val_lt (b := 4294967296) z1) (Nat.pow_le_pow_right (by decide) z3)
  have w3 : (dig 4294967296 z.natAbs).length ≤ 36 := by
    have q2 : (dig 4294967296 (lowN n' d' * 10 ^ p).natAbs).length ≤ 35 := by
      have h1 := sz_mul (x := (lowN n' d').natAbs) (y := (10 ^ p : Int).natAbs)
      rw [← Int.natAbs_mul] at h1
      have h2 : (dig 4294967296 (10 ^ p : Int).natAbs).length ≤ 31 := by
        apply dig_len_le (by decide)
        rw [Int.natAbs_pow]
        exact Nat.lt_of_le_of_lt (Nat.pow_le_pow_right (by decide) hp30) (by decide)
      omega
    rw [hz]
    exact rnd_sz (lowD_pos (n := n') (d := d')) q2
  have wl : (fmt z p).length ≤ 1000 := by
    have := dec_len (x := z.natAbs) (n := 36) (Nat.lt_of_lt_of_le (dig_len_lt (b := 4294967296) (by decide)) (Nat.pow_le_pow_right (by decide) w3)) (by decide)
    omega
  have w4 : (dig 65536 z.natAbs).length ≤ 1000 := by
    have := rdl_len (fmt z p)
    rw [fmt_rdl] at this
    omega
  repeat (first | refine Tot.pure (by simp (disch := first | omega | (simp only [hn_push, hn_set, hn_more] <;> omega) | fail) [ld1_get, ldN_get, stA_get, boxA, gz, gs, Heap.get_push_ne, Heap.get_push_eq, Heap.get_set_ne, Heap.get_set_eq, get_more, hn_push, hn_set, hn_more, len_str]; try exact rfl) ?_ | refine Tot.chk (by simp (disch := first | omega | (simp only [hn_push, hn_set, hn_more] <;> omega) | fail) [ld1_get, ldN_get, stA_get, boxA, gz, gs, Heap.get_push_ne, Heap.get_push_eq, Heap.get_set_ne, Heap.get_set_eq, get_more, hn_push, hn_set, hn_more, len_str]; done) ?_ | fail)
  refine Tot.no (by simp; intro e; rw [e] at fl; simp at fl) ?_
  obtain ⟨P, hPd⟩ : ∃ P : Nat → Prop, P = fun i => i ≠ H3.n + 0 ∧ i ≠ H3.n + 1 := ⟨_, rfl⟩
  have hU : ∀ (G : Heap), H3.n + 2 ≤ G.n → UpP G P := fun G hG i hi => by rw [hPd]; constructor <;> omega
  have hA : ¬ P (H3.n + 0) := by rw [hPd]; intro h; exact h.1 rfl
  have hB : ¬ P (H3.n + 1) := by rw [hPd]; intro h; exact h.2 rfl
  refine Tot.bind (r4_long (P := P) (z := 10) (hU _ (by simp)) (by decide)) ?_
  rintro v H4 ⟨c4, i4⟩
  have n4 := c4.n; try simp only [hn_push, hn_set, hn_more] at n4
  obtain ⟨σ4, s4, rfl, -⟩ := i4.shape
  dsimp only
  -- the last part
  have q4 : ∀ (G : Heap) (D : Nat) (σ : Int) (s : Sl) (σ1 τ1 : Int) (s1 t1 : Sl) (yn : Int) (yd : Nat), Keep 0 H3 G → H3.n + 2 ≤ D → D < G.n → z = rnd yn yd → (dig 65536 yn.natAbs).length ≤ 100 → (dig 65536 yd).length ≤ 100 →
      G.get H3.n = .cells [.int .i64 σ, .slice s] ty_ref04_Int false → G.get D = .cells [.int .i64 σ1, .slice s1, .int .i64 τ1, .slice t1] ty_ref05_Rat false →
      isJ G (fun _ => True) (.agg [.int .i64 σ, .slice s]) z → isK G (fun _ => True) (.agg [.int .i64 σ1, .slice s1, .int .i64 τ1, .slice t1]) yn yd →
      Tot (fun n => law40_SvgNear.p4 n (.ptr (some (H3.n + 0, 0))) (.ptr (some (D, 0))) G) Q := by
    intro G D σ s σ1 τ1 s1 t1 yn yd hk hD hDG hzy l1 l2 gA gD jz ky
    have hyd : 0 < yd := by obtain ⟨_, _, _, _, _, _, _, h⟩ := ky; exact h
    have hPP : ∀ (F : Heap), G.n + 2 ≤ F.n → UpP F (fun i => i ≠ G.n + 0 ∧ i ≠ G.n + 1) := fun F hF i hi => by constructor <;> omega
    have mJ : ∀ {v : V} {x : Int}, isJ G (fun _ => True) v x → isJ G (fun i => i ≠ G.n + 0 ∧ i ≠ G.n + 1) v x := fun h => h.mono fun i hi _ => by constructor <;> omega
    have mK : ∀ {v : V} {x : Int} {d : Nat}, isK G (fun _ => True) v x d → isK G (fun i => i ≠ G.n + 0 ∧ i ≠ G.n + 1) v x d := fun h => h.mono fun i hi _ => by constructor <;> omega
    have jz' := mJ jz
    have ky' := mK ky
    refine law40_SvgNear.p4_tot ?_
    simp only [law40_SvgNear.p4_b]
    refine Tot.bind (r4_long (z := 1) (hPP _ (by simp)) (by omega)) ?_
    rintro v G1 ⟨c1, i1⟩
    have m1 := c1.n; try simp only [hn_push, hn_set, hn_more] at m1
    obtain ⟨a1, b1, rfl, -⟩ := i1.shape
    dsimp only
    repeat (first | refine Tot.pure (by simp (disch := first | omega | (simp only [hn_push, hn_set, hn_more] <;> omega) | fail) [ld1_get, ldN_get, stA_get, boxA, gz, gs, Heap.get_push_ne, Heap.get_push_eq, Heap.get_set_ne, Heap.get_set_eq, get_more, hn_push, hn_set, hn_more, c1.g, gA, gD]; try exact rfl) ?_ | refine Tot.chk (by simp (disch := first | omega | (simp only [hn_push, hn_set, hn_more] <;> omega) | fail) [ld1_get, ldN_get, stA_get, boxA, gz, gs, Heap.get_push_ne, Heap.get_push_eq, Heap.get_set_ne, Heap.get_set_eq, get_more, hn_push, hn_set, hn_more, c1.g, gA, gD]; done) ?_ | fail)
    have kx : isK G1 (fun i => i ≠ G.n + 0 ∧ i ≠ G.n + 1) (.agg [.int .i64 σ, .slice s, .int .i64 a1, .slice b1]) z 1 := ⟨_, _, _, _, rfl, jz'.keep (by (repeat (first | exact KeepP.refl | refine KeepP.call ?_ (by assumption) | refine KeepP.push ?_ | refine KeepP.more ?_ | refine KeepP.set ?_ (by first | (right; first | omega | (simp only [hn_push, hn_set, hn_more] <;> omega) | fail) | (left; simp; done) | fail)))), i1, by decide⟩
    refine Tot.bind (r5_sub (hPP _ (by omega)) kx (ky'.keep (by (repeat (first | exact KeepP.refl | refine KeepP.call ?_ (by assumption) | refine KeepP.push ?_ | refine KeepP.more ?_ | refine KeepP.set ?_ (by first | (right; first | omega | (simp only [hn_push, hn_set, hn_more] <;> omega) | fail) | (left; simp; done) | fail))))) (by omega) (by omega) (by rw [one_rlen]; omega) (by omega)) ?_
    rintro v G2 ⟨c2, i2⟩
    have m2 := c2.n; try simp only [hn_push, hn_set, hn_more] at m2
    obtain ⟨a2, b2, a3, b3, rfl, -⟩ := id i2
    dsimp only
    refine Tot.bind (r4_long (z := 1) (hPP _ (by omega)) (by omega)) ?_
    rintro v G3 ⟨c33, i3⟩
    have m3 := c33.n; try simp only [hn_push, hn_set, hn_more] at m3
    obtain ⟨a4, b4, rfl, -⟩ := i3.shape
    dsimp only
    refine Tot.bind (r4_long (z := 2) (hPP _ (by omega)) (by omega)) ?_
    rintro v G4 ⟨c44, i4'⟩
    have m4 := c44.n; try simp only [hn_push, hn_set, hn_more] at m4
    obtain ⟨a5, b5, rfl, -⟩ := i4'.shape
    dsimp only
    repeat (first | refine Tot.pure (by simp (disch := first | omega | (simp only [hn_push, hn_set, hn_more] <;> omega) | fail) [ld1_get, ldN_get, stA_get, boxA, gz, gs, Heap.get_push_ne, Heap.get_push_eq, Heap.get_set_ne, Heap.get_set_eq, get_more, hn_push, hn_set, hn_more, ]; try exact rfl) ?_ | refine Tot.chk (by simp (disch := first | omega | (simp only [hn_push, hn_set, hn_more] <;> omega) | fail) [ld1_get, ldN_get, stA_get, boxA, gz, gs, Heap.get_push_ne, Heap.get_push_eq, Heap.get_set_ne, Heap.get_set_eq, get_more, hn_push, hn_set, hn_more, ]; done) ?_ | fail)
    obtain ⟨G5, h5⟩ : ∃ G5, G5 = (((G4.set G.n (.cells [.int .i64 0, .slice ⟨none, 0, 0, false⟩, .int .i64 0, .slice ⟨none, 0, 0, false⟩] ty_ref05_Rat false)).set (G.n + 1) (.cells [.int .i64 0, .slice ⟨none, 0, 0, false⟩, .int .i64 0, .slice ⟨none, 0, 0, false⟩] ty_ref05_Rat false)).set G.n (.cells [.int .i64 a2, .slice b2, .int .i64 a3, .slice b3] ty_ref05_Rat false)).set (G.n + 1) (.cells [.int .i64 a4, .slice b4, .int .i64 a5, .slice b5] ty_ref05_Rat false) := ⟨_, rfl⟩
    rw [← h5]
    have gE : G5.get G.n = .cells [.int .i64 a2, .slice b2, .int .i64 a3, .slice b3] ty_ref05_Rat false := by rw [h5]; simp (disch := first | omega | (simp only [hn_push, hn_set, hn_more] <;> omega) | (simp <;> omega) | fail) [ld1_get, ldN_get, stA_get, faA_mk, boxA_agg, Heap.get_push_ne, Heap.get_push_eq, Heap.get_set_ne, Heap.get_set_eq, get_more, hn_push, hn_set, hn_more, chk_agg, ]
    have gF : G5.get (G.n + 1) = .cells [.int .i64 a4, .slice b4, .int .i64 a5, .slice b5] ty_ref05_Rat false := by rw [h5, Heap.get_set_eq rfl]
    have m5 : G5.n = G4.n := by rw [h5]; rfl
    have e5 : KeepP (fun i => i ≠ G.n + 0 ∧ i ≠ G.n + 1) G4 G5 := by
      rw [h5]
      exact ((((KeepP.refl).set (.inl fun h => h.1 rfl)).set (.inl fun h => h.2 rfl)).set (.inl fun h => h.1 rfl)).set (.inl fun h => h.2 rfl)
    have k5 : Keep 0 H3 G5 := by
      rw [h5]
      exact Keep.set (Keep.set (Keep.set (Keep.set (((hk.call (Ch.more.t c1)).call ((c2.t c33).t c44))) (by omega)) (by omega)) (by omega)) (by omega)
    have kd : isK G5 (fun i => i ≠ G.n + 0 ∧ i ≠ G.n + 1) (.agg [.int .i64 a2, .slice b2, .int .i64 a3, .slice b3]) (z * yd - yn * (1 : Nat)) (1 * yd) := (i2.keep (by (repeat (first | exact KeepP.refl | refine KeepP.call ?_ (by assumption) | refine KeepP.push ?_ | refine KeepP.more ?_ | refine KeepP.set ?_ (by first | (right; first | omega | (simp only [hn_push, hn_set, hn_more] <;> omega) | fail) | (left; simp; done) | fail))))).keep e5
    have kh : isK G5 (fun i => i ≠ G.n + 0 ∧ i ≠ G.n + 1) (.agg [.int .i64 a4, .slice b4, .int .i64 a5, .slice b5]) 1 2 := ⟨_, _, _, _, rfl, (i3.keep (by (repeat (first | exact KeepP.refl | refine KeepP.call ?_ (by assumption) | refine KeepP.push ?_ | refine KeepP.more ?_ | refine KeepP.set ?_ (by first | (right; first | omega | (simp only [hn_push, hn_set, hn_more] <;> omega) | fail) | (left; simp; done) | fail))))).keep e5, i4'.keep e5, by decide⟩
    have s1' := rsz_mul (x := z.natAbs) (y := yd)
    have s2' : (dig 65536 (z * yd - yn * (1 : Nat)).natAbs).length ≤ 5000 := by
      have q1 : (dig 65536 (z.natAbs * yd)).length ≤ 4000 := by omega
      have q2 : (dig 65536 yn.natAbs).length ≤ 4000 := by omega
      have q3 := rsz_add q1 q2
      refine Nat.le_trans (rsz_mono (y := z.natAbs * yd + yn.natAbs) ?_) (by omega)
      have : (z * (yd : Int)).natAbs = z.natAbs * yd := by rw [Int.natAbs_mul, Int.natAbs_natCast]
      omega
    have s3' : (dig 65536 (1 * yd)).length ≤ 5000 := by rw [Nat.one_mul]; omega
    repeat (first | refine Tot.pure (by simp (disch := first | omega | (simp only [hn_push, hn_set, hn_more] <;> omega) | fail) [ld1_get, ldN_get, stA_get, boxA, gz, gs, Heap.get_push_ne, Heap.get_push_eq, Heap.get_set_ne, Heap.get_set_eq, get_more, hn_push, hn_set, hn_more, gE, gF]; try exact rfl) ?_ | refine Tot.chk (by simp (disch := first | omega | (simp only [hn_push, hn_set, hn_more] <;> omega) | fail) [ld1_get, ldN_get, stA_get, boxA, gz, gs, Heap.get_push_ne, Heap.get_push_eq, Heap.get_set_ne, Heap.get_set_eq, get_more, hn_push, hn_set, hn_more, gE, gF]; done) ?_ | fail)
    refine Tot.bind (r5_cmp (hPP _ (by simp only [hn_more]; omega)) (kd.keep (by (repeat (first | exact KeepP.refl | refine KeepP.call ?_ (by assumption) | refine KeepP.push ?_ | refine KeepP.more ?_ | refine KeepP.set ?_ (by first | (right; first | omega | (simp only [hn_push, hn_set, hn_more] <;> omega) | fail) | (left; simp; done) | fail))))) (kh.keep (by (repeat (first | exact KeepP.refl | refine KeepP.call ?_ (by assumption) | refine KeepP.push ?_ | refine KeepP.more ?_ | refine KeepP.set ?_ (by first | (right; first | omega | (simp only [hn_push, hn_set, hn_more] <;> omega) | fail) | (left; simp; done) | fail))))) (by omega) (by rw [show (1 : Int).natAbs = 1 from rfl, one_rlen]; omega) (by omega) (by rw [two_rlen]; omega)) ?_
    rintro v G6 ⟨c6, rfl⟩
    have m6 := c6.n; try simp only [hn_push, hn_set, hn_more] at m6
    dsimp only
    have near := rnd_near yn hyd
    rw [← hzy] at near
    have cmp1 : ((z * yd - yn * (1 : Nat)) * (2 : Nat) - 1 * ((1 * yd : Nat) : Int)).sign ≤ 0 := by
      have e : (z * yd - yn * (1 : Nat)) * (2 : Nat) - 1 * ((1 * yd : Nat) : Int) ≤ 0 := by simp; omega
      rcases sign_cases ((z * yd - yn * (1 : Nat)) * (2 : Nat) - 1 * ((1 * yd : Nat) : Int)) with h | h | h <;> omega
    have cmp2 : 0 < ((z * yd - yn * (1 : Nat)) * (2 : Nat) - (-1) * ((1 * yd : Nat) : Int)).sign := by
      have e : 0 < (z * yd - yn * (1 : Nat)) * (2 : Nat) - (-1) * ((1 * yd : Nat) : Int) := by simp; omega
      rw [Int.sign_eq_one_of_pos e]; decide
    repeat (first | refine Tot.pure (by simp (disch := first | omega | (simp only [hn_push, hn_set, hn_more] <;> omega) | fail) [ld1_get, ldN_get, stA_get, boxA, gz, gs, Heap.get_push_ne, Heap.get_push_eq, Heap.get_set_ne, Heap.get_set_eq, get_more, hn_push, hn_set, hn_more, ]; try exact rfl) ?_ | refine Tot.chk (by simp (disch := first | omega | (simp only [hn_push, hn_set, hn_more] <;> omega) | fail) [ld1_get, ldN_get, stA_get, boxA, gz, gs, Heap.get_push_ne, Heap.get_push_eq, Heap.get_set_ne, Heap.get_set_eq, get_more, hn_push, hn_set, hn_more, ]; done) ?_ | fail)
    refine Tot.yes (by simpa using cmp1) ?_
    repeat (first | refine Tot.pure (by simp (disch := first | omega | (simp only [hn_push, hn_set, hn_more] <;> omega) | fail) [ld1_get, ldN_get, stA_get, boxA, gz, gs, Heap.get_push_ne, Heap.get_push_eq, Heap.get_set_ne, Heap.get_set_eq, get_more, hn_push, hn_set, hn_more, c6.g, gE, gF]; try exact rfl) ?_ | refine Tot.chk (by simp (disch := first | omega | (simp only [hn_push, hn_set, hn_more] <;> omega) | fail) [ld1_get, ldN_get, stA_get, boxA, gz, gs, Heap.get_push_ne, Heap.get_push_eq, Heap.get_set_ne, Heap.get_set_eq, get_more, hn_push, hn_set, hn_more, c6.g, gE, gF]; done) ?_ | fail)
    refine Tot.bind (r5_neg (hPP _ (by omega)) (kh.keep (by (repeat (first | exact KeepP.refl | refine KeepP.call ?_ (by assumption) | refine KeepP.push ?_ | refine KeepP.more ?_ | refine KeepP.set ?_ (by first | (right; first | omega | (simp only [hn_push, hn_set, hn_more] <;> omega) | fail) | (left; simp; done) | fail)))))) ?_
    rintro v G7 ⟨c7, i7⟩
    have m7 := c7.n; try simp only [hn_push, hn_set, hn_more] at m7
    obtain ⟨a7, b7, a8, b8, rfl, -⟩ := id i7
    dsimp only
    repeat (first | refine Tot.pure (by simp (disch := first | omega | (simp only [hn_push, hn_set, hn_more] <;> omega) | fail) [ld1_get, ldN_get, stA_get, boxA, gz, gs, Heap.get_push_ne, Heap.get_push_eq, Heap.get_set_ne, Heap.get_set_eq, get_more, hn_push, hn_set, hn_more, c6.g, c7.g, gE, gF]; try exact rfl) ?_ | refine Tot.chk (by simp (disch := first | omega | (simp only [hn_push, hn_set, hn_more] <;> omega) | fail) [ld1_get, ldN_get, stA_get, boxA, gz, gs, Heap.get_push_ne, Heap.get_push_eq, Heap.get_set_ne, Heap.get_set_eq, get_more, hn_push, hn_set, hn_more, c6.g, c7.g, gE, gF]; done) ?_ | fail)
    refine Tot.bind (r5_cmp (hPP _ (by omega)) (kd.keep (by (repeat (first | exact KeepP.refl | refine KeepP.call ?_ (by assumption) | refine KeepP.push ?_ | refine KeepP.more ?_ | refine KeepP.set ?_ (by first | (right; first | omega | (simp only [hn_push, hn_set, hn_more] <;> omega) | fail) | (left; simp; done) | fail))))) i7 (by omega) (by rw [show (-1 : Int).natAbs = 1 from rfl, one_rlen]; omega) (by omega) (by rw [two_rlen]; omega)) ?_
    rintro v G8 ⟨c8, rfl⟩
    dsimp only
    repeat (first | refine Tot.pure (by simp (disch := first | omega | (simp only [hn_push, hn_set, hn_more] <;> omega) | fail) [ld1_get, ldN_get, stA_get, boxA, gz, gs, Heap.get_push_ne, Heap.get_push_eq, Heap.get_set_ne, Heap.get_set_eq, get_more, hn_push, hn_set, hn_more, ]; try exact rfl) ?_ | refine Tot.chk (by simp (disch := first | omega | (simp only [hn_push, hn_set, hn_more] <;> omega) | fail) [ld1_get, ldN_get, stA_get, boxA, gz, gs, Heap.get_push_ne, Heap.get_push_eq, Heap.get_set_ne, Heap.get_set_eq, get_more, hn_push, hn_set, hn_more, ]; done) ?_ | fail)
    refine Tot.yes (by simpa using cmp2) ?_
    refine Tot.bind law_lives ?_
    rintro v G9 ⟨-, rfl⟩
    exact Tot.ret (hQ _ _ rfl)
  -- times ten
  have q3 : ∀ (G : Heap) (σ : Int) (s : Sl), Keep 0 H3 G → H3.n + 2 ≤ G.n → G.get H3.n = .cells [.int .i64 σ, .slice s] ty_ref04_Int false → isJ G (fun _ => True) (.agg [.int .i64 σ, .slice s]) z →
      Tot (fun n => law40_SvgNear.p2 n (.ptr (some (H.n, 0))) (.int .i64 (p : Int)) (.ptr (some (H3.n + 0, 0))) G) Q := by
    intro G σ s hk hG gA jz
    have c3G : Ext0 H3 G := Keep.ext hk
    refine law40_SvgNear.p2_tot ?_
    simp only [law40_SvgNear.p2_b]
    repeat (first | refine Tot.pure (by simp (disch := first | omega | (simp only [hn_push, hn_set, hn_more] <;> omega) | fail) [ld1_get, ldN_get, stA_get, boxA, gz, gs, Heap.get_push_ne, Heap.get_push_eq, Heap.get_set_ne, Heap.get_set_eq, get_more, hn_push, hn_set, hn_more, c3G.g, c3.g, g2]; try exact rfl) ?_ | refine Tot.chk (by simp (disch := first | omega | (simp only [hn_push, hn_set, hn_more] <;> omega) | fail) [ld1_get, ldN_get, stA_get, boxA, gz, gs, Heap.get_push_ne, Heap.get_push_eq, Heap.get_set_ne, Heap.get_set_eq, get_more, hn_push, hn_set, hn_more, c3G.g, c3.g, g2]; done) ?_ | fail)
    refine Tot.bind (r5_of (P := fun _ => True) (fun i hi => trivial) (r2.ext (c3.t c3G)) (by decide)) ?_
    rintro v G1 ⟨c11, i1⟩
    have m1 := c11.n; try simp only [hn_push, hn_set, hn_more] at m1
    obtain ⟨a1, b1, a2, b2, rfl, -⟩ := id i1
    obtain ⟨n2', hn2⟩ : ∃ x, x = (if d' = 0 then 0 else n') := ⟨_, rfl⟩
    obtain ⟨d2', hd2⟩ : ∃ x, x = (if d' = 0 then 1 else d') := ⟨_, rfl⟩
    rw [← hn2, ← hd2] at i1
    have y1 : (dig 65536 n2'.natAbs).length ≤ 8 := by
      rw [hn2]; split
      · simp [dig_zero]
      · exact z1.1
    have y2 : (dig 65536 d2').length ≤ 8 := by
      rw [hd2]; split
      · exact r_len (N := 4) (by decide)
      · exact z1.2.1
    have e1 : z = rnd (n2' * 10 ^ p) d2' := by
      have e2 : lowN n2' d2' = lowN n' d' := by
        rw [hn2, hd2]
        by_cases h0 : d' = 0
        · rw [if_pos h0, if_pos h0, h0]; simp [lowN, lowD, sgn]
        · rw [if_neg h0, if_neg h0]
      have e3 : lowD n2' d2' = lowD n' d' := by
        rw [hn2, hd2]
        by_cases h0 : d' = 0
        · rw [if_pos h0, if_pos h0, h0]; simp [lowN, lowD, sgn]
        · rw [if_neg h0, if_neg h0]
      have hd0 : 0 < d2' := by rw [hd2]; split <;> omega
      rw [hz, ← e2, ← e3]
      refine rnd_eq lowD_pos hd0 ?_
      have := low_eq (n := n2') hd0
      rw [Int.mul_right_comm, this, Int.mul_right_comm]
    dsimp only
    repeat (first | refine Tot.pure (by simp (disch := first | omega | (simp only [hn_push, hn_set, hn_more] <;> omega) | fail) [ld1_get, ldN_get, stA_get, boxA, gz, gs, Heap.get_push_ne, Heap.get_push_eq, Heap.get_set_ne, Heap.get_set_eq, get_more, hn_push, hn_set, hn_more, ]; try exact rfl) ?_ | refine Tot.chk (by simp (disch := first | omega | (simp only [hn_push, hn_set, hn_more] <;> omega) | fail) [ld1_get, ldN_get, stA_get, boxA, gz, gs, Heap.get_push_ne, Heap.get_push_eq, Heap.get_set_ne, Heap.get_set_eq, get_more, hn_push, hn_set, hn_more, ]; done) ?_ | fail)
    have lp : ∀ (j i : Nat) (ii : Int) (F : Heap) (σ1 τ1 : Int) (s1 t1 : Sl), i + j = p → ii = (i : Int) → Keep 0 G1 F → G1.n + 1 ≤ F.n → F.get G1.n = .cells [.int .i64 σ1, .slice s1, .int .i64 τ1, .slice t1] ty_ref05_Rat false →
        isK F (fun i => i ≠ G1.n) (.agg [.int .i64 σ1, .slice s1, .int .i64 τ1, .slice t1]) (n2' * 10 ^ i) d2' → (dig 65536 (n2' * 10 ^ i).natAbs).length ≤ 8 + i → ∀ m, Big m →
        Tot (fun n => law40_SvgNear.l3 n (m n) (.int .i64 (p : Int)) (.ptr (some (H3.n + 0, 0))) (.ptr (some (G1.n, 0))) (.int .i64 ii) F) Q := by
      intro j
      have hq : ∀ (G : Heap), G1.n + 1 ≤ G.n → UpP G (fun i => i ≠ G1.n) := fun G hG i hi => by omega
      induction j with
      | zero =>
        intro i ii F σ1 τ1 s1 t1 hi hii k hn g0 hk' hz' m hb
        subst hii
        refine law40_SvgNear.l3_tot hb fun m' hb' => ?_
        simp only [law40_SvgNear.l3_b]
        repeat (first | refine Tot.pure (by simp (disch := first | omega | (simp only [hn_push, hn_set, hn_more] <;> omega) | fail) [ld1_get, ldN_get, stA_get, boxA, gz, gs, Heap.get_push_ne, Heap.get_push_eq, Heap.get_set_ne, Heap.get_set_eq, get_more, hn_push, hn_set, hn_more, ]; try exact rfl) ?_ | refine Tot.chk (by simp (disch := first | omega | (simp only [hn_push, hn_set, hn_more] <;> omega) | fail) [ld1_get, ldN_get, stA_get, boxA, gz, gs, Heap.get_push_ne, Heap.get_push_eq, Heap.get_set_ne, Heap.get_set_eq, get_more, hn_push, hn_set, hn_more, ]; done) ?_ | fail)
        refine Tot.no (by simp; omega) ?_
        have hip : i = p := by omega
        rw [hip] at hk' hz'
        refine q4 F G1.n σ s σ1 τ1 s1 t1 _ d2' ?_ (by omega) (by omega) e1 (by omega) (by omega) ?_ g0 ?_ (hk'.mono fun i _ _ => trivial)
        · exact (hk.call c11).call (Keep.ext k)
        · rw [(Keep.ext k).g (by omega), c11.g (by omega)]; exact gA
        · exact (jz.keep (by (repeat (first | exact KeepP.refl | refine KeepP.call ?_ (by assumption) | refine KeepP.push ?_ | refine KeepP.more ?_ | refine KeepP.set ?_ (by first | (right; first | omega | (simp only [hn_push, hn_set, hn_more] <;> omega) | fail) | (left; simp; done) | fail))))).keep (KeepP.call KeepP.refl (Keep.ext k))
      | succ j ih =>
        intro i ii F σ1 τ1 s1 t1 hi hii k hn g0 hk' hz' m hb
        subst hii
        refine law40_SvgNear.l3_tot hb fun m' hb' => ?_
        simp only [law40_SvgNear.l3_b]
        repeat (first | refine Tot.pure (by simp (disch := first | omega | (simp only [hn_push, hn_set, hn_more] <;> omega) | fail) [ld1_get, ldN_get, stA_get, boxA, gz, gs, Heap.get_push_ne, Heap.get_push_eq, Heap.get_set_ne, Heap.get_set_eq, get_more, hn_push, hn_set, hn_more, ]; try exact rfl) ?_ | refine Tot.chk (by simp (disch := first | omega | (simp only [hn_push, hn_set, hn_more] <;> omega) | fail) [ld1_get, ldN_get, stA_get, boxA, gz, gs, Heap.get_push_ne, Heap.get_push_eq, Heap.get_set_ne, Heap.get_set_eq, get_more, hn_push, hn_set, hn_more, ]; done) ?_ | fail)
        refine Tot.yes (by simp; omega) ?_
        refine Tot.bind (r5_long (z := 10) (hq _ (by simp only [hn_more]; omega)) (by omega)) ?_
        rintro v F2 ⟨c2, i2⟩
        have n2 := c2.n; try simp only [hn_push, hn_set, hn_more] at n2
        have i2' := i2
        obtain ⟨p2, q2, p3, q3, rfl, -⟩ := i2
        dsimp only
        repeat (first | refine Tot.pure (by simp (disch := first | omega | (simp only [hn_push, hn_set, hn_more] <;> omega) | fail) [ld1_get, ldN_get, stA_get, boxA, gz, gs, Heap.get_push_ne, Heap.get_push_eq, Heap.get_set_ne, Heap.get_set_eq, get_more, hn_push, hn_set, hn_more, c2.g, g0]; try exact rfl) ?_ | refine Tot.chk (by simp (disch := first | omega | (simp only [hn_push, hn_set, hn_more] <;> omega) | fail) [ld1_get, ldN_get, stA_get, boxA, gz, gs, Heap.get_push_ne, Heap.get_push_eq, Heap.get_set_ne, Heap.get_set_eq, get_more, hn_push, hn_set, hn_more, c2.g, g0]; done) ?_ | fail)
        refine Tot.bind (r5_mul (hq _ (by omega)) (hk'.keep (by (repeat (first | exact KeepP.refl | refine KeepP.call ?_ (by assumption) | refine KeepP.push ?_ | refine KeepP.more ?_ | refine KeepP.set ?_ (by first | (right; first | omega | (simp only [hn_push, hn_set, hn_more] <;> omega) | fail) | (left; simp; done) | fail))))) i2' (by rw [show (10 : Int).natAbs = 10 from rfl, ten_rlen]; omega) (by rw [one_rlen]; omega)) ?_
        rintro v F3 ⟨c3, i3⟩
        have n3 := c3.n; try simp only [hn_push, hn_set, hn_more] at n3
        have i3' := i3
        obtain ⟨p4, q4, p5, q5, rfl, -⟩ := i3
        rw [Nat.mul_one, Int.mul_assoc, ← Int.pow_succ] at i3'
        have hz2 : (dig 65536 (n2' * 10 ^ (i + 1)).natAbs).length ≤ 8 + (i + 1) := by
          have e := rsz_mul (x := (n2' * 10 ^ i).natAbs) (y := 10)
          have e2 : (n2' * 10 ^ (i + 1)).natAbs = (n2' * 10 ^ i).natAbs * 10 := by rw [Int.pow_succ, ← Int.mul_assoc, Int.natAbs_mul]; rfl
          rw [ten_rlen] at e
          rw [e2]; omega
        dsimp only
        repeat (first | refine Tot.pure (by simp (disch := first | omega | (simp only [hn_push, hn_set, hn_more] <;> omega) | fail) [ld1_get, ldN_get, stA_get, boxA, gz, gs, Heap.get_push_ne, Heap.get_push_eq, Heap.get_set_ne, Heap.get_set_eq, get_more, hn_push, hn_set, hn_more, c2.g, c3.g, g0]; try exact rfl) ?_ | refine Tot.chk (by simp (disch := first | omega | (simp only [hn_push, hn_set, hn_more] <;> omega) | fail) [ld1_get, ldN_get, stA_get, boxA, gz, gs, Heap.get_push_ne, Heap.get_push_eq, Heap.get_set_ne, Heap.get_set_eq, get_more, hn_push, hn_set, hn_more, c2.g, c3.g, g0]; done) ?_ | fail)
        exact ih (i + 1) _ _ p4 p5 q4 q5 (by omega) (by omega) (Keep.set ((k.call (Ch.more.t c2)).call c3) (by omega)) (by simp only [hn_set]; omega) (by rw [Heap.get_set_eq rfl]) (i3'.keep (by (repeat (first | exact KeepP.refl | refine KeepP.call ?_ (by assumption) | refine KeepP.push ?_ | refine KeepP.more ?_ | refine KeepP.set ?_ (by first | (right; first | omega | (simp only [hn_push, hn_set, hn_more] <;> omega) | fail) | (left; simp; done) | fail))))) hz2 _ hb'
    refine lp p 0 _ _ a1 a2 b1 b2 (by omega) rfl (by (repeat (first | exact Keep.refl | refine Keep.call ?_ (by assumption) | refine Keep.push ?_ | refine Keep.more ?_ | refine Keep.set ?_ (by first | omega | (simp only [hn_push, hn_set, hn_more] <;> omega) | fail)))) (by simp) (by simp (disch := first | omega | (simp only [hn_push, hn_set, hn_more] <;> omega) | (simp <;> omega) | fail) [ld1_get, ldN_get, stA_get, faA_mk, boxA_agg, Heap.get_push_ne, Heap.get_push_eq, Heap.get_set_ne, Heap.get_set_eq, get_more, hn_push, hn_set, hn_more, chk_agg, ]) ?_ (by simpa using y1) _ Big.id
    rw [Int.pow_zero, Int.mul_one]
    exact (i1.mono fun i hi _ => by omega).keep (by (repeat (first | exact KeepP.refl | refine KeepP.call ?_ (by assumption) | refine KeepP.push ?_ | refine KeepP.more ?_ | refine KeepP.set ?_ (by first | (right; first | omega | (simp only [hn_push, hn_set, hn_more] <;> omega) | fail) | (left; simp; done) | fail))))
  -- the sign
  have q2 : ∀ (G : Heap) (σ : Int) (s : Sl), Keep 0 H3 G → H3.n + 2 ≤ G.n → G.get H3.n = .cells [.int .i64 σ, .slice s] ty_ref04_Int false → isJ G P (.agg [.int .i64 σ, .slice s]) (z.natAbs : Int) →
      Tot (fun n => law40_SvgNear.p1 n (.ptr (some (H.n, 0))) (.int .i64 (p : Int)) (.ptr (some (H3.n + 0, 0))) (.bool (decide (z < 0))) G) Q := by
    intro G σ s hk hG gA jz
    refine law40_SvgNear.p1_tot ?_
    simp only [law40_SvgNear.p1_b]
    repeat (first | refine Tot.pure (by simp (disch := first | omega | (simp only [hn_push, hn_set, hn_more] <;> omega) | fail) [ld1_get, ldN_get, stA_get, boxA, gz, gs, Heap.get_push_ne, Heap.get_push_eq, Heap.get_set_ne, Heap.get_set_eq, get_more, hn_push, hn_set, hn_more, ]; try exact rfl) ?_ | refine Tot.chk (by simp (disch := first | omega | (simp only [hn_push, hn_set, hn_more] <;> omega) | fail) [ld1_get, ldN_get, stA_get, boxA, gz, gs, Heap.get_push_ne, Heap.get_push_eq, Heap.get_set_ne, Heap.get_set_eq, get_more, hn_push, hn_set, hn_more, ]; done) ?_ | fail)
    by_cases h0 : z < 0
    · refine Tot.yes (decide_eq_true h0) ?_
      repeat (first | refine Tot.pure (by simp (disch := first | omega | (simp only [hn_push, hn_set, hn_more] <;> omega) | fail) [ld1_get, ldN_get, stA_get, boxA, gz, gs, Heap.get_push_ne, Heap.get_push_eq, Heap.get_set_ne, Heap.get_set_eq, get_more, hn_push, hn_set, hn_more, gA]; try exact rfl) ?_ | refine Tot.chk (by simp (disch := first | omega | (simp only [hn_push, hn_set, hn_more] <;> omega) | fail) [ld1_get, ldN_get, stA_get, boxA, gz, gs, Heap.get_push_ne, Heap.get_push_eq, Heap.get_set_ne, Heap.get_set_eq, get_more, hn_push, hn_set, hn_more, gA]; done) ?_ | fail)
      refine Tot.bind (r4_neg jz) ?_
      rintro v G1 ⟨c1, i1⟩
      have m1 := c1.n; try simp only [hn_push, hn_set, hn_more] at m1
      obtain ⟨a1, b1, rfl, -⟩ := i1.shape
      dsimp only
      repeat (first | refine Tot.pure (by simp (disch := first | omega | (simp only [hn_push, hn_set, hn_more] <;> omega) | fail) [ld1_get, ldN_get, stA_get, boxA, gz, gs, Heap.get_push_ne, Heap.get_push_eq, Heap.get_set_ne, Heap.get_set_eq, get_more, hn_push, hn_set, hn_more, c1.g, gA]; try exact rfl) ?_ | refine Tot.chk (by simp (disch := first | omega | (simp only [hn_push, hn_set, hn_more] <;> omega) | fail) [ld1_get, ldN_get, stA_get, boxA, gz, gs, Heap.get_push_ne, Heap.get_push_eq, Heap.get_set_ne, Heap.get_set_eq, get_more, hn_push, hn_set, hn_more, c1.g, gA]; done) ?_ | fail)
      refine q3 _ a1 b1 (Keep.set (hk.call c1) (by omega)) (by simp only [hn_set]; omega) (by rw [Heap.get_set_eq rfl]) ?_
      have e : -(z.natAbs : Int) = z := by omega
      rw [e] at i1
      exact (i1.keep (KeepP.refl.set (.inl hA))).mono fun i _ _ => trivial
    · refine Tot.no (by simpa using h0) ?_
      have e : (z.natAbs : Int) = z := by omega
      rw [e] at jz
      exact q3 _ σ s hk hG gA (jz.mono fun i _ _ => trivial)
  -- the digits
  have lp : ∀ (j i : Nat) (ii : Int) (G : Heap) (σ : Int) (s : Sl), i + j = (fmt z p).length → ii = (i : Int) → Keep 0 H3 G → H3.n + 2 ≤ G.n → G.get H3.n = .cells [.int .i64 σ, .slice s] ty_ref04_Int false → G.get (H3.n + 1) = .cells [.int .i64 σ4, .slice s4] ty_ref04_Int false →
      isJ G P (.agg [.int .i64 σ, .slice s]) ((rdl ((fmt z p).take i) 0 : Nat) : Int) → isJ G P (.agg [.int .i64 σ4, .slice s4]) 10 → ∀ m, Big m →
      Tot (fun n => law40_SvgNear.l0 n (m n) (.ptr (some (H.n, 0))) (.int .i64 (p : Int)) (.str (fmt z p)) (.ptr (some (H3.n + 0, 0))) (.ptr (some (H3.n + 1, 0))) (.bool (decide (z < 0))) (.int .i64 ii) G) Q := by
    intro j
    induction j with
    | zero =>
      intro i ii G σ s hi hii hk hG gA gB jx j10 m hb
      subst hii
      refine law40_SvgNear.l0_tot hb fun m' hb' => ?_
      simp only [law40_SvgNear.l0_b]
      repeat (first | refine Tot.pure (by simp (disch := first | omega | (simp only [hn_push, hn_set, hn_more] <;> omega) | fail) [ld1_get, ldN_get, stA_get, boxA, gz, gs, Heap.get_push_ne, Heap.get_push_eq, Heap.get_set_ne, Heap.get_set_eq, get_more, hn_push, hn_set, hn_more, len_str]; try exact rfl) ?_ | refine Tot.chk (by simp (disch := first | omega | (simp only [hn_push, hn_set, hn_more] <;> omega) | fail) [ld1_get, ldN_get, stA_get, boxA, gz, gs, Heap.get_push_ne, Heap.get_push_eq, Heap.get_set_ne, Heap.get_set_eq, get_more, hn_push, hn_set, hn_more, len_str]; done) ?_ | fail)
      refine Tot.no (by simp; omega) ?_
      rw [List.take_of_length_le (by omega), fmt_rdl] at jx
      exact q2 G σ s hk hG gA jx
    | succ j ih =>
      intro i ii G σ s hi hii hk hG gA gB jx j10 m hb
      subst hii
      refine law40_SvgNear.l0_tot hb fun m' hb' => ?_
      simp only [law40_SvgNear.l0_b]
      obtain ⟨c, hc⟩ : ∃ c, (fmt z p)[i]? = some c := ⟨(fmt z p)[i]'(by omega), List.getElem?_eq_getElem (by omega)⟩
      have hstep := rdl_snoc hc 0
      repeat (first | refine Tot.pure (by simp (disch := first | omega | (simp only [hn_push, hn_set, hn_more] <;> omega) | fail) [ld1_get, ldN_get, stA_get, boxA, gz, gs, Heap.get_push_ne, Heap.get_push_eq, Heap.get_set_ne, Heap.get_set_eq, get_more, hn_push, hn_set, hn_more, len_str]; try exact rfl) ?_ | refine Tot.chk (by simp (disch := first | omega | (simp only [hn_push, hn_set, hn_more] <;> omega) | fail) [ld1_get, ldN_get, stA_get, boxA, gz, gs, Heap.get_push_ne, Heap.get_push_eq, Heap.get_set_ne, Heap.get_set_eq, get_more, hn_push, hn_set, hn_more, len_str]; done) ?_ | fail)
      refine Tot.yes (by simp; omega) ?_
      repeat (first | refine Tot.pure (by simp (disch := first | omega | (simp only [hn_push, hn_set, hn_more] <;> omega) | fail) [ld1_get, ldN_get, stA_get, boxA, gz, gs, Heap.get_push_ne, Heap.get_push_eq, Heap.get_set_ne, Heap.get_set_eq, get_more, hn_push, hn_set, hn_more, ix_str hc]; try exact rfl) ?_ | refine Tot.chk (by simp (disch := first | omega | (simp only [hn_push, hn_set, hn_more] <;> omega) | fail) [ld1_get, ldN_get, stA_get, boxA, gz, gs, Heap.get_push_ne, Heap.get_push_eq, Heap.get_set_ne, Heap.get_set_eq, get_more, hn_push, hn_set, hn_more, ix_str hc]; done) ?_ | fail)
      have hskip : ¬ (48 ≤ c.toNat ∧ c.toNat ≤ 57) → ∀ m', Big m' → Tot (fun n => bnd (arA .add (.int .i64 (i : Int)) (.int .i64 1)) fun t => law40_SvgNear.l0 n (m' n) (.ptr (some (H.n, 0))) (.int .i64 (p : Int)) (.str (fmt z p)) (.ptr (some (H3.n + 0, 0))) (.ptr (some (H3.n + 1, 0))) (.bool (decide (z < 0))) t G) Q := by
        intro hno m' hb'
        rw [if_neg hno] at hstep
        rw [← hstep] at jx
        repeat (first | refine Tot.pure (by simp (disch := first | omega | (simp only [hn_push, hn_set, hn_more] <;> omega) | fail) [ld1_get, ldN_get, stA_get, boxA, gz, gs, Heap.get_push_ne, Heap.get_push_eq, Heap.get_set_ne, Heap.get_set_eq, get_more, hn_push, hn_set, hn_more, ]; try exact rfl) ?_ | refine Tot.chk (by simp (disch := first | omega | (simp only [hn_push, hn_set, hn_more] <;> omega) | fail) [ld1_get, ldN_get, stA_get, boxA, gz, gs, Heap.get_push_ne, Heap.get_push_eq, Heap.get_set_ne, Heap.get_set_eq, get_more, hn_push, hn_set, hn_more, ]; done) ?_ | fail)
        exact ih (i + 1) _ G σ s (by omega) (by omega) hk hG gA gB jx j10 m' hb'
      refine Tot.ite (fun h1 => ?_) (fun h1 => ?_)
      · have h1' : 48 ≤ c.toNat := by have := of_decide_eq_true h1; omega
        repeat (first | refine Tot.pure (by simp (disch := first | omega | (simp only [hn_push, hn_set, hn_more] <;> omega) | fail) [ld1_get, ldN_get, stA_get, boxA, gz, gs, Heap.get_push_ne, Heap.get_push_eq, Heap.get_set_ne, Heap.get_set_eq, get_more, hn_push, hn_set, hn_more, ix_str hc]; try exact rfl) ?_ | refine Tot.chk (by simp (disch := first | omega | (simp only [hn_push, hn_set, hn_more] <;> omega) | fail) [ld1_get, ldN_get, stA_get, boxA, gz, gs, Heap.get_push_ne, Heap.get_push_eq, Heap.get_set_ne, Heap.get_set_eq, get_more, hn_push, hn_set, hn_more, ix_str hc]; done) ?_ | fail)
        refine Tot.ite (fun h2 => ?_) (fun h2 => ?_)
        · have h2' : c.toNat ≤ 57 := by have := of_decide_eq_true h2; omega
          have hl := rdl_len ((fmt z p).take i)
          have hl2 : ((fmt z p).take i).length ≤ 1000 := by simp; omega
          repeat (first | refine Tot.pure (by simp (disch := first | omega | (simp only [hn_push, hn_set, hn_more] <;> omega) | fail) [ld1_get, ldN_get, stA_get, boxA, gz, gs, Heap.get_push_ne, Heap.get_push_eq, Heap.get_set_ne, Heap.get_set_eq, get_more, hn_push, hn_set, hn_more, gA, gB]; try exact rfl) ?_ | refine Tot.chk (by simp (disch := first | omega | (simp only [hn_push, hn_set, hn_more] <;> omega) | fail) [ld1_get, ldN_get, stA_get, boxA, gz, gs, Heap.get_push_ne, Heap.get_push_eq, Heap.get_set_ne, Heap.get_set_eq, get_more, hn_push, hn_set, hn_more, gA, gB]; done) ?_ | fail)
          refine Tot.bind (r4_mul (hU _ (by simp only [hn_more]; omega)) (jx.keep (by (repeat (first | exact KeepP.refl | refine KeepP.call ?_ (by assumption) | refine KeepP.push ?_ | refine KeepP.more ?_ | refine KeepP.set ?_ (by first | (right; first | omega | (simp only [hn_push, hn_set, hn_more] <;> omega) | fail) | (left; simp; done) | fail))))) (j10.keep (by (repeat (first | exact KeepP.refl | refine KeepP.call ?_ (by assumption) | refine KeepP.push ?_ | refine KeepP.more ?_ | refine KeepP.set ?_ (by first | (right; first | omega | (simp only [hn_push, hn_set, hn_more] <;> omega) | fail) | (left; simp; done) | fail))))) (by rw [Int.natAbs_natCast, show (10 : Int).natAbs = 10 from rfl, ten_rlen]; omega)) ?_
          rintro v G1 ⟨c1, i1⟩
          have m1 := c1.n; try simp only [hn_push, hn_set, hn_more] at m1
          dsimp only
          have hsub : arA .sub (.int .u8 ((c.toNat : Nat) : Int)) (.int .u8 48) = some (.int .u8 ((c.toNat - 48 : Nat) : Int)) := by
            rw [ar_sub, wrap_u8 (by omega)]; congr 2; omega
          have hcv2 : cvInt .i64 (.int .u8 ((c.toNat - 48 : Nat) : Int)) = some (.int .i64 ((c.toNat - 48 : Nat) : Int)) := by rw [cv_int, wrap_i64 (by omega)]
          repeat (first | refine Tot.pure (by simp (disch := first | omega | (simp only [hn_push, hn_set, hn_more] <;> omega) | fail) [ld1_get, ldN_get, stA_get, boxA, gz, gs, Heap.get_push_ne, Heap.get_push_eq, Heap.get_set_ne, Heap.get_set_eq, get_more, hn_push, hn_set, hn_more, ix_str hc, hsub, hcv2]; try exact rfl) ?_ | refine Tot.chk (by simp (disch := first | omega | (simp only [hn_push, hn_set, hn_more] <;> omega) | fail) [ld1_get, ldN_get, stA_get, boxA, gz, gs, Heap.get_push_ne, Heap.get_push_eq, Heap.get_set_ne, Heap.get_set_eq, get_more, hn_push, hn_set, hn_more, ix_str hc, hsub, hcv2]; done) ?_ | fail)
          refine Tot.bind (r4_long (hU _ (by omega)) (z := ((c.toNat - 48 : Nat) : Int)) (by omega)) ?_
          rintro v G2 ⟨c2, i2⟩
          have m2 := c2.n; try simp only [hn_push, hn_set, hn_more] at m2
          dsimp only
          have hy : (dig 65536 (rdl ((fmt z p).take i) 0 * 10)).length ≤ 1001 := by
            have := rsz_mul (x := rdl ((fmt z p).take i) 0) (y := 10)
            rw [ten_rlen] at this; omega
          refine Tot.bind (r4_add (hU _ (by omega)) (i1.keep (by (repeat (first | exact KeepP.refl | refine KeepP.call ?_ (by assumption) | refine KeepP.push ?_ | refine KeepP.more ?_ | refine KeepP.set ?_ (by first | (right; first | omega | (simp only [hn_push, hn_set, hn_more] <;> omega) | fail) | (left; simp; done) | fail))))) i2 (by rw [Int.natAbs_mul, Int.natAbs_natCast, show (10 : Int).natAbs = 10 from rfl]; omega) (by
            rw [Int.natAbs_natCast]
            have : (dig 65536 (c.toNat - 48)).length ≤ 1 := dig_len_le (by decide) (by omega)
            omega)) ?_
          rintro v G3 ⟨c3', i3⟩
          have m3 := c3'.n
          obtain ⟨a3, b3, rfl, -⟩ := i3.shape
          dsimp only
          repeat (first | refine Tot.pure (by simp (disch := first | omega | (simp only [hn_push, hn_set, hn_more] <;> omega) | fail) [ld1_get, ldN_get, stA_get, boxA, gz, gs, Heap.get_push_ne, Heap.get_push_eq, Heap.get_set_ne, Heap.get_set_eq, get_more, hn_push, hn_set, hn_more, c1.g, c2.g, c3'.g, gA, gB]; try exact rfl) ?_ | refine Tot.chk (by simp (disch := first | omega | (simp only [hn_push, hn_set, hn_more] <;> omega) | fail) [ld1_get, ldN_get, stA_get, boxA, gz, gs, Heap.get_push_ne, Heap.get_push_eq, Heap.get_set_ne, Heap.get_set_eq, get_more, hn_push, hn_set, hn_more, c1.g, c2.g, c3'.g, gA, gB]; done) ?_ | fail)
          rw [if_pos ⟨h1', h2'⟩] at hstep
          have e : ((rdl ((fmt z p).take i) 0 : Nat) : Int) * 10 + ((c.toNat - 48 : Nat) : Int) = ((rdl ((fmt z p).take (i + 1)) 0 : Nat) : Int) := by rw [hstep]; omega
          rw [e] at i3
          refine ih (i + 1) _ _ a3 b3 (by omega) (by omega) (Keep.set (((hk.call (Ch.more.t c1)).call c2).call c3') (by omega)) (by simp only [hn_set]; omega) (by rw [Heap.get_set_eq rfl]) ?_ ?_ ?_ m' hb'
          · rw [Heap.get_set_ne (by omega), c3'.g (by omega), c2.g (by omega), c1.g (by simp only [hn_more]; omega), get_more]; exact gB
          · exact i3.keep (KeepP.refl.set (.inl hA))
          · exact (j10.keep ((((KeepP.refl.more).call c1).call c2).call c3')).keep (KeepP.refl.set (.inl hA))
        · exact hskip (by have := of_decide_eq_false (by simpa using h2 : decide (((c.toNat : Nat) : Int) ≤ 57) = false); omega) m' hb'
      · exact hskip (by have := of_decide_eq_false (by simpa using h1 : decide (((c.toNat : Nat) : Int) ≥ 48) = false); omega) m' hb'
  repeat (first | refine Tot.pure (by simp (disch := first | omega | (simp only [hn_push, hn_set, hn_more] <;> omega) | fail) [ld1_get, ldN_get, stA_get, boxA, gz, gs, Heap.get_push_ne, Heap.get_push_eq, Heap.get_set_ne, Heap.get_set_eq, get_more, hn_push, hn_set, hn_more, ix_str (i := 0) hf0, c4.g]; try exact rfl) ?_ | refine Tot.chk (by simp (disch := first | omega | (simp only [hn_push, hn_set, hn_more] <;> omega) | fail) [ld1_get, ldN_get, stA_get, boxA, gz, gs, Heap.get_push_ne, Heap.get_push_eq, Heap.get_set_ne, Heap.get_set_eq, get_more, hn_push, hn_set, hn_more, ix_str (i := 0) hf0, c4.g]; done) ?_ | fail)
  rw [hneg]
  refine lp (fmt z p).length 0 0 _ 0 ⟨none, 0, 0, false⟩ (by omega) rfl ?_ ?_ ?_ ?_ ?_ ?_ _ Big.id
  · exact Keep.set (Keep.set (Keep.set (Keep.set (Keep.call (Keep.refl.more) c4) (by omega)) (by omega)) (by omega)) (by omega)
  · simp only [hn_set]; omega
  · simp (disch := first | omega | (simp only [hn_push, hn_set, hn_more] <;> omega) | (simp <;> omega) | fail) [ld1_get, ldN_get, stA_get, faA_mk, boxA_agg, Heap.get_push_ne, Heap.get_push_eq, Heap.get_set_ne, Heap.get_set_eq, get_more, hn_push, hn_set, hn_more, chk_agg, ]
  · rw [Heap.get_set_eq rfl]
  · exact isJ.zero
  · exact ((((i4.keep (KeepP.refl.set (.inl hA))).keep (KeepP.refl.set (.inl hB))).keep (KeepP.refl.set (.inl hA))).keep (KeepP.refl.set (.inl hB)))
end Go.AM
end

section
set_option linter.unusedVariables false
set_option linter.unusedSimpArgs false
/- What the abstract machine's operations give is what the model's give: operations that only look. -/
namespace Go.AM
open Go.RowKit (Below)

section
variable {P : Program} {B : Nat} {w0 w : World} {μ : Mu} {H : Heap}

theorem ofOne_rel (μ : Mu) (x : Value) : VRel μ (V.ofOne x) x := by
  unfold V.ofOne
  split <;> simp [VRel]

theorem ofOnes_rel (μ : Mu) : ∀ (xs : List Value), VRels μ (xs.map V.ofOne) xs
  | [] => by simp [VRels]
  | x :: xs => by simp only [List.map_cons, VRels]; exact ⟨x, xs, rfl, ofOne_rel μ x, ofOnes_rel μ xs⟩

theorem ofValue_rel (μ : Mu) (x : Value) : VRel μ (V.ofValue x) x := by
  unfold V.ofValue
  split
  · rename_i cs
    simp only [VRel]
    exact ⟨cs, rfl, ofOnes_rel μ _⟩
  · rename_i vs
    split
    · rename_i h
      simp only [VRel, VRels]
      exact ⟨vs, rfl, by simpa using h⟩
    · simp [VRel]
  · exact ofOne_rel μ x

theorem run_isAgg {t : TypeId} {b : Bool} (h : aggT P t = some b) : (isAgg t).run P w = .ok b w := by
  unfold aggT at h
  unfold isAgg underlying
  simp only [Sem.run_bind, run_program, Result.andThen_ok]
  split at h
  · rename_i fs e
    simp at h; subst h; rw [e]; simp
  · rename_i n e e'
    simp at h; subst h; rw [e']; simp
  · rename_i d n1 n2 e
    simp at h; subst h; rw [e]
    simp only [Sem.run_pure, Result.andThen_ok]
  · simp at h

theorem run_sizeOf {t : TypeId} {n : Nat} (h : szT P t = some n) : (sizeOf t).run P w = .ok n w := by
  unfold szT at h
  unfold sizeOf typeInfo
  simp only [Sem.run_bind, run_program, Result.andThen_ok]
  cases hi : P.info? t with
  | none => simp [hi] at h
  | some i => simp [hi] at h; simp [h]

theorem run_typeInfo {t : TypeId} {i : TypeInfo} (h : P.info? t = some i) : (typeInfo t).run P w = .ok i w := by
  unfold typeInfo; simp [h]

theorem run_und {t : TypeId} {d : TypeDesc} (h : P.underlying t = some d) : (underlying t).run P w = .ok d w := by
  unfold underlying; simp [h]

theorem run_zero {t : TypeId} {z : V} (μ : Mu) (h : zeroT P t = some z) : ∃ x, (zeroValue t).run P w = .ok x w ∧ VRel μ z x := by
  unfold zeroT at h
  cases hi : P.info? t with
  | none => simp [hi] at h
  | some i =>
    cases hz : i.zero with
    | none => simp [hi, hz] at h
    | some x =>
      simp [hi, hz] at h; subst h
      exact ⟨x, by unfold zeroValue typeInfo; simp [hi, hz], ofValue_rel μ x⟩

theorem addr_add (b o j : Nat) : (⟨b, o, none⟩ : Addr).add j = ⟨b, o + j, none⟩ := by
  unfold Addr.add
  split
  · rename_i h; subst h; rfl
  · rfl

theorem ORel.cell {cs : List V} {e : TypeId} {ro : Bool} {L : Loc} (h : ORel μ B (.cells cs e ro) L w) {j : Nat} {v : V} (hj : cs[j]? = some v) :
    v.one = true ∧ ∃ x, w.cell? ⟨L.b, L.base + j, none⟩ = some x ∧ VRel μ v x := by
  obtain ⟨c, e', fr, hb, hs, hl, hc, _⟩ := h
  obtain ⟨h1, x, hx, hr⟩ := hc j v hj
  refine ⟨h1, x, ?_, hr⟩
  simp [World.cell?, hb, hx]

theorem getElem?_isSome_of_lt {α : Type} {l : List α} {i : Nat} (h : i < l.length) : ∃ x, l[i]? = some x := ⟨l[i], List.getElem?_eq_getElem h⟩

theorem ORel.cellsAt {cs : List V} {e : TypeId} {ro : Bool} {L : Loc} (h : ORel μ B (.cells cs e ro) L w) {o n : Nat} (hn : o + n ≤ cs.length) :
    ∃ xs : List Value, xs.length = n ∧ VRels μ ((cs.drop o).take n) xs ∧ (∀ j x, xs[j]? = some x → w.cell? ⟨L.b, L.base + o + j, none⟩ = some x) ∧ ((cs.drop o).take n).all V.one = true ∧ ∀ x ∈ xs, x.oneCell' = true := by
  induction n generalizing o with
  | zero => exact ⟨[], rfl, by simp [VRels], by simp, by simp, by simp⟩
  | succ n ih =>
    obtain ⟨v, hv⟩ := getElem?_isSome_of_lt (l := cs) (i := o) (by omega)
    obtain ⟨h1, x, hx, hr⟩ := h.cell hv
    obtain ⟨xs, a, b, c, d, e1⟩ := ih (o := o + 1) (by omega)
    have hd : cs.drop o = v :: cs.drop (o + 1) := by
      have := List.getElem?_eq_some_iff.1 hv
      obtain ⟨hlt, he⟩ := this
      rw [List.drop_eq_getElem_cons hlt, he]
    refine ⟨x :: xs, by simp [a], ?_, ?_, ?_, ?_⟩
    · rw [hd]; simp only [List.take_succ_cons, VRels]; exact ⟨x, xs, rfl, hr, b⟩
    · intro j y hj
      cases j with
      | zero => simp at hj; subst hj; simpa using hx
      | succ j =>
        simp at hj
        have := c j y hj
        rwa [show L.base + (o + 1) + j = L.base + o + (j + 1) by omega] at this
    · rw [hd]; simp [h1]; simpa using d
    · intro y hy
      simp only [List.mem_cons] at hy
      rcases hy with rfl | hy
      · have := hr.isOne h1
        cases y <;> simp_all [AM.isOne, Value.oneCell']
      · exact e1 y hy

theorem Rel.ptr (h : Rel B w0 μ H w) {i o : Nat} {x : Value} (hx : VRel μ (.ptr (some (i, o))) x) : ∃ L, μ i = some L ∧ x = .pointer (some ⟨L.b, L.base + o, none⟩) ∧ ORel μ B (H.get i) L w := by
  simp only [VRel] at hx
  obtain ⟨L, e, rfl⟩ := hx
  exact ⟨L, e, rfl, h.objs i L e⟩

theorem ld1_sound (h : Rel B w0 μ H w) {v r : V} {x : Value} (hl : ld1 v H = some r) (hx : VRel μ v x) : ∃ a y, x = .pointer (some a) ∧ w.cell? a = some y ∧ VRel μ r y := by
  unfold ld1 at hl
  split at hl
  · rename_i i o
    split at hl
    · rename_i cs e ro hg
      obtain ⟨L, _, rfl, ho⟩ := h.ptr hx
      rw [hg] at ho
      obtain ⟨_, y, hy, hr⟩ := ho.cell hl
      exact ⟨_, y, rfl, hy, hr⟩
    · simp at hl
  · simp at hl

theorem loadCells_of {a : Addr} {n : Nat} {xs : List Value} (hl : xs.length = n) (h : ∀ j x, xs[j]? = some x → w.cell? (a.add j) = some x) : (loadCells a n).run P w = .ok xs.toArray w := by
  subst hl; exact run_loadCells_list w a xs h

theorem ldN_sound (h : Rel B w0 μ H w) {n : Nat} {v r : V} {x : Value} (hl : ldN n v H = some r) (hx : VRel μ v x) : ∃ a y, x = .pointer (some a) ∧ (loadCells a n).run P w = .ok y w ∧ VRel μ r (.agg y) := by
  unfold ldN at hl
  split at hl
  · rename_i i o
    split at hl
    · rename_i cs e ro hg
      split at hl
      · rename_i hn
        simp at hl; subst hl
        obtain ⟨L, _, rfl, ho⟩ := h.ptr hx
        rw [hg] at ho
        obtain ⟨xs, a, b, c, _, _⟩ := ho.cellsAt hn
        refine ⟨_, xs.toArray, rfl, loadCells_of a ?_, ?_⟩
        · intro j x hj; rw [addr_add]; exact c j x hj
        · simp only [VRel]; exact ⟨xs.toArray, rfl, by simpa using b⟩
      · simp at hl
    · simp at hl
  · simp at hl

theorem loadA_sound (h : Rel B w0 μ H w) {t : TypeId} {v r : V} {x : Value} (hl : loadA P t v H = some r) (hx : VRel μ v x) :
    ∃ a y, x = .pointer (some a) ∧ (loadVar t a).run P w = .ok y w ∧ VRel μ r y := by
  unfold loadA at hl
  split at hl
  · rename_i hag
    split at hl
    · rename_i n hsz
      obtain ⟨a, y, rfl, hr, hv⟩ := ldN_sound (P := P) h hl hx
      exact ⟨a, _, rfl, by unfold loadVar; simp [run_isAgg hag, run_sizeOf hsz, hr], hv⟩
    · simp at hl
  · rename_i hag
    obtain ⟨a, y, rfl, hr, hv⟩ := ld1_sound h hl hx
    exact ⟨a, y, rfl, by unfold loadVar; simp [run_isAgg hag, hr], hv⟩
  · simp at hl

theorem loadAt_sound (h : Rel B w0 μ H w) {t : TypeId} {v r : V} {x : Value} (hl : loadA P t v H = some r) (hx : VRel μ v x) :
    ∃ y, (Instr.loadAt t x).run P w = .ok y w ∧ VRel μ r y := by
  obtain ⟨a, y, rfl, hr, hv⟩ := loadA_sound h hl hx
  exact ⟨y, by unfold Instr.loadAt Instr.sureAddr; simp [hr], hv⟩

/-! Parts -/
theorem partN_sound {n off : Nat} {xs : List V} {ys : Array Value} {r : V} (hl : partN n off xs = some r) (hx : VRels μ xs ys.toList) : VRel μ r (.agg (ys.extract off (off + n))) := by
  unfold partN at hl
  simp at hl; subst hl
  simp only [VRel]
  refine ⟨_, rfl, ?_⟩
  have : (ys.extract off (off + n)).toList = (ys.toList.drop off).take n := by
    rw [Array.toList_extract]; simp [List.extract_eq_take_drop]
  rw [this]
  exact VRels.take n (VRels.drop off hx)
theorem part1_sound {off : Nat} {xs : List V} {ys : Array Value} {r : V} (hl : part1 off xs = some r) (hx : VRels μ xs ys.toList) : ∃ y, ys[off]? = some y ∧ VRel μ r y := by
  unfold part1 at hl
  obtain ⟨y, a, b⟩ := hx.get off r hl
  exact ⟨y, by simpa using a, b⟩
theorem partA_sound {t : TypeId} {xs : List V} {ys : Array Value} {off : Nat} {r : V} (hl : partA P t xs off = some r) (hx : VRels μ xs ys.toList) :
    ∃ y, (part t ys off).run P w = .ok y w ∧ VRel μ r y := by
  unfold partA at hl
  split at hl
  · rename_i hag
    split at hl
    · rename_i n hsz
      exact ⟨_, by unfold part; simp [run_isAgg hag, run_sizeOf hsz], partN_sound hl hx⟩
    · simp at hl
  · rename_i hag
    obtain ⟨y, e, hr⟩ := part1_sound hl hx
    exact ⟨y, by unfold part; simp [run_isAgg hag, e], hr⟩
  · simp at hl

/-! Numbers and texts -/
theorem intA_sound {op : BinOp} {k : IntKind} {a b : Int} {r : V} (h : intA op k a b = some r) (hs : op ≠ .shl) (hr : op ≠ .shr) (t : TypeId) :
    ∃ y, (binOp op t (.int k a) (.int k b)).run P w = .ok y w ∧ VRel μ r y := by
  cases op <;> first | exact absurd rfl hs | exact absurd rfl hr | skip
  case quo =>
    simp only [intA] at h
    split at h
    · simp at h
    · rename_i hb
      simp only [Option.some.injEq] at h; subst h
      exact ⟨_, by simp [binOp, Op.intDiv, hb], rfl⟩
  case rem =>
    simp only [intA] at h
    split at h
    · simp at h
    · rename_i hb
      simp only [Option.some.injEq] at h; subst h
      exact ⟨_, by simp [binOp, Op.intDiv, hb], rfl⟩
  all_goals
    simp only [intA, Option.some.injEq] at h
    subst h
    refine ⟨_, ?_, rfl⟩
    simp [binOp, Op.intArith, Op.intBits, Op.intCmp]

theorem shiftA_sound {op : BinOp} {k yk : IntKind} {a b : Int} {r : V} (h : shiftA op k a b = some r) (t : TypeId) (ho : op = .shl ∨ op = .shr) :
    ∃ y, (binOp op t (.int k a) (.int yk b)).run P w = .ok y w ∧ VRel μ r y := by
  unfold shiftA at h
  split at h
  · simp at h
  · rename_i hb
    rcases ho with rfl | rfl
    · simp only [Option.some.injEq] at h; subst h
      exact ⟨_, by simp [binOp, Op.shift, hb], rfl⟩
    · simp only [Option.some.injEq] at h; subst h
      exact ⟨_, by simp [binOp, Op.shift, hb], rfl⟩

theorem toList_mk (a : List UInt8) : (⟨a.toArray⟩ : ByteArray).toList = a := by
  simp

theorem strA_sound {op : BinOp} {a b : List UInt8} {r : V} (h : strA op a b = some r) (t : TypeId) :
    ∃ y, (binOp op t (.string ⟨a.toArray⟩) (.string ⟨b.toArray⟩)).run P w = .ok y w ∧ VRel μ r y := by
  cases op <;> simp only [strA] at h <;> first | (simp at h; done) | skip
  case add =>
    split at h
    · rename_i hl
      simp only [Option.some.injEq] at h; subst h
      refine ⟨.string ⟨(a ++ b).toArray⟩, ?_, rfl⟩
      have h1 : ¬ (((⟨a.toArray⟩ : ByteArray).size + (⟨b.toArray⟩ : ByteArray).size : Nat) : Int) > IntKind.i64.max := by
        simp [ByteArray.size, IntKind.max, IntKind.signed, IntKind.bits]; omega
      have h2 : (⟨a.toArray⟩ ++ ⟨b.toArray⟩ : ByteArray) = ⟨(a ++ b).toArray⟩ := by
        apply ByteArray.ext; simp
      simp only [binOp, Op.stringOp]
      rw [if_neg h1, h2]; rfl
    · simp at h
  all_goals
    simp only [Option.some.injEq] at h; subst h
    refine ⟨_, ?_, rfl⟩
    simp [binOp, Op.stringOp, toList_mk]
end
end Go.AM
end

section
set_option linter.unusedVariables false
set_option linter.unusedSimpArgs false
/- What the abstract machine's operations give is what the model's give: == and !=, addresses, parts, slices. -/
namespace Go.AM
open Go.RowKit (Below)

section
variable {P : Program} {B : Nat} {w0 w : World} {μ : Mu} {H : Heap}

theorem eqFs_sound {d : Nat} {rc : TypeId → V → V → Option Bool}
    (ih : ∀ (t : TypeId) (x y : V) (b : Bool) (x' y' : Value), rc t x y = some b → VRel μ x x' → VRel μ y y' → (Op.equalIn d t x' y').run P w = .ok b w) :
    ∀ (fs : List Field) (xs ys : List V) (xs' ys' : Array Value) (b : Bool), eqFs P rc fs xs ys = some b → VRels μ xs xs'.toList → VRels μ ys ys'.toList →
      (Op.eqFields d xs' ys' fs).run P w = .ok b w
  | [], xs, ys, xs', ys', b, h, _, _ => by simp [eqFs] at h; subst h; simp [Op.eqFields]
  | f :: fs, xs, ys, xs', ys', b, h, hx, hy => by
    simp only [eqFs] at h
    simp only [Op.eqFields]
    by_cases hn : f.name ≠ "_"
    · rw [if_pos hn] at h ⊢
      cases h1 : partA P f.type xs f.offset with
      | none => simp [h1] at h
      | some u =>
        cases h2 : partA P f.type ys f.offset with
        | none => simp [h1, h2] at h
        | some v =>
          cases h3 : rc f.type u v with
          | none => simp [h1, h2, h3] at h
          | some b1 =>
            cases h4 : eqFs P rc fs xs ys with
            | none => simp [h1, h2, h3, h4] at h
            | some b2 =>
              simp [h1, h2, h3, h4] at h; subst h
              obtain ⟨u', e1, r1⟩ := partA_sound (w := w) h1 hx
              obtain ⟨v', e2, r2⟩ := partA_sound (w := w) h2 hy
              have e3 := ih _ _ _ _ _ _ h3 r1 r2
              have e4 := eqFs_sound ih fs xs ys xs' ys' b2 h4 hx hy
              simp only [Sem.run_bind, e1, e2, e3, Result.andThen_ok, Sem.run_ite]
              cases b1
              · simp
              · simpa using e4
    · rw [if_neg hn] at h ⊢
      exact eqFs_sound ih fs xs ys xs' ys' b h hx hy

theorem eqEs_sound {d n : Nat} {e : TypeId} {rc : TypeId → V → V → Option Bool}
    (ih : ∀ (t : TypeId) (x y : V) (b : Bool) (x' y' : Value), rc t x y = some b → VRel μ x x' → VRel μ y y' → (Op.equalIn d t x' y').run P w = .ok b w) :
    ∀ (is : List Nat) (xs ys : List V) (xs' ys' : Array Value) (b : Bool), eqEs P rc e n is xs ys = some b → VRels μ xs xs'.toList → VRels μ ys ys'.toList →
      (Op.eqItems d e n xs' ys' is).run P w = .ok b w
  | [], xs, ys, xs', ys', b, h, _, _ => by simp [eqEs] at h; subst h; simp [Op.eqItems]
  | i :: is, xs, ys, xs', ys', b, h, hx, hy => by
    simp only [eqEs] at h
    simp only [Op.eqItems]
    cases h1 : partA P e xs (i * n) with
    | none => simp [h1] at h
    | some u =>
      cases h2 : partA P e ys (i * n) with
      | none => simp [h1, h2] at h
      | some v =>
        cases h3 : rc e u v with
        | none => simp [h1, h2, h3] at h
        | some b1 =>
          cases h4 : eqEs P rc e n is xs ys with
          | none => simp [h1, h2, h3, h4] at h
          | some b2 =>
            simp [h1, h2, h3, h4] at h; subst h
            obtain ⟨u', e1, r1⟩ := partA_sound (w := w) h1 hx
            obtain ⟨v', e2, r2⟩ := partA_sound (w := w) h2 hy
            have e3 := ih _ _ _ _ _ _ h3 r1 r2
            have e4 := eqEs_sound ih is xs ys xs' ys' b2 h4 hx hy
            simp only [Sem.run_bind, e1, e2, e3, Result.andThen_ok, Sem.run_ite]
            cases b1
            · simp
            · simpa using e4

theorem eqA_sound : ∀ (d D : Nat), d ≤ D → ∀ (t : TypeId) (x y : V) (b : Bool) (x' y' : Value), eqA P d t x y = some b → VRel μ x x' → VRel μ y y' → (Op.equalIn D t x' y').run P w = .ok b w
  | 0, _, _, _, _, _, _, _, _, h, _, _ => by simp [eqA] at h
  | d + 1, 0, hd, _, _, _, _, _, _, _, _, _ => by omega
  | d + 1, D + 1, hd, t, x, y, b, x', y', h, hx, hy => by
    have ih := eqA_sound d D (by omega)
    unfold eqA at h
    split at h
    · -- bool
      rename_i hu
      split at h
      · simp at h; subst h; simp only [VRel] at hx hy; subst hx hy
        simp [Op.equalIn, run_und hu]
      · simp at h
    · rename_i k hu
      split at h
      · split at h
        · rename_i hk
          simp at h; subst h hk; simp only [VRel] at hx hy; subst hx hy
          simp [Op.equalIn, run_und hu]
        · simp at h
      · simp at h
    · rename_i hu
      split at h
      · simp at h; subst h; simp only [VRel] at hx hy; subst hx hy
        simp only [Op.equalIn, Sem.run_bind, run_und hu, Result.andThen_ok, Sem.run_pure, beq_toListBytes, toList_mk]
      · simp at h
    · rename_i e hu
      split at h
      · rename_i c
        simp at h; subst h; simp only [VRel] at hx; subst hx
        rcases c with _ | ⟨i, o⟩
        · simp only [VRel] at hy; subst hy; simp [Op.equalIn, run_und hu]
        · simp only [VRel] at hy; obtain ⟨L, _, rfl⟩ := hy; simp [Op.equalIn, run_und hu]
      · rename_i c
        simp at h; subst h
        obtain ⟨i, o⟩ := c
        simp only [VRel] at hx hy; obtain ⟨L, _, rfl⟩ := hx; subst hy; simp [Op.equalIn, run_und hu]
      · rename_i c c'
        split at h
        · rename_i hc
          obtain ⟨rfl, hs⟩ := hc
          simp at h; subst h
          obtain ⟨i, o⟩ := c
          simp only [VRel] at hx hy
          obtain ⟨L, e1, rfl⟩ := hx
          obtain ⟨L', e2, rfl⟩ := hy
          rw [e1] at e2; simp at e2; subst e2
          cases hz : szT P e with
          | none => simp [hz] at hs
          | some n =>
            simp only [Op.equalIn, Sem.run_bind, run_und hu, Result.andThen_ok, run_sizeOf hz, Sem.run_ite]
            split
            · simp [sameAddr]
            · simp
        · simp at h
      · simp at h
    · rename_i e hu
      split at h
      · rename_i s u
        split at h
        · rename_i hs
          simp at h; subst h
          have h1 : s.ad = none := by simpa using hs
          simp only [VRel, h1] at hx
          obtain ⟨_, rfl⟩ := hx
          simp only [VRel] at hy
          split at hy
          · rename_i h2; obtain ⟨_, rfl⟩ := hy; simp [Op.equalIn, run_und hu, h2]
          · rename_i h2; obtain ⟨L, a, cap, _, rfl, _⟩ := hy; simp [Op.equalIn, run_und hu, h2]
        · rename_i hs
          split at h
          · rename_i hs2
            simp at h; subst h
            have h1 : u.ad = none := by simpa using hs2
            simp only [VRel, h1] at hy
            obtain ⟨_, rfl⟩ := hy
            simp only [VRel] at hx
            split at hx
            · rename_i h2; simp [h2] at hs
            · obtain ⟨L, a, cap, _, rfl, _⟩ := hx; simp [Op.equalIn, run_und hu]
          · simp at h
      · simp at h
    · rename_i kt et hu
      split at h
      · rename_i c
        simp at h; subst h; simp only [VRel] at hx; subst hx
        rcases c with _ | i
        · simp only [VRel] at hy; subst hy; simp [Op.equalIn, run_und hu]
        · simp only [VRel] at hy; obtain ⟨L, _, rfl⟩ := hy; simp [Op.equalIn, run_und hu]
      · simp at h; subst h
        simp only [VRel] at hx hy; obtain ⟨L, _, rfl⟩ := hx; subst hy; simp [Op.equalIn, run_und hu]
      · simp at h
    · rename_i ms hu
      split at h
      · simp at h; subst h
        simp only [VRel] at hx hy; obtain ⟨_, rfl, _⟩ := hy; subst hx; simp [Op.equalIn, run_und hu]
      · simp at h; subst h
        simp only [VRel] at hx hy; obtain ⟨_, rfl, _⟩ := hx; subst hy; simp [Op.equalIn, run_und hu]
      · simp at h
    · rename_i a1 a2 a3 hu
      split at h
      · simp at h; subst h
        simp only [VRel] at hx hy; obtain ⟨_, _, rfl, _⟩ := hy; subst hx; simp [Op.equalIn, run_und hu]
      · simp at h; subst h
        simp only [VRel] at hx hy; obtain ⟨_, _, rfl, _⟩ := hx; subst hy; simp [Op.equalIn, run_und hu]
      · simp at h; subst h
        simp only [VRel] at hx hy; subst hx hy; simp [Op.equalIn, run_und hu]
      · simp at h
    · rename_i fields hu
      split at h
      · rename_i xs ys
        split at h
        · simp at h
        · rename_i hst
          simp only [VRel] at hx hy
          obtain ⟨xs', rfl, rx⟩ := hx
          obtain ⟨ys', rfl, ry⟩ := hy
          have hf : P.fieldsOf t = fields := by unfold Program.fieldsOf; rw [hu]
          rw [run_equalIn_struct w D t xs' ys' (by rw [hf]; exact hu) (by simpa using hst), hf]
          exact eqFs_sound (μ := μ) ih _ _ _ _ _ _ h rx ry
      · simp at h
    · rename_i len elem hu
      split at h
      · rename_i xs ys
        split at h
        · rename_i n hz
          simp only [VRel] at hx hy
          obtain ⟨xs', rfl, rx⟩ := hx
          obtain ⟨ys', rfl, ry⟩ := hy
          cases hi : P.info? elem with
          | none => simp [szT, hi] at hz
          | some inf =>
            have hc : P.cellsOf elem = n := by simp [szT, hi] at hz; simp [Program.cellsOf, hi, hz]
            rw [run_equalIn_array (w := w) D xs' ys' hu hi, hc]
            exact eqEs_sound (μ := μ) ih _ _ _ _ _ _ h rx ry
        · simp at h
      · simp at h
    · simp at h

theorem VRel.inv_nilIface {u : V} (h : VRel μ u .nilIface) : u = .nilIface ∨ u = .dead := by
  cases u with
  | nilIface => exact .inl rfl
  | dead => exact .inr rfl
  | ptr a => rcases a with _ | ⟨i, o⟩ <;> simp [VRel] at h
  | slice s => simp only [VRel] at h; split at h <;> simp at h
  | map r => rcases r with _ | i <;> simp [VRel] at h
  | _ => simp [VRel] at h

theorem VRel.inv_agg {u : V} {a : Array Value} (h : VRel μ u (.agg a)) : (∃ cs, u = .agg cs) ∨ u = .dead := by
  cases u with
  | agg cs => exact .inl ⟨cs, rfl⟩
  | dead => exact .inr rfl
  | ptr a => rcases a with _ | ⟨i, o⟩ <;> simp [VRel] at h
  | slice s => simp only [VRel] at h; split at h <;> simp at h
  | map r => rcases r with _ | i <;> simp [VRel] at h
  | _ => simp [VRel] at h

theorem eqGuard_run {op : BinOp} {t : TypeId} {x y : Operand} {x' y' : Value} (h1 : ¬ (x' = .nilIface ∧ y' = .nilIface)) (h2 : ∀ a b, x' = .agg a → y' = .agg b → P.eqGuardType P.depth t = false) :
    (eqGuard op t x y x' y').run P w = .ok () w := by
  have key : ∀ (s : Sem Unit), (match x', y' with
      | .nilIface, .nilIface => s
      | .agg _, .agg _ => do
        if !(← program).eqGuardType (← program).depth t then return
        if ← Op.eqGuardIn Op.maxDepth t x' y' then unsupported (.noEntry "binop/eql: two nil values of an interface type with methods, in a part of a struct or an array")
      | _, _ => pure ()).run P w = .ok () w := by
    intro s
    split
    · exact absurd ⟨rfl, rfl⟩ h1
    · rename_i a b
      simp [h2 a b rfl rfl]
    · rfl
  cases op <;> unfold eqGuard <;> first
    | rfl
    | (simp only [Bool.not_true, Bool.false_eq_true, if_false]; exact key _)

theorem eqA_dead {d : Nat} {t : TypeId} {v : V} {b : Bool} (h : eqA P d t .dead v = some b) : False := by
  cases d with
  | zero => simp [eqA] at h
  | succ d => unfold eqA at h; split at h <;> simp at h

theorem eqGuard_ok {op : BinOp} {t : TypeId} {x y : Operand} {u v : V} {x' y' : Value} {d : Nat} {b : Bool} (ho : eqOk P t = true) (h : eqA P d t u v = some b) (hx : VRel μ u x') (hy : VRel μ v y') :
    (eqGuard op t x y x' y').run P w = .ok () w := by
  refine eqGuard_run ?_ ?_
  · rintro ⟨rfl, rfl⟩
    rcases hx.inv_nilIface with rfl | rfl
    · cases d with
      | zero => simp [eqA] at h
      | succ d =>
        rcases hy.inv_nilIface with rfl | rfl <;> (unfold eqA at h; split at h <;> simp at h)
    · exact eqA_dead h
  · rintro a b' rfl rfl
    rcases hx.inv_agg with ⟨cs, rfl⟩ | rfl
    · cases d with
      | zero => simp [eqA] at h
      | succ d =>
        unfold eqOk at ho
        unfold eqA at h
        split at h <;> first | (simp at h; done) | (rename_i hu; rw [hu] at ho; simpa using ho)
    · exact (eqA_dead h).elim
end
end Go.AM
end
