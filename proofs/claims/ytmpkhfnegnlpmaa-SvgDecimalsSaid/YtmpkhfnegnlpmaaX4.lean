/- Merged by program (mkclaim.py) from: SqI SqJ SrA SrB AmVal AmVal2 AmVal3 AmVal4 AmVal5 AmVal6. -/
import Derived.Laws.Cells
import Derived.Laws.Append
import Derived.Laws.Strings
import Derived.Laws.StructEq
import Derived.ChangeKeysEq
import Derived.Laws.Tables
import Derived.Laws.BytesArg
import Derived.Test.YtmpkhfnegnlpmaaX3

section
/- What the document's functions of layer 5 give: Of, Long, Mul, Add, Low, Floor, Round. -/
set_option linter.unusedSimpArgs false
set_option linter.unusedVariables false
namespace Go.AM
attribute [local congr] bnd_weak ite_weak

/-- A fraction of the document's: a whole number over one above nought. -/
def isK (H : Heap) (P : Nat → Prop) (v : V) (n : Int) (d : Nat) : Prop :=
  ∃ σ s τ t, v = .agg [.int .i64 σ, .slice s, .int .i64 τ, .slice t] ∧ isJ H P (.agg [.int .i64 σ, .slice s]) n ∧ isJ H P (.agg [.int .i64 τ, .slice t]) (d : Int) ∧ 0 < d
theorem isK.keep {H H' : Heap} {P : Nat → Prop} {v : V} {n : Int} {d : Nat} (h : isK H P v n d) (c : KeepP P H H') : isK H' P v n d := by
  obtain ⟨σ, s, τ, t, rfl, h1, h2, h3⟩ := h; exact ⟨σ, s, τ, t, rfl, h1.keep c, h2.keep c, h3⟩
theorem isK.mono {H : Heap} {P P' : Nat → Prop} {v : V} {n : Int} {d : Nat} (h : isK H P v n d) (c : ∀ i, i < H.n → P i → P' i) : isK H P' v n d := by
  obtain ⟨σ, s, τ, t, rfl, h1, h2, h3⟩ := h; exact ⟨σ, s, τ, t, rfl, h1.mono c, h2.mono c, h3⟩

theorem r5_long {H : Heap} {P : Nat → Prop} {z : Int} (hP : UpP H P) (hz : -9223372036854775808 ≤ z ∧ z ≤ 9223372036854775807) :
    Tot (fun n => f_ref05_Long n [.int .i64 z] H) fun v H' => Ext0 H H' ∧ isK H' P v z 1 := by
  refine Tot.of fun Q hQ => ?_
  refine ref05_Long_tot ?_
  simp only [ref05_Long_b]
  have hq : ∀ (G : Heap), H.n + 1 ≤ G.n → UpP G (fun i => P i ∧ i ≠ H.n) := fun G hG i hi => ⟨hP i (by omega), by omega⟩
  refine Tot.bind (r4_long (hq _ (by simp)) hz) ?_
  rintro v H1 ⟨c1, i1⟩
  have n1 := c1.n; try simp only [hn_push, hn_set, hn_more] at n1
  obtain ⟨b1, s1, rfl, -⟩ := i1.shape
  dsimp only
  refine Tot.bind (r4_long (z := 1) (hq _ (by omega)) (by omega)) ?_
  rintro v H2 ⟨c2, i2⟩
  have n2 := c2.n; try simp only [hn_push, hn_set, hn_more] at n2
  obtain ⟨b2, s2, rfl, -⟩ := i2.shape
  dsimp only
  repeat (first | refine Tot.pure (by simp (disch := first | omega | (simp only [hn_push, hn_set, hn_more] <;> omega) | fail) [ld1_get, ldN_get, stA_get, boxA, gz, gs, Heap.get_push_ne, Heap.get_push_eq, Heap.get_set_ne, Heap.get_set_eq, get_more, hn_push, hn_set, hn_more, c1.g, c2.g]; try exact rfl) ?_ | refine Tot.chk (by simp (disch := first | omega | (simp only [hn_push, hn_set, hn_more] <;> omega) | fail) [ld1_get, ldN_get, stA_get, boxA, gz, gs, Heap.get_push_ne, Heap.get_push_eq, Heap.get_set_ne, Heap.get_set_eq, get_more, hn_push, hn_set, hn_more, c1.g, c2.g]; done) ?_ | fail)
  refine Tot.ret (hQ _ _ ⟨Keep.ext (by (repeat (first | exact Keep.refl | refine Keep.call ?_ (by assumption) | refine Keep.push ?_ | refine Keep.more ?_ | refine Keep.set ?_ (by first | omega | (simp only [hn_push, hn_set, hn_more] <;> omega) | fail)))), b1, s1, b2, s2, rfl, (i1.keep (by (repeat (first | exact KeepP.refl | refine KeepP.call ?_ (by assumption) | refine KeepP.push ?_ | refine KeepP.more ?_ | refine KeepP.set ?_ (by first | (right; first | omega | (simp only [hn_push, hn_set, hn_more] <;> omega) | fail) | (left; simp; done) | fail))))).mono fun i _ hi => hi.1, (i2.keep (by (repeat (first | exact KeepP.refl | refine KeepP.call ?_ (by assumption) | refine KeepP.push ?_ | refine KeepP.more ?_ | refine KeepP.set ?_ (by first | (right; first | omega | (simp only [hn_push, hn_set, hn_more] <;> omega) | fail) | (left; simp; done) | fail))))).mono fun i _ hi => hi.1, by decide⟩)

theorem r5_of {H : Heap} {P : Nat → Prop} {v : V} {n : Int} {d N : Nat} (hP : UpP H P) (h : rawR H v n d N) (hm : N < 400000000) :
    Tot (fun n => f_ref05_Of n [v] H) fun v H' => Ext0 H H' ∧ isK H' P v (if d = 0 then 0 else n) (if d = 0 then 1 else d) := by
  obtain ⟨b, s, t, l, lt, rfl, r1, r2, hL, hL', hl, hl', rfl, rfl⟩ := h
  refine Tot.of fun Q hQ => ?_
  refine ref05_Of_tot ?_
  simp only [ref05_Of_b]
  have hq : ∀ (G : Heap), H.n + 2 ≤ G.n → UpP G (fun i => P i ∧ i ≠ H.n + 1) := fun G hG i hi => ⟨hP i (by omega), by omega⟩
  repeat (first | refine Tot.pure (by simp (disch := first | omega | (simp only [hn_push, hn_set, hn_more] <;> omega) | fail) [ld1_get, ldN_get, stA_get, boxA, gz, gs, Heap.get_push_ne, Heap.get_push_eq, Heap.get_set_ne, Heap.get_set_eq, get_more, hn_push, hn_set, hn_more, ]; try exact rfl) ?_ | refine Tot.chk (by simp (disch := first | omega | (simp only [hn_push, hn_set, hn_more] <;> omega) | fail) [ld1_get, ldN_get, stA_get, boxA, gz, gs, Heap.get_push_ne, Heap.get_push_eq, Heap.get_set_ne, Heap.get_set_eq, get_more, hn_push, hn_set, hn_more, ]; done) ?_ | fail)
  refine Tot.bind (r_of (r2.keep Fr.zero (by (repeat (first | exact Keep.refl | refine Keep.call ?_ (by assumption) | refine Keep.push ?_ | refine Keep.more ?_ | refine Keep.set ?_ (by first | omega | (simp only [hn_push, hn_set, hn_more] <;> omega) | fail))))) (by omega) hL') ?_
  rintro v H1 ⟨c1, s1, rfl, q1, f1⟩
  have n1 := c1.n; try simp only [hn_push, hn_set, hn_more] at n1
  dsimp only
  repeat (first | refine Tot.pure (by simp (disch := first | omega | (simp only [hn_push, hn_set, hn_more] <;> omega) | fail) [ld1_get, ldN_get, stA_get, boxA, gz, gs, Heap.get_push_ne, Heap.get_push_eq, Heap.get_set_ne, Heap.get_set_eq, get_more, hn_push, hn_set, hn_more, c1.g, q1.lenSl]; try exact rfl) ?_ | refine Tot.chk (by simp (disch := first | omega | (simp only [hn_push, hn_set, hn_more] <;> omega) | fail) [ld1_get, ldN_get, stA_get, boxA, gz, gs, Heap.get_push_ne, Heap.get_push_eq, Heap.get_set_ne, Heap.get_set_eq, get_more, hn_push, hn_set, hn_more, c1.g, q1.lenSl]; done) ?_ | fail)
  refine Tot.ite (fun h2 => ?_) (fun h2 => ?_)
  · have hx : val 4294967296 lt = 0 := by
      rw [← dig_eq_nil (b := 65536) (by decide)]
      exact List.eq_nil_of_length_eq_zero (by simpa using h2)
    rw [if_pos hx, if_pos hx] at hQ
    repeat (first | refine Tot.pure (by simp (disch := first | omega | (simp only [hn_push, hn_set, hn_more] <;> omega) | fail) [ld1_get, ldN_get, stA_get, boxA, gz, gs, Heap.get_push_ne, Heap.get_push_eq, Heap.get_set_ne, Heap.get_set_eq, get_more, hn_push, hn_set, hn_more, c1.g]; try exact rfl) ?_ | refine Tot.chk (by simp (disch := first | omega | (simp only [hn_push, hn_set, hn_more] <;> omega) | fail) [ld1_get, ldN_get, stA_get, boxA, gz, gs, Heap.get_push_ne, Heap.get_push_eq, Heap.get_set_ne, Heap.get_set_eq, get_more, hn_push, hn_set, hn_more, c1.g]; done) ?_ | fail)
    refine Tot.bind (r4_long (z := 1) (hq _ (by omega)) (by omega)) ?_
    rintro v H2 ⟨c2, i2⟩
    have n2 := c2.n; try simp only [hn_push, hn_set, hn_more] at n2
    obtain ⟨b2, s2, rfl, -⟩ := i2.shape
    dsimp only
    repeat (first | refine Tot.pure (by simp (disch := first | omega | (simp only [hn_push, hn_set, hn_more] <;> omega) | fail) [ld1_get, ldN_get, stA_get, boxA, gz, gs, Heap.get_push_ne, Heap.get_push_eq, Heap.get_set_ne, Heap.get_set_eq, get_more, hn_push, hn_set, hn_more, c1.g, c2.g]; try exact rfl) ?_ | refine Tot.chk (by simp (disch := first | omega | (simp only [hn_push, hn_set, hn_more] <;> omega) | fail) [ld1_get, ldN_get, stA_get, boxA, gz, gs, Heap.get_push_ne, Heap.get_push_eq, Heap.get_set_ne, Heap.get_set_eq, get_more, hn_push, hn_set, hn_more, c1.g, c2.g]; done) ?_ | fail)
    refine Tot.ret (hQ _ _ ⟨Keep.ext (by (repeat (first | exact Keep.refl | refine Keep.call ?_ (by assumption) | refine Keep.push ?_ | refine Keep.more ?_ | refine Keep.set ?_ (by first | omega | (simp only [hn_push, hn_set, hn_more] <;> omega) | fail)))), _, _, b2, s2, rfl, isJ.zero, (i2.keep (by (repeat (first | exact KeepP.refl | refine KeepP.call ?_ (by assumption) | refine KeepP.push ?_ | refine KeepP.more ?_ | refine KeepP.set ?_ (by first | (right; first | omega | (simp only [hn_push, hn_set, hn_more] <;> omega) | fail) | (left; simp; done) | fail))))).mono fun i _ hi => hi.1, by decide⟩)
  · have hx : val 4294967296 lt ≠ 0 := by
      intro e; apply h2; rw [e, dig_zero]; simp
    rw [if_neg hx, if_neg hx] at hQ
    repeat (first | refine Tot.pure (by simp (disch := first | omega | (simp only [hn_push, hn_set, hn_more] <;> omega) | fail) [ld1_get, ldN_get, stA_get, boxA, gz, gs, Heap.get_push_ne, Heap.get_push_eq, Heap.get_set_ne, Heap.get_set_eq, get_more, hn_push, hn_set, hn_more, c1.g]; try exact rfl) ?_ | refine Tot.chk (by simp (disch := first | omega | (simp only [hn_push, hn_set, hn_more] <;> omega) | fail) [ld1_get, ldN_get, stA_get, boxA, gz, gs, Heap.get_push_ne, Heap.get_push_eq, Heap.get_set_ne, Heap.get_set_eq, get_more, hn_push, hn_set, hn_more, c1.g]; done) ?_ | fail)
    refine Tot.bind (r4_of (hq _ (by omega)) (r1.keep Fr.zero (by (repeat (first | exact Keep.refl | refine Keep.call ?_ (by assumption) | refine Keep.push ?_ | refine Keep.more ?_ | refine Keep.set ?_ (by first | omega | (simp only [hn_push, hn_set, hn_more] <;> omega) | fail))))) (by omega) hL) ?_
    rintro v H2 ⟨c2, i2⟩
    have n2 := c2.n; try simp only [hn_push, hn_set, hn_more] at n2
    obtain ⟨b2, s2, rfl, -⟩ := i2.shape
    have j1 : isJ H1 (fun i => P i ∧ i ≠ H.n + 1) (.agg [.int .i64 1, .slice s1]) ((val 4294967296 lt : Nat) : Int) :=
      ⟨s1, by rw [Int.sign_eq_one_of_pos (by omega)], by rw [Int.natAbs_natCast]; exact q1, fun i hi => ⟨hP i (by have := f1 i hi; simp at this; omega), by have := f1 i hi; simp at this; omega⟩⟩
    dsimp only
    repeat (first | refine Tot.pure (by simp (disch := first | omega | (simp only [hn_push, hn_set, hn_more] <;> omega) | fail) [ld1_get, ldN_get, stA_get, boxA, gz, gs, Heap.get_push_ne, Heap.get_push_eq, Heap.get_set_ne, Heap.get_set_eq, get_more, hn_push, hn_set, hn_more, c1.g, c2.g]; try exact rfl) ?_ | refine Tot.chk (by simp (disch := first | omega | (simp only [hn_push, hn_set, hn_more] <;> omega) | fail) [ld1_get, ldN_get, stA_get, boxA, gz, gs, Heap.get_push_ne, Heap.get_push_eq, Heap.get_set_ne, Heap.get_set_eq, get_more, hn_push, hn_set, hn_more, c1.g, c2.g]; done) ?_ | fail)
    refine Tot.ret (hQ _ _ ⟨Keep.ext (by (repeat (first | exact Keep.refl | refine Keep.call ?_ (by assumption) | refine Keep.push ?_ | refine Keep.more ?_ | refine Keep.set ?_ (by first | omega | (simp only [hn_push, hn_set, hn_more] <;> omega) | fail)))), b2, s2, 1, s1, rfl, (i2.keep (by (repeat (first | exact KeepP.refl | refine KeepP.call ?_ (by assumption) | refine KeepP.push ?_ | refine KeepP.more ?_ | refine KeepP.set ?_ (by first | (right; first | omega | (simp only [hn_push, hn_set, hn_more] <;> omega) | fail) | (left; simp; done) | fail))))).mono fun i _ hi => hi.1, (j1.keep (by (repeat (first | exact KeepP.refl | refine KeepP.call ?_ (by assumption) | refine KeepP.push ?_ | refine KeepP.more ?_ | refine KeepP.set ?_ (by first | (right; first | omega | (simp only [hn_push, hn_set, hn_more] <;> omega) | fail) | (left; simp; done) | fail))))).mono fun i _ hi => hi.1, by omega⟩)

theorem r5_mul {H : Heap} {P : Nat → Prop} {v w : V} {n m : Int} {d e : Nat} (hP : UpP H P) (h : isK H P v n d) (h' : isK H P w m e) (h1 : (dig 65536 n.natAbs).length + (dig 65536 m.natAbs).length < 1000000000) (h2 : (dig 65536 d).length + (dig 65536 e).length < 1000000000) :
    Tot (fun n => f_ref05_Mul n [v, w] H) fun v H' => Ext0 H H' ∧ isK H' P v (n * m) (d * e) := by
  obtain ⟨σ, s, τ, t, rfl, a1, a2, hd⟩ := h
  obtain ⟨σ', s', τ', t', rfl, b1, b2, he⟩ := h'
  refine Tot.of fun Q hQ => ?_
  refine ref05_Mul_tot ?_
  simp only [ref05_Mul_b]
  have hq : ∀ (G : Heap), H.n + 3 ≤ G.n → UpP G (fun i => P i ∧ i ≠ H.n + 2) := fun G hG i hi => ⟨hP i (by omega), by omega⟩
  have hm : ∀ {v : V} {z : Int}, isJ H P v z → isJ H (fun i => P i ∧ i ≠ H.n + 2) v z := fun h => h.mono fun i hi hp => ⟨hp, by omega⟩
  repeat (first | refine Tot.pure (by simp (disch := first | omega | (simp only [hn_push, hn_set, hn_more] <;> omega) | fail) [ld1_get, ldN_get, stA_get, boxA, gz, gs, Heap.get_push_ne, Heap.get_push_eq, Heap.get_set_ne, Heap.get_set_eq, get_more, hn_push, hn_set, hn_more, ]; try exact rfl) ?_ | refine Tot.chk (by simp (disch := first | omega | (simp only [hn_push, hn_set, hn_more] <;> omega) | fail) [ld1_get, ldN_get, stA_get, boxA, gz, gs, Heap.get_push_ne, Heap.get_push_eq, Heap.get_set_ne, Heap.get_set_eq, get_more, hn_push, hn_set, hn_more, ]; done) ?_ | fail)
  refine Tot.bind (r4_mul (hq _ (by simp)) ((hm a1).keep (by (repeat (first | exact KeepP.refl | refine KeepP.call ?_ (by assumption) | refine KeepP.push ?_ | refine KeepP.more ?_ | refine KeepP.set ?_ (by first | (right; first | omega | (simp only [hn_push, hn_set, hn_more] <;> omega) | fail) | (left; simp; done) | fail))))) ((hm b1).keep (by (repeat (first | exact KeepP.refl | refine KeepP.call ?_ (by assumption) | refine KeepP.push ?_ | refine KeepP.more ?_ | refine KeepP.set ?_ (by first | (right; first | omega | (simp only [hn_push, hn_set, hn_more] <;> omega) | fail) | (left; simp; done) | fail))))) h1) ?_
  rintro v H1 ⟨c1, i1⟩
  have n1 := c1.n; try simp only [hn_push, hn_set, hn_more] at n1
  obtain ⟨p1, q1, rfl, -⟩ := i1.shape
  dsimp only
  repeat (first | refine Tot.pure (by simp (disch := first | omega | (simp only [hn_push, hn_set, hn_more] <;> omega) | fail) [ld1_get, ldN_get, stA_get, boxA, gz, gs, Heap.get_push_ne, Heap.get_push_eq, Heap.get_set_ne, Heap.get_set_eq, get_more, hn_push, hn_set, hn_more, c1.g]; try exact rfl) ?_ | refine Tot.chk (by simp (disch := first | omega | (simp only [hn_push, hn_set, hn_more] <;> omega) | fail) [ld1_get, ldN_get, stA_get, boxA, gz, gs, Heap.get_push_ne, Heap.get_push_eq, Heap.get_set_ne, Heap.get_set_eq, get_more, hn_push, hn_set, hn_more, c1.g]; done) ?_ | fail)
  refine Tot.bind (r4_mul (hq _ (by omega)) ((hm a2).keep (by (repeat (first | exact KeepP.refl | refine KeepP.call ?_ (by assumption) | refine KeepP.push ?_ | refine KeepP.more ?_ | refine KeepP.set ?_ (by first | (right; first | omega | (simp only [hn_push, hn_set, hn_more] <;> omega) | fail) | (left; simp; done) | fail))))) ((hm b2).keep (by (repeat (first | exact KeepP.refl | refine KeepP.call ?_ (by assumption) | refine KeepP.push ?_ | refine KeepP.more ?_ | refine KeepP.set ?_ (by first | (right; first | omega | (simp only [hn_push, hn_set, hn_more] <;> omega) | fail) | (left; simp; done) | fail))))) (by rw [Int.natAbs_natCast, Int.natAbs_natCast]; exact h2)) ?_
  rintro v H2 ⟨c2, i2⟩
  have n2 := c2.n; try simp only [hn_push, hn_set, hn_more] at n2
  obtain ⟨p2, q2, rfl, -⟩ := i2.shape
  rw [← Int.natCast_mul] at i2
  dsimp only
  repeat (first | refine Tot.pure (by simp (disch := first | omega | (simp only [hn_push, hn_set, hn_more] <;> omega) | fail) [ld1_get, ldN_get, stA_get, boxA, gz, gs, Heap.get_push_ne, Heap.get_push_eq, Heap.get_set_ne, Heap.get_set_eq, get_more, hn_push, hn_set, hn_more, c1.g, c2.g]; try exact rfl) ?_ | refine Tot.chk (by simp (disch := first | omega | (simp only [hn_push, hn_set, hn_more] <;> omega) | fail) [ld1_get, ldN_get, stA_get, boxA, gz, gs, Heap.get_push_ne, Heap.get_push_eq, Heap.get_set_ne, Heap.get_set_eq, get_more, hn_push, hn_set, hn_more, c1.g, c2.g]; done) ?_ | fail)
  refine Tot.ret (hQ _ _ ⟨Keep.ext (by (repeat (first | exact Keep.refl | refine Keep.call ?_ (by assumption) | refine Keep.push ?_ | refine Keep.more ?_ | refine Keep.set ?_ (by first | omega | (simp only [hn_push, hn_set, hn_more] <;> omega) | fail)))), p1, q1, p2, q2, rfl, (i1.keep (by (repeat (first | exact KeepP.refl | refine KeepP.call ?_ (by assumption) | refine KeepP.push ?_ | refine KeepP.more ?_ | refine KeepP.set ?_ (by first | (right; first | omega | (simp only [hn_push, hn_set, hn_more] <;> omega) | fail) | (left; simp; done) | fail))))).mono fun i _ hi => hi.1, (i2.keep (by (repeat (first | exact KeepP.refl | refine KeepP.call ?_ (by assumption) | refine KeepP.push ?_ | refine KeepP.more ?_ | refine KeepP.set ?_ (by first | (right; first | omega | (simp only [hn_push, hn_set, hn_more] <;> omega) | fail) | (left; simp; done) | fail))))).mono fun i _ hi => hi.1, Nat.mul_pos hd he⟩)

theorem rsz_mul {x y : Nat} : (dig 65536 (x * y)).length ≤ (dig 65536 x).length + (dig 65536 y).length := by
  apply dig_len_le (by decide)
  rw [Nat.pow_add]
  exact Nat.mul_lt_mul_of_lt_of_le (dig_len_lt (by decide)) (Nat.le_of_lt (dig_len_lt (by decide))) (by have := Nat.pow_pos (n := (dig 65536 y).length) (show 0 < 65536 by decide); omega)
theorem rsz_add {x y N : Nat} (h1 : (dig 65536 x).length ≤ N) (h2 : (dig 65536 y).length ≤ N) : (dig 65536 (x + y)).length ≤ N + 1 := by
  apply dig_len_le (by decide)
  have a1 := dig_len_lt (b := 65536) (x := x) (by decide)
  have a2 := dig_len_lt (b := 65536) (x := y) (by decide)
  have a3 : 65536 ^ (dig 65536 x).length ≤ 65536 ^ N := Nat.pow_le_pow_right (by decide) h1
  have a4 : 65536 ^ (dig 65536 y).length ≤ 65536 ^ N := Nat.pow_le_pow_right (by decide) h2
  rw [Nat.pow_succ]; omega

set_option maxHeartbeats 1000000 in
theorem r5_add {H : Heap} {P : Nat → Prop} {v w : V} {n m : Int} {d e : Nat} (hP : UpP H P) (h : isK H P v n d) (h' : isK H P w m e) (h1 : (dig 65536 n.natAbs).length < 10000000) (h2 : (dig 65536 m.natAbs).length < 10000000) (h3 : (dig 65536 d).length < 10000000) (h4 : (dig 65536 e).length < 10000000) :
    Tot (fun n => f_ref05_Add n [v, w] H) fun v H' => Ext0 H H' ∧ isK H' P v (n * e + m * d) (d * e) := by
  obtain ⟨σ, s, τ, t, rfl, a1, a2, hd⟩ := h
  obtain ⟨σ', s', τ', t', rfl, b1, b2, he⟩ := h'
  refine Tot.of fun Q hQ => ?_
  refine ref05_Add_tot ?_
  simp only [ref05_Add_b]
  have hq : ∀ (G : Heap), H.n + 3 ≤ G.n → UpP G (fun i => P i ∧ i ≠ H.n + 2) := fun G hG i hi => ⟨hP i (by omega), by omega⟩
  have hm : ∀ {v : V} {z : Int}, isJ H P v z → isJ H (fun i => P i ∧ i ≠ H.n + 2) v z := fun h => h.mono fun i hi hp => ⟨hp, by omega⟩
  repeat (first | refine Tot.pure (by simp (disch := first | omega | (simp only [hn_push, hn_set, hn_more] <;> omega) | fail) [ld1_get, ldN_get, stA_get, boxA, gz, gs, Heap.get_push_ne, Heap.get_push_eq, Heap.get_set_ne, Heap.get_set_eq, get_more, hn_push, hn_set, hn_more, ]; try exact rfl) ?_ | refine Tot.chk (by simp (disch := first | omega | (simp only [hn_push, hn_set, hn_more] <;> omega) | fail) [ld1_get, ldN_get, stA_get, boxA, gz, gs, Heap.get_push_ne, Heap.get_push_eq, Heap.get_set_ne, Heap.get_set_eq, get_more, hn_push, hn_set, hn_more, ]; done) ?_ | fail)
  refine Tot.bind (r4_mul (hq _ (by simp)) ((hm a1).keep (by (repeat (first | exact KeepP.refl | refine KeepP.call ?_ (by assumption) | refine KeepP.push ?_ | refine KeepP.more ?_ | refine KeepP.set ?_ (by first | (right; first | omega | (simp only [hn_push, hn_set, hn_more] <;> omega) | fail) | (left; simp; done) | fail))))) ((hm b2).keep (by (repeat (first | exact KeepP.refl | refine KeepP.call ?_ (by assumption) | refine KeepP.push ?_ | refine KeepP.more ?_ | refine KeepP.set ?_ (by first | (right; first | omega | (simp only [hn_push, hn_set, hn_more] <;> omega) | fail) | (left; simp; done) | fail))))) (by rw [Int.natAbs_natCast]; omega)) ?_
  rintro v H1 ⟨c1, i1⟩
  have n1 := c1.n; try simp only [hn_push, hn_set, hn_more] at n1
  obtain ⟨p1, q1, rfl, -⟩ := i1.shape
  dsimp only
  repeat (first | refine Tot.pure (by simp (disch := first | omega | (simp only [hn_push, hn_set, hn_more] <;> omega) | fail) [ld1_get, ldN_get, stA_get, boxA, gz, gs, Heap.get_push_ne, Heap.get_push_eq, Heap.get_set_ne, Heap.get_set_eq, get_more, hn_push, hn_set, hn_more, c1.g]; try exact rfl) ?_ | refine Tot.chk (by simp (disch := first | omega | (simp only [hn_push, hn_set, hn_more] <;> omega) | fail) [ld1_get, ldN_get, stA_get, boxA, gz, gs, Heap.get_push_ne, Heap.get_push_eq, Heap.get_set_ne, Heap.get_set_eq, get_more, hn_push, hn_set, hn_more, c1.g]; done) ?_ | fail)
  refine Tot.bind (r4_mul (hq _ (by omega)) ((hm b1).keep (by (repeat (first | exact KeepP.refl | refine KeepP.call ?_ (by assumption) | refine KeepP.push ?_ | refine KeepP.more ?_ | refine KeepP.set ?_ (by first | (right; first | omega | (simp only [hn_push, hn_set, hn_more] <;> omega) | fail) | (left; simp; done) | fail))))) ((hm a2).keep (by (repeat (first | exact KeepP.refl | refine KeepP.call ?_ (by assumption) | refine KeepP.push ?_ | refine KeepP.more ?_ | refine KeepP.set ?_ (by first | (right; first | omega | (simp only [hn_push, hn_set, hn_more] <;> omega) | fail) | (left; simp; done) | fail))))) (by rw [Int.natAbs_natCast]; omega)) ?_
  rintro v H2 ⟨c2, i2⟩
  have n2 := c2.n; try simp only [hn_push, hn_set, hn_more] at n2
  obtain ⟨p2, q2, rfl, -⟩ := i2.shape
  dsimp only
  repeat (first | refine Tot.pure (by simp (disch := first | omega | (simp only [hn_push, hn_set, hn_more] <;> omega) | fail) [ld1_get, ldN_get, stA_get, boxA, gz, gs, Heap.get_push_ne, Heap.get_push_eq, Heap.get_set_ne, Heap.get_set_eq, get_more, hn_push, hn_set, hn_more, c1.g, c2.g]; try exact rfl) ?_ | refine Tot.chk (by simp (disch := first | omega | (simp only [hn_push, hn_set, hn_more] <;> omega) | fail) [ld1_get, ldN_get, stA_get, boxA, gz, gs, Heap.get_push_ne, Heap.get_push_eq, Heap.get_set_ne, Heap.get_set_eq, get_more, hn_push, hn_set, hn_more, c1.g, c2.g]; done) ?_ | fail)
  have z1 := rsz_mul (x := n.natAbs) (y := e)
  have z2 := rsz_mul (x := m.natAbs) (y := d)
  rw [← Int.natAbs_natCast e, ← Int.natAbs_mul, Int.natAbs_natCast] at z1
  rw [← Int.natAbs_natCast d, ← Int.natAbs_mul, Int.natAbs_natCast] at z2
  refine Tot.bind (r4_add (hq _ (by omega)) (i1.keep (by (repeat (first | exact KeepP.refl | refine KeepP.call ?_ (by assumption) | refine KeepP.push ?_ | refine KeepP.more ?_ | refine KeepP.set ?_ (by first | (right; first | omega | (simp only [hn_push, hn_set, hn_more] <;> omega) | fail) | (left; simp; done) | fail))))) i2 (by omega) (by omega)) ?_
  rintro v H3 ⟨c3, i3⟩
  have n3 := c3.n; try simp only [hn_push, hn_set, hn_more] at n3
  obtain ⟨p3, q3, rfl, -⟩ := i3.shape
  dsimp only
  repeat (first | refine Tot.pure (by simp (disch := first | omega | (simp only [hn_push, hn_set, hn_more] <;> omega) | fail) [ld1_get, ldN_get, stA_get, boxA, gz, gs, Heap.get_push_ne, Heap.get_push_eq, Heap.get_set_ne, Heap.get_set_eq, get_more, hn_push, hn_set, hn_more, c1.g, c2.g, c3.g]; try exact rfl) ?_ | refine Tot.chk (by simp (disch := first | omega | (simp only [hn_push, hn_set, hn_more] <;> omega) | fail) [ld1_get, ldN_get, stA_get, boxA, gz, gs, Heap.get_push_ne, Heap.get_push_eq, Heap.get_set_ne, Heap.get_set_eq, get_more, hn_push, hn_set, hn_more, c1.g, c2.g, c3.g]; done) ?_ | fail)
  refine Tot.bind (r4_mul (hq _ (by omega)) ((hm a2).keep (by (repeat (first | exact KeepP.refl | refine KeepP.call ?_ (by assumption) | refine KeepP.push ?_ | refine KeepP.more ?_ | refine KeepP.set ?_ (by first | (right; first | omega | (simp only [hn_push, hn_set, hn_more] <;> omega) | fail) | (left; simp; done) | fail))))) ((hm b2).keep (by (repeat (first | exact KeepP.refl | refine KeepP.call ?_ (by assumption) | refine KeepP.push ?_ | refine KeepP.more ?_ | refine KeepP.set ?_ (by first | (right; first | omega | (simp only [hn_push, hn_set, hn_more] <;> omega) | fail) | (left; simp; done) | fail))))) (by rw [Int.natAbs_natCast, Int.natAbs_natCast]; omega)) ?_
  rintro v H4 ⟨c4, i4⟩
  have n4 := c4.n; try simp only [hn_push, hn_set, hn_more] at n4
  obtain ⟨p4, q4, rfl, -⟩ := i4.shape
  rw [← Int.natCast_mul] at i4
  dsimp only
  repeat (first | refine Tot.pure (by simp (disch := first | omega | (simp only [hn_push, hn_set, hn_more] <;> omega) | fail) [ld1_get, ldN_get, stA_get, boxA, gz, gs, Heap.get_push_ne, Heap.get_push_eq, Heap.get_set_ne, Heap.get_set_eq, get_more, hn_push, hn_set, hn_more, c1.g, c2.g, c3.g, c4.g]; try exact rfl) ?_ | refine Tot.chk (by simp (disch := first | omega | (simp only [hn_push, hn_set, hn_more] <;> omega) | fail) [ld1_get, ldN_get, stA_get, boxA, gz, gs, Heap.get_push_ne, Heap.get_push_eq, Heap.get_set_ne, Heap.get_set_eq, get_more, hn_push, hn_set, hn_more, c1.g, c2.g, c3.g, c4.g]; done) ?_ | fail)
  refine Tot.ret (hQ _ _ ⟨Keep.ext (by (repeat (first | exact Keep.refl | refine Keep.call ?_ (by assumption) | refine Keep.push ?_ | refine Keep.more ?_ | refine Keep.set ?_ (by first | omega | (simp only [hn_push, hn_set, hn_more] <;> omega) | fail)))), p3, q3, p4, q4, rfl, (i3.keep (by (repeat (first | exact KeepP.refl | refine KeepP.call ?_ (by assumption) | refine KeepP.push ?_ | refine KeepP.more ?_ | refine KeepP.set ?_ (by first | (right; first | omega | (simp only [hn_push, hn_set, hn_more] <;> omega) | fail) | (left; simp; done) | fail))))).mono fun i _ hi => hi.1, (i4.keep (by (repeat (first | exact KeepP.refl | refine KeepP.call ?_ (by assumption) | refine KeepP.push ?_ | refine KeepP.more ?_ | refine KeepP.set ?_ (by first | (right; first | omega | (simp only [hn_push, hn_set, hn_more] <;> omega) | fail) | (left; simp; done) | fail))))).mono fun i _ hi => hi.1, Nat.mul_pos hd he⟩)

theorem r5_low {H : Heap} {P : Nat → Prop} {v : V} {n : Int} {d : Nat} (hP : UpP H P) (h : isK H P v n d) (h1 : (dig 65536 n.natAbs).length < 10000000) (h2 : (dig 65536 d).length < 10000000) :
    Tot (fun n => f_ref05_Low n [v] H) fun v H' => Ext0 H H' ∧ isK H' P v (lowN n d) (lowD n d) := by
  obtain ⟨σ, s, τ, t, rfl, a1, a2, hd⟩ := h
  obtain ⟨_, _, e1, hσ, r1, f1⟩ := a1.shape
  simp at e1; obtain ⟨rfl, rfl⟩ := e1
  obtain ⟨_, _, e2, hτ, r2, f2⟩ := a2.shape
  simp at e2; obtain ⟨rfl, rfl⟩ := e2
  rw [Int.natAbs_natCast] at r2
  have sx := sign_cases n
  rw [← hσ] at sx
  have hg0 : 0 < Nat.gcd n.natAbs d := Nat.gcd_pos_of_pos_right _ hd
  refine Tot.of fun Q hQ => ?_
  refine ref05_Low_tot ?_
  simp only [ref05_Low_b]
  have hq : ∀ (G : Heap), H.n + 2 ≤ G.n → UpP G (fun i => P i ∧ i ≠ H.n + 1) := fun G hG i hi => ⟨hP i (by omega), by omega⟩
  repeat (first | refine Tot.pure (by simp (disch := first | omega | (simp only [hn_push, hn_set, hn_more] <;> omega) | fail) [ld1_get, ldN_get, stA_get, boxA, gz, gs, Heap.get_push_ne, Heap.get_push_eq, Heap.get_set_ne, Heap.get_set_eq, get_more, hn_push, hn_set, hn_more, ]; try exact rfl) ?_ | refine Tot.chk (by simp (disch := first | omega | (simp only [hn_push, hn_set, hn_more] <;> omega) | fail) [ld1_get, ldN_get, stA_get, boxA, gz, gs, Heap.get_push_ne, Heap.get_push_eq, Heap.get_set_ne, Heap.get_set_eq, get_more, hn_push, hn_set, hn_more, ]; done) ?_ | fail)
  refine Tot.ite (fun h0 => ?_) (fun h0 => ?_)
  · have h0' := of_decide_eq_true h0
    have hn : n = 0 := by omega
    subst hn
    rw [low_zero.1, low_zero.2] at hQ
    repeat (first | refine Tot.pure (by simp (disch := first | omega | (simp only [hn_push, hn_set, hn_more] <;> omega) | fail) [ld1_get, ldN_get, stA_get, boxA, gz, gs, Heap.get_push_ne, Heap.get_push_eq, Heap.get_set_ne, Heap.get_set_eq, get_more, hn_push, hn_set, hn_more, ]; try exact rfl) ?_ | refine Tot.chk (by simp (disch := first | omega | (simp only [hn_push, hn_set, hn_more] <;> omega) | fail) [ld1_get, ldN_get, stA_get, boxA, gz, gs, Heap.get_push_ne, Heap.get_push_eq, Heap.get_set_ne, Heap.get_set_eq, get_more, hn_push, hn_set, hn_more, ]; done) ?_ | fail)
    refine Tot.bind (r4_long (z := 1) (hq _ (by simp)) (by omega)) ?_
    rintro v H2 ⟨c2, i2⟩
    have n2 := c2.n; try simp only [hn_push, hn_set, hn_more] at n2
    obtain ⟨b2, s2, rfl, -⟩ := i2.shape
    dsimp only
    repeat (first | refine Tot.pure (by simp (disch := first | omega | (simp only [hn_push, hn_set, hn_more] <;> omega) | fail) [ld1_get, ldN_get, stA_get, boxA, gz, gs, Heap.get_push_ne, Heap.get_push_eq, Heap.get_set_ne, Heap.get_set_eq, get_more, hn_push, hn_set, hn_more, c2.g]; try exact rfl) ?_ | refine Tot.chk (by simp (disch := first | omega | (simp only [hn_push, hn_set, hn_more] <;> omega) | fail) [ld1_get, ldN_get, stA_get, boxA, gz, gs, Heap.get_push_ne, Heap.get_push_eq, Heap.get_set_ne, Heap.get_set_eq, get_more, hn_push, hn_set, hn_more, c2.g]; done) ?_ | fail)
    refine Tot.ret (hQ _ _ ⟨Keep.ext (by (repeat (first | exact Keep.refl | refine Keep.call ?_ (by assumption) | refine Keep.push ?_ | refine Keep.more ?_ | refine Keep.set ?_ (by first | omega | (simp only [hn_push, hn_set, hn_more] <;> omega) | fail)))), _, _, b2, s2, rfl, isJ.zero, (i2.keep (by (repeat (first | exact KeepP.refl | refine KeepP.call ?_ (by assumption) | refine KeepP.push ?_ | refine KeepP.more ?_ | refine KeepP.set ?_ (by first | (right; first | omega | (simp only [hn_push, hn_set, hn_more] <;> omega) | fail) | (left; simp; done) | fail))))).mono fun i _ hi => hi.1, by decide⟩)
  · have h0' : σ ≠ 0 := by simpa using h0
    have hn : n ≠ 0 := by omega
    repeat (first | refine Tot.pure (by simp (disch := first | omega | (simp only [hn_push, hn_set, hn_more] <;> omega) | fail) [ld1_get, ldN_get, stA_get, boxA, gz, gs, Heap.get_push_ne, Heap.get_push_eq, Heap.get_set_ne, Heap.get_set_eq, get_more, hn_push, hn_set, hn_more, ]; try exact rfl) ?_ | refine Tot.chk (by simp (disch := first | omega | (simp only [hn_push, hn_set, hn_more] <;> omega) | fail) [ld1_get, ldN_get, stA_get, boxA, gz, gs, Heap.get_push_ne, Heap.get_push_eq, Heap.get_set_ne, Heap.get_set_eq, get_more, hn_push, hn_set, hn_more, ]; done) ?_ | fail)
    refine Tot.bind (r_gcd (r1.ext (Keep.ext (by (repeat (first | exact Keep.refl | refine Keep.call ?_ (by assumption) | refine Keep.push ?_ | refine Keep.more ?_ | refine Keep.set ?_ (by first | omega | (simp only [hn_push, hn_set, hn_more] <;> omega) | fail)))))) (r2.ext (Keep.ext (by (repeat (first | exact Keep.refl | refine Keep.call ?_ (by assumption) | refine Keep.push ?_ | refine Keep.more ?_ | refine Keep.set ?_ (by first | omega | (simp only [hn_push, hn_set, hn_more] <;> omega) | fail)))))) (by omega) (by omega)) ?_
    rintro v H1 ⟨c1, s1, rfl, q1⟩
    have n1 := c1.n; try simp only [hn_push, hn_set, hn_more] at n1
    have hgd : Nat.gcd n.natAbs d ≤ d := Nat.gcd_le_right _ hd
    have hgz := rsz_mono hgd
    have hgn := Nat.gcd_dvd_left n.natAbs d
    have hgc : Nat.gcd n.natAbs d = Nat.gcd n.natAbs d := rfl
    have eN : lowN n d = sgn (decide (n < 0)) (n.natAbs / Nat.gcd n.natAbs d) := by rw [lowN, if_neg (by omega)]
    have eD : lowD n d = d / Nat.gcd n.natAbs d := by rw [lowD, if_neg (by omega)]
    have hDp := lowD_pos (n := n) (d := d)
    generalize Nat.gcd n.natAbs d = g at *
    dsimp only
    repeat (first | refine Tot.pure (by simp (disch := first | omega | (simp only [hn_push, hn_set, hn_more] <;> omega) | fail) [ld1_get, ldN_get, stA_get, boxA, gz, gs, Heap.get_push_ne, Heap.get_push_eq, Heap.get_set_ne, Heap.get_set_eq, get_more, hn_push, hn_set, hn_more, c1.g]; try exact rfl) ?_ | refine Tot.chk (by simp (disch := first | omega | (simp only [hn_push, hn_set, hn_more] <;> omega) | fail) [ld1_get, ldN_get, stA_get, boxA, gz, gs, Heap.get_push_ne, Heap.get_push_eq, Heap.get_set_ne, Heap.get_set_eq, get_more, hn_push, hn_set, hn_more, c1.g]; done) ?_ | fail)
    refine Tot.bind (r_divmod (r1.ext (Keep.ext (by (repeat (first | exact Keep.refl | refine Keep.call ?_ (by assumption) | refine Keep.push ?_ | refine Keep.more ?_ | refine Keep.set ?_ (by first | omega | (simp only [hn_push, hn_set, hn_more] <;> omega) | fail)))))) q1 (by omega) (by omega) hg0) ?_
    rintro v H2 ⟨c2, s2, s3, rfl, q2, -, f3, -⟩
    have n2 := c2.n; try simp only [hn_push, hn_set, hn_more] at n2
    dsimp only
    repeat (first | refine Tot.pure (by simp (disch := first | omega | (simp only [hn_push, hn_set, hn_more] <;> omega) | fail) [ld1_get, ldN_get, stA_get, boxA, gz, gs, Heap.get_push_ne, Heap.get_push_eq, Heap.get_set_ne, Heap.get_set_eq, get_more, hn_push, hn_set, hn_more, c1.g, c2.g]; try exact rfl) ?_ | refine Tot.chk (by simp (disch := first | omega | (simp only [hn_push, hn_set, hn_more] <;> omega) | fail) [ld1_get, ldN_get, stA_get, boxA, gz, gs, Heap.get_push_ne, Heap.get_push_eq, Heap.get_set_ne, Heap.get_set_eq, get_more, hn_push, hn_set, hn_more, c1.g, c2.g]; done) ?_ | fail)
    refine Tot.bind (r_divmod (r2.ext (Keep.ext (by (repeat (first | exact Keep.refl | refine Keep.call ?_ (by assumption) | refine Keep.push ?_ | refine Keep.more ?_ | refine Keep.set ?_ (by first | omega | (simp only [hn_push, hn_set, hn_more] <;> omega) | fail)))))) (q1.ext c2) (by omega) (by omega) hg0) ?_
    rintro v H3 ⟨c3, s4, s5, rfl, q4, -, f5, -⟩
    have n3 := c3.n; try simp only [hn_push, hn_set, hn_more] at n3
    dsimp only
    repeat (first | refine Tot.pure (by simp (disch := first | omega | (simp only [hn_push, hn_set, hn_more] <;> omega) | fail) [ld1_get, ldN_get, stA_get, boxA, gz, gs, Heap.get_push_ne, Heap.get_push_eq, Heap.get_set_ne, Heap.get_set_eq, get_more, hn_push, hn_set, hn_more, c1.g, c2.g, c3.g]; try exact rfl) ?_ | refine Tot.chk (by simp (disch := first | omega | (simp only [hn_push, hn_set, hn_more] <;> omega) | fail) [ld1_get, ldN_get, stA_get, boxA, gz, gs, Heap.get_push_ne, Heap.get_push_eq, Heap.get_set_ne, Heap.get_set_eq, get_more, hn_push, hn_set, hn_more, c1.g, c2.g, c3.g]; done) ?_ | fail)
    have hqn : n.natAbs / g ≠ 0 := by
      have := Nat.div_pos (Nat.le_of_dvd (by omega) hgn) hg0
      omega
    have hqp : (0 : Int) < ((n.natAbs / g : Nat) : Int) := Int.natCast_pos.2 (Nat.pos_of_ne_zero hqn)
    refine Tot.ret (hQ _ _ ⟨Keep.ext (by (repeat (first | exact Keep.refl | refine Keep.call ?_ (by assumption) | refine Keep.push ?_ | refine Keep.more ?_ | refine Keep.set ?_ (by first | omega | (simp only [hn_push, hn_set, hn_more] <;> omega) | fail)))), σ, s2, 1, s4, rfl, ⟨s2, ?_, ?_, fun i hi => hP i (by have := f3 i hi; omega)⟩, ⟨s4, ?_, ?_, fun i hi => hP i (by have := f5 i hi; omega)⟩, hDp⟩)
    · have : (lowN n d).sign = σ := by
        rw [eN]
        rcases sx with ⟨x1, x2⟩ | ⟨x1, x2⟩ | ⟨x1, x2⟩
        · rw [sgn, if_pos (by simpa using x2), Int.sign_neg, Int.sign_eq_one_of_pos hqp, x1]
        · omega
        · rw [sgn, if_neg (by simp; omega), Int.sign_eq_one_of_pos hqp, x1]
      rw [this]
    · rw [eN, sgn_abs]; exact q2.keep (lo := H1.n) f3 (by (repeat (first | exact Keep.refl | refine Keep.call ?_ (by assumption) | refine Keep.push ?_ | refine Keep.more ?_ | refine Keep.set ?_ (by first | omega | (simp only [hn_push, hn_set, hn_more] <;> omega) | fail))))
    · rw [Int.sign_eq_one_of_pos (by omega)]
    · rw [Int.natAbs_natCast, eD]; exact q4.keep (lo := H2.n) f5 (by (repeat (first | exact Keep.refl | refine Keep.call ?_ (by assumption) | refine Keep.push ?_ | refine Keep.more ?_ | refine Keep.set ?_ (by first | omega | (simp only [hn_push, hn_set, hn_more] <;> omega) | fail))))

theorem r5_floor {H : Heap} {P : Nat → Prop} {v : V} {n : Int} {d : Nat} (hP : UpP H P) (h : isK H P v n d) (h1 : (dig 65536 n.natAbs).length < 90000000) (h2 : (dig 65536 d).length < 90000000) :
    Tot (fun n => f_ref05_Floor n [v] H) fun v H' => Ext0 H H' ∧ isJ H' P v (n / d) := by
  obtain ⟨σ, s, τ, t, rfl, a1, a2, hd⟩ := h
  refine Tot.of fun Q hQ => ?_
  refine ref05_Floor_tot ?_
  simp only [ref05_Floor_b]
  have hq : ∀ (G : Heap), H.n + 2 ≤ G.n → UpP G (fun i => P i ∧ i ≠ H.n + 1) := fun G hG i hi => ⟨hP i (by omega), by omega⟩
  have hm : ∀ {v : V} {z : Int}, isJ H P v z → isJ H (fun i => P i ∧ i ≠ H.n + 1) v z := fun h => h.mono fun i hi hp => ⟨hp, by omega⟩
  repeat (first | refine Tot.pure (by simp (disch := first | omega | (simp only [hn_push, hn_set, hn_more] <;> omega) | fail) [ld1_get, ldN_get, stA_get, boxA, gz, gs, Heap.get_push_ne, Heap.get_push_eq, Heap.get_set_ne, Heap.get_set_eq, get_more, hn_push, hn_set, hn_more, ]; try exact rfl) ?_ | refine Tot.chk (by simp (disch := first | omega | (simp only [hn_push, hn_set, hn_more] <;> omega) | fail) [ld1_get, ldN_get, stA_get, boxA, gz, gs, Heap.get_push_ne, Heap.get_push_eq, Heap.get_set_ne, Heap.get_set_eq, get_more, hn_push, hn_set, hn_more, ]; done) ?_ | fail)
  refine Tot.bind (r4_floor (hq _ (by simp)) ((hm a1).keep (by (repeat (first | exact KeepP.refl | refine KeepP.call ?_ (by assumption) | refine KeepP.push ?_ | refine KeepP.more ?_ | refine KeepP.set ?_ (by first | (right; first | omega | (simp only [hn_push, hn_set, hn_more] <;> omega) | fail) | (left; simp; done) | fail))))) ((hm a2).keep (by (repeat (first | exact KeepP.refl | refine KeepP.call ?_ (by assumption) | refine KeepP.push ?_ | refine KeepP.more ?_ | refine KeepP.set ?_ (by first | (right; first | omega | (simp only [hn_push, hn_set, hn_more] <;> omega) | fail) | (left; simp; done) | fail))))) hd h1 h2) ?_
  rintro v H1 ⟨c1, v1, v2, z, rfl, i1, i2⟩
  have n1 := c1.n; try simp only [hn_push, hn_set, hn_more] at n1
  obtain ⟨p1, q1, rfl, -⟩ := i1.shape
  obtain ⟨p2, q2, rfl, -⟩ := i2.shape
  dsimp only
  repeat (first | refine Tot.pure (by simp (disch := first | omega | (simp only [hn_push, hn_set, hn_more] <;> omega) | fail) [ld1_get, ldN_get, stA_get, boxA, gz, gs, Heap.get_push_ne, Heap.get_push_eq, Heap.get_set_ne, Heap.get_set_eq, get_more, hn_push, hn_set, hn_more, c1.g]; try exact rfl) ?_ | refine Tot.chk (by simp (disch := first | omega | (simp only [hn_push, hn_set, hn_more] <;> omega) | fail) [ld1_get, ldN_get, stA_get, boxA, gz, gs, Heap.get_push_ne, Heap.get_push_eq, Heap.get_set_ne, Heap.get_set_eq, get_more, hn_push, hn_set, hn_more, c1.g]; done) ?_ | fail)
  exact Tot.ret (hQ _ _ ⟨Keep.ext (by (repeat (first | exact Keep.refl | refine Keep.call ?_ (by assumption) | refine Keep.push ?_ | refine Keep.more ?_ | refine Keep.set ?_ (by first | omega | (simp only [hn_push, hn_set, hn_more] <;> omega) | fail)))), (i1.keep (by (repeat (first | exact KeepP.refl | refine KeepP.call ?_ (by assumption) | refine KeepP.push ?_ | refine KeepP.more ?_ | refine KeepP.set ?_ (by first | (right; first | omega | (simp only [hn_push, hn_set, hn_more] <;> omega) | fail) | (left; simp; done) | fail))))).mono fun i _ hi => hi.1⟩)

theorem one_rlen : (dig 65536 1).length = 1 := by rw [dig_pos (by decide) (by decide)]; simp [dig_zero]
theorem two_rlen : (dig 65536 2).length = 1 := by rw [dig_pos (by decide) (by decide)]; simp [dig_zero]

theorem r5_round {H : Heap} {P : Nat → Prop} {v : V} {n : Int} {d : Nat} (hP : UpP H P) (h : isK H P v n d) (h1 : (dig 65536 n.natAbs).length < 1000000) (h2 : (dig 65536 d).length < 1000000) :
    Tot (fun n => f_ref05_Round n [v] H) fun v H' => Ext0 H H' ∧ isJ H' P v (rnd n d) := by
  have ha := h
  obtain ⟨σ, s, τ, t, rfl, a1, a2, hd⟩ := h
  refine Tot.of fun Q hQ => ?_
  refine ref05_Round_tot ?_
  simp only [ref05_Round_b]
  have hq : ∀ (G : Heap), H.n + 2 ≤ G.n → UpP G (fun i => P i ∧ i ≠ H.n + 1) := fun G hG i hi => ⟨hP i (by omega), by omega⟩
  have hm : isK H (fun i => P i ∧ i ≠ H.n + 1) (.agg [.int .i64 σ, .slice s, .int .i64 τ, .slice t]) n d := ha.mono fun i hi hp => ⟨hp, by omega⟩
  repeat (first | refine Tot.pure (by simp (disch := first | omega | (simp only [hn_push, hn_set, hn_more] <;> omega) | fail) [ld1_get, ldN_get, stA_get, boxA, gz, gs, Heap.get_push_ne, Heap.get_push_eq, Heap.get_set_ne, Heap.get_set_eq, get_more, hn_push, hn_set, hn_more, ]; try exact rfl) ?_ | refine Tot.chk (by simp (disch := first | omega | (simp only [hn_push, hn_set, hn_more] <;> omega) | fail) [ld1_get, ldN_get, stA_get, boxA, gz, gs, Heap.get_push_ne, Heap.get_push_eq, Heap.get_set_ne, Heap.get_set_eq, get_more, hn_push, hn_set, hn_more, ]; done) ?_ | fail)
  refine Tot.bind (r4_long (z := 1) (hq _ (by simp)) (by omega)) ?_
  rintro v H1 ⟨c1, i1⟩
  have n1 := c1.n; try simp only [hn_push, hn_set, hn_more] at n1
  obtain ⟨p1, q1, rfl, -⟩ := i1.shape
  dsimp only
  refine Tot.bind (r4_long (z := 2) (hq _ (by omega)) (by omega)) ?_
  rintro v H2 ⟨c2, i2⟩
  have n2 := c2.n; try simp only [hn_push, hn_set, hn_more] at n2
  obtain ⟨p2, q2, rfl, -⟩ := i2.shape
  dsimp only
  repeat (first | refine Tot.pure (by simp (disch := first | omega | (simp only [hn_push, hn_set, hn_more] <;> omega) | fail) [ld1_get, ldN_get, stA_get, boxA, gz, gs, Heap.get_push_ne, Heap.get_push_eq, Heap.get_set_ne, Heap.get_set_eq, get_more, hn_push, hn_set, hn_more, c1.g, c2.g]; try exact rfl) ?_ | refine Tot.chk (by simp (disch := first | omega | (simp only [hn_push, hn_set, hn_more] <;> omega) | fail) [ld1_get, ldN_get, stA_get, boxA, gz, gs, Heap.get_push_ne, Heap.get_push_eq, Heap.get_set_ne, Heap.get_set_eq, get_more, hn_push, hn_set, hn_more, c1.g, c2.g]; done) ?_ | fail)
  have hk : isK H2 (fun i => P i ∧ i ≠ H.n + 1) (.agg [.int .i64 p1, .slice q1, .int .i64 p2, .slice q2]) 1 2 := ⟨_, _, _, _, rfl, i1.keep (by (repeat (first | exact KeepP.refl | refine KeepP.call ?_ (by assumption) | refine KeepP.push ?_ | refine KeepP.more ?_ | refine KeepP.set ?_ (by first | (right; first | omega | (simp only [hn_push, hn_set, hn_more] <;> omega) | fail) | (left; simp; done) | fail)))), i2, by decide⟩
  refine Tot.bind (r5_add (hq _ (by omega)) (hm.keep (by (repeat (first | exact KeepP.refl | refine KeepP.call ?_ (by assumption) | refine KeepP.push ?_ | refine KeepP.more ?_ | refine KeepP.set ?_ (by first | (right; first | omega | (simp only [hn_push, hn_set, hn_more] <;> omega) | fail) | (left; simp; done) | fail))))) hk (by omega) (by rw [show (1 : Int).natAbs = 1 from rfl, one_rlen]; decide) (by omega) (by rw [two_rlen]; decide)) ?_
  rintro v H3 ⟨c3, i3⟩
  have n3 := c3.n; try simp only [hn_push, hn_set, hn_more] at n3
  dsimp only
  have z1 : (dig 65536 (n * ((2 : Nat) : Int) + 1 * (d : Int)).natAbs).length ≤ 1000003 := by
    have e1 : (n * ((2 : Nat) : Int) + 1 * (d : Int)).natAbs ≤ (n.natAbs + n.natAbs) + d := by omega
    refine Nat.le_trans (rsz_mono e1) (rsz_add (N := 1000002) ?_ (by omega))
    exact Nat.le_trans (rsz_add (N := 1000000) (by omega) (by omega)) (by omega)
  have z2 := rsz_mul (x := d) (y := 2)
  rw [two_rlen] at z2
  refine Tot.bind (r5_floor (hq _ (by omega)) i3 (by omega) (by omega)) ?_
  rintro v H4 ⟨c4, i4⟩
  have n4 := c4.n; try simp only [hn_push, hn_set, hn_more] at n4
  obtain ⟨p4, q4, rfl, -⟩ := i4.shape
  have e4 : (n * ((2 : Nat) : Int) + 1 * (d : Int)) / ((d * 2 : Nat) : Int) = rnd n d := by
    unfold rnd
    congr 1
    · omega
    · congr 1; omega
  rw [e4] at i4
  dsimp only
  repeat (first | refine Tot.pure (by simp (disch := first | omega | (simp only [hn_push, hn_set, hn_more] <;> omega) | fail) [ld1_get, ldN_get, stA_get, boxA, gz, gs, Heap.get_push_ne, Heap.get_push_eq, Heap.get_set_ne, Heap.get_set_eq, get_more, hn_push, hn_set, hn_more, c1.g, c2.g, c3.g, c4.g]; try exact rfl) ?_ | refine Tot.chk (by simp (disch := first | omega | (simp only [hn_push, hn_set, hn_more] <;> omega) | fail) [ld1_get, ldN_get, stA_get, boxA, gz, gs, Heap.get_push_ne, Heap.get_push_eq, Heap.get_set_ne, Heap.get_set_eq, get_more, hn_push, hn_set, hn_more, c1.g, c2.g, c3.g, c4.g]; done) ?_ | fail)
  exact Tot.ret (hQ _ _ ⟨Keep.ext (by (repeat (first | exact Keep.refl | refine Keep.call ?_ (by assumption) | refine Keep.push ?_ | refine Keep.more ?_ | refine Keep.set ?_ (by first | omega | (simp only [hn_push, hn_set, hn_more] <;> omega) | fail)))), (i4.keep (by (repeat (first | exact KeepP.refl | refine KeepP.call ?_ (by assumption) | refine KeepP.push ?_ | refine KeepP.more ?_ | refine KeepP.set ?_ (by first | (right; first | omega | (simp only [hn_push, hn_set, hn_more] <;> omega) | fail) | (left; simp; done) | fail))))).mono fun i _ hi => hi.1⟩)
end Go.AM
end

section
/- What the document's functions of layer 40 give: Scaled, Decimal. -/
set_option linter.unusedSimpArgs false
set_option linter.unusedVariables false
namespace Go.AM
attribute [local congr] bnd_weak ite_weak

theorem ten_rlen : (dig 65536 10).length = 1 := by rw [dig_pos (by decide) (by decide)]; simp [dig_zero]

set_option maxHeartbeats 1000000 in
theorem r40_scaled {H : Heap} {P : Nat → Prop} {v : V} {n : Int} {d places : Nat} (hP : UpP H P) (h : isK H P v n d) (hp : places ≤ 30) (h1 : (dig 65536 n.natAbs).length < 900000) (h2 : (dig 65536 d).length < 900000) :
    Tot (fun n => f_ref40_Scaled n [v, .int .i64 places] H) fun v H' => Ext0 H H' ∧ isJ H' P v (rnd (n * 10 ^ places) d) := by
  have ha := h
  obtain ⟨σ, s, τ, t, rfl, -, -, hd⟩ := h
  refine Tot.of fun Q hQ => ?_
  refine ref40_Scaled_tot ?_
  simp only [ref40_Scaled_b]
  repeat (first | refine Tot.pure (by simp (disch := first | omega | (simp only [hn_push, hn_set, hn_more] <;> omega) | fail) [ld1_get, ldN_get, stA_get, boxA, gz, gs, Heap.get_push_ne, Heap.get_push_eq, Heap.get_set_ne, Heap.get_set_eq, get_more, hn_push, hn_set, hn_more, ]; try exact rfl) ?_ | refine Tot.chk (by simp (disch := first | omega | (simp only [hn_push, hn_set, hn_more] <;> omega) | fail) [ld1_get, ldN_get, stA_get, boxA, gz, gs, Heap.get_push_ne, Heap.get_push_eq, Heap.get_set_ne, Heap.get_set_eq, get_more, hn_push, hn_set, hn_more, ]; done) ?_ | fail)
  have lp : ∀ (j i : Nat) (ii : Int) (H' : Heap) (σ τ : Int) (s t : Sl), i + j = places → ii = (i : Int) → Keep 0 H H' → H.n + 2 ≤ H'.n → H'.get H.n = .cells [.int .i64 σ, .slice s, .int .i64 τ, .slice t] ty_ref05_Rat false → H'.get (H.n + 1) = .cells [.int .i64 0, .slice ⟨none, 0, 0, false⟩] ty_ref04_Int false →
      isK H' (fun i => P i ∧ i ≠ H.n ∧ i ≠ H.n + 1) (.agg [.int .i64 σ, .slice s, .int .i64 τ, .slice t]) (n * 10 ^ i) d → (dig 65536 (n * 10 ^ i).natAbs).length < 900000 + i → ∀ m, Big m →
      Tot (fun n => ref40_Scaled.l0 n (m n) (.int .i64 places) (.ptr (some (H.n, 0))) (.ptr (some (H.n + 1, 0))) (.int .i64 ii) H') Q := by
    intro j
    have hq : ∀ (G : Heap), H.n + 2 ≤ G.n → UpP G (fun i => P i ∧ i ≠ H.n ∧ i ≠ H.n + 1) := fun G hG i hi => ⟨hP i (by omega), by omega, by omega⟩
    induction j with
    | zero =>
      intro i ii H' σ τ s t hi hii k hn g0 g1 hk hz m hb
      subst hii
      refine ref40_Scaled.l0_tot hb fun m' hb' => ?_
      simp only [ref40_Scaled.l0_b]
      repeat (first | refine Tot.pure (by simp (disch := first | omega | (simp only [hn_push, hn_set, hn_more] <;> omega) | fail) [ld1_get, ldN_get, stA_get, boxA, gz, gs, Heap.get_push_ne, Heap.get_push_eq, Heap.get_set_ne, Heap.get_set_eq, get_more, hn_push, hn_set, hn_more, ]; try exact rfl) ?_ | refine Tot.chk (by simp (disch := first | omega | (simp only [hn_push, hn_set, hn_more] <;> omega) | fail) [ld1_get, ldN_get, stA_get, boxA, gz, gs, Heap.get_push_ne, Heap.get_push_eq, Heap.get_set_ne, Heap.get_set_eq, get_more, hn_push, hn_set, hn_more, ]; done) ?_ | fail)
      refine Tot.no (by simp; omega) ?_
      repeat (first | refine Tot.pure (by simp (disch := first | omega | (simp only [hn_push, hn_set, hn_more] <;> omega) | fail) [ld1_get, ldN_get, stA_get, boxA, gz, gs, Heap.get_push_ne, Heap.get_push_eq, Heap.get_set_ne, Heap.get_set_eq, get_more, hn_push, hn_set, hn_more, g0]; try exact rfl) ?_ | refine Tot.chk (by simp (disch := first | omega | (simp only [hn_push, hn_set, hn_more] <;> omega) | fail) [ld1_get, ldN_get, stA_get, boxA, gz, gs, Heap.get_push_ne, Heap.get_push_eq, Heap.get_set_ne, Heap.get_set_eq, get_more, hn_push, hn_set, hn_more, g0]; done) ?_ | fail)
      refine Tot.bind (r5_round (hq _ hn) hk (by omega) (by omega)) ?_
      rintro v H2 ⟨c2, i2⟩
      have n2 := c2.n; try simp only [hn_push, hn_set, hn_more] at n2
      obtain ⟨p2, q2, rfl, -⟩ := i2.shape
      have hip : i = places := by omega
      rw [hip] at i2
      dsimp only
      repeat (first | refine Tot.pure (by simp (disch := first | omega | (simp only [hn_push, hn_set, hn_more] <;> omega) | fail) [ld1_get, ldN_get, stA_get, boxA, gz, gs, Heap.get_push_ne, Heap.get_push_eq, Heap.get_set_ne, Heap.get_set_eq, get_more, hn_push, hn_set, hn_more, c2.g, g1]; try exact rfl) ?_ | refine Tot.chk (by simp (disch := first | omega | (simp only [hn_push, hn_set, hn_more] <;> omega) | fail) [ld1_get, ldN_get, stA_get, boxA, gz, gs, Heap.get_push_ne, Heap.get_push_eq, Heap.get_set_ne, Heap.get_set_eq, get_more, hn_push, hn_set, hn_more, c2.g, g1]; done) ?_ | fail)
      exact Tot.ret (hQ _ _ ⟨Keep.ext (Keep.set (k.call c2) (by omega)), (i2.keep (by (repeat (first | exact KeepP.refl | refine KeepP.call ?_ (by assumption) | refine KeepP.push ?_ | refine KeepP.more ?_ | refine KeepP.set ?_ (by first | (right; first | omega | (simp only [hn_push, hn_set, hn_more] <;> omega) | fail) | (left; simp; done) | fail))))).mono fun i _ hi => hi.1⟩)
    | succ j ih =>
      intro i ii H' σ τ s t hi hii k hn g0 g1 hk hz m hb
      subst hii
      refine ref40_Scaled.l0_tot hb fun m' hb' => ?_
      simp only [ref40_Scaled.l0_b]
      repeat (first | refine Tot.pure (by simp (disch := first | omega | (simp only [hn_push, hn_set, hn_more] <;> omega) | fail) [ld1_get, ldN_get, stA_get, boxA, gz, gs, Heap.get_push_ne, Heap.get_push_eq, Heap.get_set_ne, Heap.get_set_eq, get_more, hn_push, hn_set, hn_more, ]; try exact rfl) ?_ | refine Tot.chk (by simp (disch := first | omega | (simp only [hn_push, hn_set, hn_more] <;> omega) | fail) [ld1_get, ldN_get, stA_get, boxA, gz, gs, Heap.get_push_ne, Heap.get_push_eq, Heap.get_set_ne, Heap.get_set_eq, get_more, hn_push, hn_set, hn_more, ]; done) ?_ | fail)
      refine Tot.yes (by simp; omega) ?_
      refine Tot.bind (r5_long (z := 10) (hq _ (by simp only [hn_more]; omega)) (by omega)) ?_
      rintro v H2 ⟨c2, i2⟩
      have n2 := c2.n; try simp only [hn_push, hn_set, hn_more] at n2
      have i2' := i2
      obtain ⟨p2, q2, p3, q3, rfl, -⟩ := i2
      dsimp only
      repeat (first | refine Tot.pure (by simp (disch := first | omega | (simp only [hn_push, hn_set, hn_more] <;> omega) | fail) [ld1_get, ldN_get, stA_get, boxA, gz, gs, Heap.get_push_ne, Heap.get_push_eq, Heap.get_set_ne, Heap.get_set_eq, get_more, hn_push, hn_set, hn_more, c2.g, g0]; try exact rfl) ?_ | refine Tot.chk (by simp (disch := first | omega | (simp only [hn_push, hn_set, hn_more] <;> omega) | fail) [ld1_get, ldN_get, stA_get, boxA, gz, gs, Heap.get_push_ne, Heap.get_push_eq, Heap.get_set_ne, Heap.get_set_eq, get_more, hn_push, hn_set, hn_more, c2.g, g0]; done) ?_ | fail)
      refine Tot.bind (r5_mul (hq _ (by omega)) (hk.keep (by (repeat (first | exact KeepP.refl | refine KeepP.call ?_ (by assumption) | refine KeepP.push ?_ | refine KeepP.more ?_ | refine KeepP.set ?_ (by first | (right; first | omega | (simp only [hn_push, hn_set, hn_more] <;> omega) | fail) | (left; simp; done) | fail))))) i2' (by rw [show (10 : Int).natAbs = 10 from rfl, ten_rlen]; omega) (by rw [one_rlen]; omega)) ?_
      rintro v H3 ⟨c3, i3⟩
      have n3 := c3.n; try simp only [hn_push, hn_set, hn_more] at n3
      have i3' := i3
      obtain ⟨p4, q4, p5, q5, rfl, -⟩ := i3
      rw [Nat.mul_one, Int.mul_assoc, ← Int.pow_succ] at i3'
      have hz' : (dig 65536 (n * 10 ^ (i + 1)).natAbs).length < 900000 + (i + 1) := by
        have e := rsz_mul (x := (n * 10 ^ i).natAbs) (y := 10)
        have e2 : (n * 10 ^ (i + 1)).natAbs = (n * 10 ^ i).natAbs * 10 := by rw [Int.pow_succ, ← Int.mul_assoc, Int.natAbs_mul]; rfl
        rw [ten_rlen] at e
        rw [e2]; omega
      dsimp only
      repeat (first | refine Tot.pure (by simp (disch := first | omega | (simp only [hn_push, hn_set, hn_more] <;> omega) | fail) [ld1_get, ldN_get, stA_get, boxA, gz, gs, Heap.get_push_ne, Heap.get_push_eq, Heap.get_set_ne, Heap.get_set_eq, get_more, hn_push, hn_set, hn_more, c2.g, c3.g, g0]; try exact rfl) ?_ | refine Tot.chk (by simp (disch := first | omega | (simp only [hn_push, hn_set, hn_more] <;> omega) | fail) [ld1_get, ldN_get, stA_get, boxA, gz, gs, Heap.get_push_ne, Heap.get_push_eq, Heap.get_set_ne, Heap.get_set_eq, get_more, hn_push, hn_set, hn_more, c2.g, c3.g, g0]; done) ?_ | fail)
      refine ih (i + 1) _ _ p4 p5 q4 q5 (by omega) (by omega) (Keep.set ((k.call (Ch.more.t c2)).call c3) (by omega)) (by simp only [hn_set]; omega) (by rw [Heap.get_set_eq rfl]) (by rw [Heap.get_set_ne (by omega), c3.g (by omega), c2.g (by simp only [hn_more]; omega), get_more]; exact g1) (i3'.keep (by (repeat (first | exact KeepP.refl | refine KeepP.call ?_ (by assumption) | refine KeepP.push ?_ | refine KeepP.more ?_ | refine KeepP.set ?_ (by first | (right; first | omega | (simp only [hn_push, hn_set, hn_more] <;> omega) | fail) | (left; simp; done) | fail))))) hz' _ hb'
  refine lp places 0 _ _ σ τ s t (by omega) rfl (by (repeat (first | exact Keep.refl | refine Keep.call ?_ (by assumption) | refine Keep.push ?_ | refine Keep.more ?_ | refine Keep.set ?_ (by first | omega | (simp only [hn_push, hn_set, hn_more] <;> omega) | fail)))) (by simp) (by simp (disch := first | omega | (simp only [hn_push, hn_set, hn_more] <;> omega) | (simp <;> omega) | fail) [ld1_get, ldN_get, stA_get, faA_mk, boxA_agg, Heap.get_push_ne, Heap.get_push_eq, Heap.get_set_ne, Heap.get_set_eq, get_more, hn_push, hn_set, hn_more, chk_agg, ]) (by simp (disch := first | omega | (simp only [hn_push, hn_set, hn_more] <;> omega) | (simp <;> omega) | fail) [ld1_get, ldN_get, stA_get, faA_mk, boxA_agg, Heap.get_push_ne, Heap.get_push_eq, Heap.get_set_ne, Heap.get_set_eq, get_more, hn_push, hn_set, hn_more, chk_agg, ]) ?_ (by simpa using h1) _ Big.id
  rw [Int.pow_zero, Int.mul_one]
  exact (ha.mono fun i hi hp => ⟨hp, by omega, by omega⟩).keep (by (repeat (first | exact KeepP.refl | refine KeepP.call ?_ (by assumption) | refine KeepP.push ?_ | refine KeepP.more ?_ | refine KeepP.set ?_ (by first | (right; first | omega | (simp only [hn_push, hn_set, hn_more] <;> omega) | fail) | (left; simp; done) | fail))))

theorem drop_split {α : Type} {l : List α} {a b : Nat} (h : a ≤ b) (hb : b ≤ l.length) : l.drop a = (l.take b).drop a ++ l.drop b := by
  conv => lhs; rw [← List.take_append_drop b l]
  rw [List.drop_append_of_le_length (by simp; omega)]

/-- What the document's loop has written, so many letters from the end. -/
def half_fmt (D : List UInt8) (places i : Nat) : List UInt8 :=
  if places < i ∧ 0 < places then (D.take (D.length - places)).drop (D.length - i) ++ (46 :: D.drop (D.length - places)) else D.drop (D.length - i)

theorem half_step {D : List UInt8} {places i : Nat} {c : List UInt8} (hi : i < D.length) (hp : places < D.length) (hc : D.drop (D.length - 1 - i) = c ++ D.drop (D.length - i)) (hc1 : c.length = 1) :
    half_fmt D places (i + 1) = c ++ (if i = places ∧ 0 < places then 46 :: half_fmt D places i else half_fmt D places i) := by
  have e1 : D.length - (i + 1) = D.length - 1 - i := by omega
  have hcs : c = (D.take (D.length - i)).drop (D.length - 1 - i) := by
    have h1 := drop_split (l := D) (a := D.length - 1 - i) (b := D.length - i) (by omega) (by omega)
    rw [h1] at hc
    have := List.append_cancel_right hc
    exact this.symm
  unfold half_fmt
  by_cases h0 : 0 < places
  · rcases Nat.lt_trichotomy i places with h | h | h
    · rw [if_neg (by omega), if_neg (by omega), if_neg (by omega), e1, hc]
    · subst h
      rw [if_pos (by omega), if_pos ⟨rfl, h0⟩, if_neg (by omega), e1, ← hcs]
    · rw [if_pos (by omega), if_neg (by omega), if_pos (by omega), e1, ← List.append_assoc]
      congr 1
      have h2 := drop_split (l := D.take (D.length - places)) (a := D.length - 1 - i) (b := D.length - i) (by omega) (by simp; omega)
      rw [h2, List.take_take, Nat.min_eq_left (by omega), ← hcs]
  · rw [if_neg (by omega), if_neg (by omega), if_neg (by omega), e1, hc]

theorem half_len {D : List UInt8} {places i : Nat} : (half_fmt D places i).length ≤ D.length + D.length + 1 := by
  unfold half_fmt; split <;> simp <;> omega
theorem dec_lenr {x m : Nat} (h : (dig 65536 x).length ≤ m) (hm : 0 < m) : (dec x).length ≤ 10 * m := by
  have h1 := dig_len_lt (b := 65536) (x := x) (by decide)
  have h2 : 65536 ^ (dig 65536 x).length ≤ 4294967296 ^ m := Nat.le_trans (Nat.pow_le_pow_left (m := 4294967296) (by decide) _) (Nat.pow_le_pow_right (by decide) h)
  have := dec_len (Nat.lt_of_lt_of_le h1 h2) hm
  omega
theorem dec_pos {x : Nat} : 0 < (dec x).length := by
  unfold dec; split
  · simp
  · rename_i h
    simp only [List.length_map, List.length_reverse, lets_len]
    rcases Nat.eq_zero_or_pos (dig 10 x).length with e | e
    · exact (h ((dig_eq_nil (by decide)).1 (List.eq_nil_of_length_eq_zero e))).elim
    · exact e

set_option maxHeartbeats 1000000 in
theorem r40_decimal {H : Heap} {P : Nat → Prop} {v : V} {n : Int} {d places : Nat} (hP : UpP H P) (h : isK H P v n d) (hp : places ≤ 30) (h1 : (dig 65536 n.natAbs).length < 900000) (h2 : (dig 65536 d).length < 900000) (hz : (dig 65536 (rnd (n * 10 ^ places) d).natAbs).length < 1000000) :
    Tot (fun n => f_ref40_Decimal n [v, .int .i64 places] H) fun v H' => Ext0 H H' ∧ v = .str (fmt (rnd (n * 10 ^ places) d) places) := by
  have ha := h
  obtain ⟨σ, s, τ, t, rfl, -, -, hd⟩ := h
  refine Tot.of fun Q hQ => ?_
  refine ref40_Decimal_tot ?_
  simp only [ref40_Decimal_b]
  repeat (first | refine Tot.pure (by simp (disch := first | omega | (simp only [hn_push, hn_set, hn_more] <;> omega) | fail) [ld1_get, ldN_get, stA_get, boxA, gz, gs, Heap.get_push_ne, Heap.get_push_eq, Heap.get_set_ne, Heap.get_set_eq, get_more, hn_push, hn_set, hn_more, ]; try exact rfl) ?_ | refine Tot.chk (by simp (disch := first | omega | (simp only [hn_push, hn_set, hn_more] <;> omega) | fail) [ld1_get, ldN_get, stA_get, boxA, gz, gs, Heap.get_push_ne, Heap.get_push_eq, Heap.get_set_ne, Heap.get_set_eq, get_more, hn_push, hn_set, hn_more, ]; done) ?_ | fail)
  refine Tot.bind (r40_scaled (P := P) (fun i hi => hP i (by simp at hi; omega)) (ha.keep (by (repeat (first | exact KeepP.refl | refine KeepP.call ?_ (by assumption) | refine KeepP.push ?_ | refine KeepP.more ?_ | refine KeepP.set ?_ (by first | (right; first | omega | (simp only [hn_push, hn_set, hn_more] <;> omega) | fail) | (left; simp; done) | fail))))) hp h1 h2) ?_
  rintro v H1 ⟨c1, i1⟩
  have n1 := c1.n; try simp only [hn_push, hn_set, hn_more] at n1
  obtain ⟨z, hze⟩ : ∃ z, z = rnd (n * 10 ^ places) d := ⟨_, rfl⟩
  rw [← hze] at i1 hz hQ
  obtain ⟨p1, q1, rfl, hp1, r1, f1⟩ := i1.shape
  dsimp only
  repeat (first | refine Tot.pure (by simp (disch := first | omega | (simp only [hn_push, hn_set, hn_more] <;> omega) | fail) [ld1_get, ldN_get, stA_get, boxA, gz, gs, Heap.get_push_ne, Heap.get_push_eq, Heap.get_set_ne, Heap.get_set_eq, get_more, hn_push, hn_set, hn_more, c1.g]; try exact rfl) ?_ | refine Tot.chk (by simp (disch := first | omega | (simp only [hn_push, hn_set, hn_more] <;> omega) | fail) [ld1_get, ldN_get, stA_get, boxA, gz, gs, Heap.get_push_ne, Heap.get_push_eq, Heap.get_set_ne, Heap.get_set_eq, get_more, hn_push, hn_set, hn_more, c1.g]; done) ?_ | fail)
  refine Tot.bind (r_show (r1.keep Fr.zero (by (repeat (first | exact Keep.refl | refine Keep.call ?_ (by assumption) | refine Keep.push ?_ | refine Keep.more ?_ | refine Keep.set ?_ (by first | omega | (simp only [hn_push, hn_set, hn_more] <;> omega) | fail))))) (by omega)) ?_
  rintro v H2 ⟨c2, rfl⟩
  have n2 := c2.n; try simp only [hn_push, hn_set, hn_more] at n2
  dsimp only
  have g2 : H2.get H1.n = .cells [.int .i64 p1, .slice q1] ty_ref04_Int false := by rw [c2.g (by simp), Heap.get_set_eq rfl]
  have hL0 := dec_pos (x := z.natAbs)
  have hLm : (dec z.natAbs).length < 100000000 := by
    have := dec_lenr (m := 1000000) (Nat.le_of_lt hz) (by decide)
    omega
  obtain ⟨D, hD⟩ : ∃ D, D = List.replicate (places + 1 - (dec z.natAbs).length) 48 ++ dec z.natAbs := ⟨_, rfl⟩
  have hDl : D.length = places + 1 - (dec z.natAbs).length + (dec z.natAbs).length := by rw [hD]; simp
  have hfin : half_fmt D places D.length = (if 0 < places then D.take (D.length - places) ++ [46] ++ D.drop (D.length - places) else D) := by
    unfold half_fmt
    rw [Nat.sub_self, List.drop_zero]
    by_cases h0 : 0 < places
    · rw [if_pos (by omega), if_pos h0]; simp
    · rw [if_neg (by omega), if_neg h0]; simp
  have hfmt : fmt z places = if z < 0 then 45 :: half_fmt D places D.length else half_fmt D places D.length := by
    rw [hfin, hD]; rfl
  obtain ⟨L, hL⟩ : ∃ L, L = (dec z.natAbs).length := ⟨_, rfl⟩
  rw [← hL] at hDl hL0 hLm
  have hat1 : ∀ i, i < L → D.drop (D.length - 1 - i) = ((dec z.natAbs).take (L - i)).drop (L - 1 - i) ++ D.drop (D.length - i) := by
    intro i hi
    rw [hDl, hD, List.drop_append, List.drop_append]
    simp only [List.length_replicate, ← hL]
    rw [List.drop_of_length_le (by simp; omega), List.drop_of_length_le (l := List.replicate _ _) (by simp; omega), List.nil_append, List.nil_append,
      show places + 1 - L + L - 1 - i - (places + 1 - L) = L - 1 - i by omega, show places + 1 - L + L - i - (places + 1 - L) = L - i by omega]
    exact drop_split (by omega) (by omega)
  have hat2 : ∀ i, L ≤ i → i < D.length → D.drop (D.length - 1 - i) = [48] ++ D.drop (D.length - i) := by
    intro i hi hi2
    rw [hDl, hD, List.drop_append_of_le_length (by simp; omega), List.drop_append_of_le_length (by simp; omega), List.drop_replicate, List.drop_replicate, ← hL,
      show places + 1 - L - (places + 1 - L + L - 1 - i) = (i - L) + 1 by omega, show places + 1 - L - (places + 1 - L + L - i) = i - L by omega, List.replicate_succ]
    rfl
  have dl : ∀ (j i : Nat) (ii : Int), i + j = D.length → ii = (i : Int) → ∀ m, Big m → Tot (fun n => ref40_Decimal.l0 n (m n) (.int .i64 places) (.ptr (some (H1.n, 0))) (.str (half_fmt D places i)) (.str (dec z.natAbs)) (.int .i64 ii) H2) Q := by
    intro j
    induction j with
    | zero =>
      intro i ii hi hii m hb
      subst hii
      refine ref40_Decimal.l0_tot hb fun m' hb' => ?_
      simp only [ref40_Decimal.l0_b]
      repeat (first | refine Tot.pure (by simp (disch := first | omega | (simp only [hn_push, hn_set, hn_more] <;> omega) | fail) [ld1_get, ldN_get, stA_get, boxA, gz, gs, Heap.get_push_ne, Heap.get_push_eq, Heap.get_set_ne, Heap.get_set_eq, get_more, hn_push, hn_set, hn_more, len_str, ← hL]; try exact rfl) ?_ | refine Tot.chk (by simp (disch := first | omega | (simp only [hn_push, hn_set, hn_more] <;> omega) | fail) [ld1_get, ldN_get, stA_get, boxA, gz, gs, Heap.get_push_ne, Heap.get_push_eq, Heap.get_set_ne, Heap.get_set_eq, get_more, hn_push, hn_set, hn_more, len_str, ← hL]; done) ?_ | fail)
      refine Tot.no (by simp; omega) ?_
      repeat (first | refine Tot.pure (by simp (disch := first | omega | (simp only [hn_push, hn_set, hn_more] <;> omega) | fail) [ld1_get, ldN_get, stA_get, boxA, gz, gs, Heap.get_push_ne, Heap.get_push_eq, Heap.get_set_ne, Heap.get_set_eq, get_more, hn_push, hn_set, hn_more, ]; try exact rfl) ?_ | refine Tot.chk (by simp (disch := first | omega | (simp only [hn_push, hn_set, hn_more] <;> omega) | fail) [ld1_get, ldN_get, stA_get, boxA, gz, gs, Heap.get_push_ne, Heap.get_push_eq, Heap.get_set_ne, Heap.get_set_eq, get_more, hn_push, hn_set, hn_more, ]; done) ?_ | fail)
      refine Tot.no (by simp; omega) ?_
      refine ref40_Decimal.p2_tot ?_
      simp only [ref40_Decimal.p2_b]
      repeat (first | refine Tot.pure (by simp (disch := first | omega | (simp only [hn_push, hn_set, hn_more] <;> omega) | fail) [ld1_get, ldN_get, stA_get, boxA, gz, gs, Heap.get_push_ne, Heap.get_push_eq, Heap.get_set_ne, Heap.get_set_eq, get_more, hn_push, hn_set, hn_more, g2]; try exact rfl) ?_ | refine Tot.chk (by simp (disch := first | omega | (simp only [hn_push, hn_set, hn_more] <;> omega) | fail) [ld1_get, ldN_get, stA_get, boxA, gz, gs, Heap.get_push_ne, Heap.get_push_eq, Heap.get_set_ne, Heap.get_set_eq, get_more, hn_push, hn_set, hn_more, g2]; done) ?_ | fail)
      have hil : i = D.length := by omega
      subst hil
      have sz := sign_cases z
      rw [← hp1] at sz
      refine Tot.ite (fun h3 => ?_) (fun h3 => ?_)
      · have h3' := of_decide_eq_true h3
        have hcc := ar_cat (a := [45]) (b := half_fmt D places D.length) (by have := half_len (D := D) (places := places) (i := D.length); simp; omega)
        repeat (first | refine Tot.pure (by simp (disch := first | omega | (simp only [hn_push, hn_set, hn_more] <;> omega) | fail) [ld1_get, ldN_get, stA_get, boxA, gz, gs, Heap.get_push_ne, Heap.get_push_eq, Heap.get_set_ne, Heap.get_set_eq, get_more, hn_push, hn_set, hn_more, hcc]; try exact rfl) ?_ | refine Tot.chk (by simp (disch := first | omega | (simp only [hn_push, hn_set, hn_more] <;> omega) | fail) [ld1_get, ldN_get, stA_get, boxA, gz, gs, Heap.get_push_ne, Heap.get_push_eq, Heap.get_set_ne, Heap.get_set_eq, get_more, hn_push, hn_set, hn_more, hcc]; done) ?_ | fail)
        exact Tot.ret (hQ _ _ ⟨Keep.ext (by (repeat (first | exact Keep.refl | refine Keep.call ?_ (by assumption) | refine Keep.push ?_ | refine Keep.more ?_ | refine Keep.set ?_ (by first | omega | (simp only [hn_push, hn_set, hn_more] <;> omega) | fail)))), by rw [hfmt, if_pos (by omega)]⟩)
      · have h3' : ¬ p1 < 0 := by simpa using h3
        exact Tot.ret (hQ _ _ ⟨Keep.ext (by (repeat (first | exact Keep.refl | refine Keep.call ?_ (by assumption) | refine Keep.push ?_ | refine Keep.more ?_ | refine Keep.set ?_ (by first | omega | (simp only [hn_push, hn_set, hn_more] <;> omega) | fail)))), by rw [hfmt, if_neg (by omega)]⟩)
    | succ j ih =>
      intro i ii hi hii m hb
      subst hii
      have hhl := half_len (D := D) (places := places) (i := i)
      -- the digit
      have p1' : ∀ (m' : Nat → Nat), Big m' → ∀ w : List UInt8, w = (if i = places ∧ 0 < places then 46 :: half_fmt D places i else half_fmt D places i) → Tot (fun n => ref40_Decimal.p1 n (m' n) (.int .i64 places) (.ptr (some (H1.n, 0))) (.str w) (.str (dec z.natAbs)) (.int .i64 i) H2) Q := by
        intro m' hb' w hw
        have hwl : w.length ≤ D.length + D.length + 2 := by rw [hw]; split <;> (try rw [List.length_cons]) <;> omega
        refine ref40_Decimal.p1_tot ?_
        simp only [ref40_Decimal.p1_b]
        repeat (first | refine Tot.pure (by simp (disch := first | omega | (simp only [hn_push, hn_set, hn_more] <;> omega) | fail) [ld1_get, ldN_get, stA_get, boxA, gz, gs, Heap.get_push_ne, Heap.get_push_eq, Heap.get_set_ne, Heap.get_set_eq, get_more, hn_push, hn_set, hn_more, len_str, ← hL]; try exact rfl) ?_ | refine Tot.chk (by simp (disch := first | omega | (simp only [hn_push, hn_set, hn_more] <;> omega) | fail) [ld1_get, ldN_get, stA_get, boxA, gz, gs, Heap.get_push_ne, Heap.get_push_eq, Heap.get_set_ne, Heap.get_set_eq, get_more, hn_push, hn_set, hn_more, len_str, ← hL]; done) ?_ | fail)
        refine Tot.ite (fun h4 => ?_) (fun h4 => ?_)
        · have h4' := of_decide_eq_true h4
          have hsl : slStr (.str (dec z.natAbs)) (some (.int .i64 ((L : Int) - 1 - i))) (some (.int .i64 ((L : Int) - i))) = some (.str (((dec z.natAbs).take (L - i)).drop (L - 1 - i))) := by
            have b1 : bndA 0 (some (.int .i64 ((L : Int) - 1 - i))) = some (L - 1 - i) := by rw [bndA_int (by omega)]; congr 1; omega
            have b2 : bndA (dec z.natAbs).length (some (.int .i64 ((L : Int) - i))) = some (L - i) := by rw [bndA_int (by omega)]; congr 1; omega
            simp only [slStr, b1, b2, Option.bind_some]
            rw [if_pos (by omega)]
          have hcl : (((dec z.natAbs).take (L - i)).drop (L - 1 - i)).length = 1 := by simp; omega
          have hcc := ar_cat (a := ((dec z.natAbs).take (L - i)).drop (L - 1 - i)) (b := w) (by rw [hcl]; omega)
          repeat (first | refine Tot.pure (by simp (disch := first | omega | (simp only [hn_push, hn_set, hn_more] <;> omega) | fail) [ld1_get, ldN_get, stA_get, boxA, gz, gs, Heap.get_push_ne, Heap.get_push_eq, Heap.get_set_ne, Heap.get_set_eq, get_more, hn_push, hn_set, hn_more, len_str, ← hL, hsl, hcc]; try exact rfl) ?_ | refine Tot.chk (by simp (disch := first | omega | (simp only [hn_push, hn_set, hn_more] <;> omega) | fail) [ld1_get, ldN_get, stA_get, boxA, gz, gs, Heap.get_push_ne, Heap.get_push_eq, Heap.get_set_ne, Heap.get_set_eq, get_more, hn_push, hn_set, hn_more, len_str, ← hL, hsl, hcc]; done) ?_ | fail)
          have := ih (i + 1) ((i : Int) + 1) (by omega) (by omega) m' hb'
          rw [half_step (by omega) (by omega) (hat1 i (by omega)) hcl, ← hw] at this
          exact this
        · have h4' : ¬ (i : Int) < L := by simpa using h4
          have hcc := ar_cat (a := [48]) (b := w) (by simp; omega)
          repeat (first | refine Tot.pure (by simp (disch := first | omega | (simp only [hn_push, hn_set, hn_more] <;> omega) | fail) [ld1_get, ldN_get, stA_get, boxA, gz, gs, Heap.get_push_ne, Heap.get_push_eq, Heap.get_set_ne, Heap.get_set_eq, get_more, hn_push, hn_set, hn_more, hcc]; try exact rfl) ?_ | refine Tot.chk (by simp (disch := first | omega | (simp only [hn_push, hn_set, hn_more] <;> omega) | fail) [ld1_get, ldN_get, stA_get, boxA, gz, gs, Heap.get_push_ne, Heap.get_push_eq, Heap.get_set_ne, Heap.get_set_eq, get_more, hn_push, hn_set, hn_more, hcc]; done) ?_ | fail)
          have := ih (i + 1) ((i : Int) + 1) (by omega) (by omega) m' hb'
          rw [half_step (by omega) (by omega) (hat2 i (by omega) (by omega)) rfl, ← hw] at this
          exact this
      have pt : ∀ (m' : Nat → Nat), Big m' → Tot (fun n => if (decide (i = places)) = true then (bnd (arA .gtr (.int .i64 (places : Int)) (.int .i64 0)) fun t32 => bnd (asB t32) fun b7 => if b7 = true then (bnd (arA .add (.str [46]) (.str (half_fmt D places i))) fun t35 => ref40_Decimal.p1 n (m' n) (.int .i64 places) (.ptr (some (H1.n, 0))) t35 (.str (dec z.natAbs)) (.int .i64 i) H2)
          else ref40_Decimal.p1 n (m' n) (.int .i64 places) (.ptr (some (H1.n, 0))) (.str (half_fmt D places i)) (.str (dec z.natAbs)) (.int .i64 i) H2) else ref40_Decimal.p1 n (m' n) (.int .i64 places) (.ptr (some (H1.n, 0))) (.str (half_fmt D places i)) (.str (dec z.natAbs)) (.int .i64 i) H2) Q := by
        intro m' hb'
        refine Tot.ite (fun h5 => ?_) (fun h5 => ?_)
        · have h5' := of_decide_eq_true h5
          repeat (first | refine Tot.pure (by simp (disch := first | omega | (simp only [hn_push, hn_set, hn_more] <;> omega) | fail) [ld1_get, ldN_get, stA_get, boxA, gz, gs, Heap.get_push_ne, Heap.get_push_eq, Heap.get_set_ne, Heap.get_set_eq, get_more, hn_push, hn_set, hn_more, ]; try exact rfl) ?_ | refine Tot.chk (by simp (disch := first | omega | (simp only [hn_push, hn_set, hn_more] <;> omega) | fail) [ld1_get, ldN_get, stA_get, boxA, gz, gs, Heap.get_push_ne, Heap.get_push_eq, Heap.get_set_ne, Heap.get_set_eq, get_more, hn_push, hn_set, hn_more, ]; done) ?_ | fail)
          refine Tot.ite (fun h6 => ?_) (fun h6 => ?_)
          · have h6' := of_decide_eq_true h6
            have hcc := ar_cat (a := [46]) (b := half_fmt D places i) (by simp; omega)
            repeat (first | refine Tot.pure (by simp (disch := first | omega | (simp only [hn_push, hn_set, hn_more] <;> omega) | fail) [ld1_get, ldN_get, stA_get, boxA, gz, gs, Heap.get_push_ne, Heap.get_push_eq, Heap.get_set_ne, Heap.get_set_eq, get_more, hn_push, hn_set, hn_more, hcc]; try exact rfl) ?_ | refine Tot.chk (by simp (disch := first | omega | (simp only [hn_push, hn_set, hn_more] <;> omega) | fail) [ld1_get, ldN_get, stA_get, boxA, gz, gs, Heap.get_push_ne, Heap.get_push_eq, Heap.get_set_ne, Heap.get_set_eq, get_more, hn_push, hn_set, hn_more, hcc]; done) ?_ | fail)
            exact p1' m' hb' _ (by rw [if_pos ⟨h5', by omega⟩])
          · have h6' : ¬ (0 : Int) < places := by simpa using h6
            exact p1' m' hb' _ (by rw [if_neg (by omega)])
        · have h5' : ¬ i = places := by simpa using h5
          exact p1' m' hb' _ (by rw [if_neg (by omega)])
      refine ref40_Decimal.l0_tot hb fun m' hb' => ?_
      simp only [ref40_Decimal.l0_b]
      have hie : arA .eql (.int .i64 (i : Int)) (.int .i64 (places : Int)) = some (.bool (decide (i = places))) := by
        rw [ar_eql]; congr 3; exact propext Int.natCast_inj
      repeat (first | refine Tot.pure (by simp (disch := first | omega | (simp only [hn_push, hn_set, hn_more] <;> omega) | fail) [ld1_get, ldN_get, stA_get, boxA, gz, gs, Heap.get_push_ne, Heap.get_push_eq, Heap.get_set_ne, Heap.get_set_eq, get_more, hn_push, hn_set, hn_more, len_str, ← hL]; try exact rfl) ?_ | refine Tot.chk (by simp (disch := first | omega | (simp only [hn_push, hn_set, hn_more] <;> omega) | fail) [ld1_get, ldN_get, stA_get, boxA, gz, gs, Heap.get_push_ne, Heap.get_push_eq, Heap.get_set_ne, Heap.get_set_eq, get_more, hn_push, hn_set, hn_more, len_str, ← hL]; done) ?_ | fail)
      refine Tot.ite (fun h4 => ?_) (fun h4 => ?_)
      · refine Tot.pure (by simp (disch := first | omega | (simp only [hn_push, hn_set, hn_more] <;> omega) | fail) [ld1_get, ldN_get, stA_get, boxA, gz, gs, Heap.get_push_ne, Heap.get_push_eq, Heap.get_set_ne, Heap.get_set_eq, get_more, hn_push, hn_set, hn_more, hie]; try exact rfl) ?_
        refine Tot.pure (by simp (disch := first | omega | (simp only [hn_push, hn_set, hn_more] <;> omega) | fail) [ld1_get, ldN_get, stA_get, boxA, gz, gs, Heap.get_push_ne, Heap.get_push_eq, Heap.get_set_ne, Heap.get_set_eq, get_more, hn_push, hn_set, hn_more, ]; try exact rfl) ?_
        exact pt m' hb'
      · have h4' : ¬ (i : Int) < L := by simpa using h4
        repeat (first | refine Tot.pure (by simp (disch := first | omega | (simp only [hn_push, hn_set, hn_more] <;> omega) | fail) [ld1_get, ldN_get, stA_get, boxA, gz, gs, Heap.get_push_ne, Heap.get_push_eq, Heap.get_set_ne, Heap.get_set_eq, get_more, hn_push, hn_set, hn_more, ]; try exact rfl) ?_ | refine Tot.chk (by simp (disch := first | omega | (simp only [hn_push, hn_set, hn_more] <;> omega) | fail) [ld1_get, ldN_get, stA_get, boxA, gz, gs, Heap.get_push_ne, Heap.get_push_eq, Heap.get_set_ne, Heap.get_set_eq, get_more, hn_push, hn_set, hn_more, ]; done) ?_ | fail)
        refine Tot.yes (by simp; omega) ?_
        refine Tot.pure (by simp (disch := first | omega | (simp only [hn_push, hn_set, hn_more] <;> omega) | fail) [ld1_get, ldN_get, stA_get, boxA, gz, gs, Heap.get_push_ne, Heap.get_push_eq, Heap.get_set_ne, Heap.get_set_eq, get_more, hn_push, hn_set, hn_more, hie]; try exact rfl) ?_
        refine Tot.pure (by simp (disch := first | omega | (simp only [hn_push, hn_set, hn_more] <;> omega) | fail) [ld1_get, ldN_get, stA_get, boxA, gz, gs, Heap.get_push_ne, Heap.get_push_eq, Heap.get_set_ne, Heap.get_set_eq, get_more, hn_push, hn_set, hn_more, ]; try exact rfl) ?_
        exact pt m' hb'
  have h00 : half_fmt D places 0 = [] := by
    unfold half_fmt; rw [if_neg (by omega)]; simp
  have := dl D.length 0 0 (by omega) rfl _ Big.id
  rw [h00] at this
  exact this
end Go.AM
end

section
/- What the law's own functions give: short, lives, SvgDecimals. -/
set_option linter.unusedSimpArgs false
set_option linter.unusedVariables false
namespace Go.AM
attribute [local congr] bnd_weak ite_weak

theorem Own.put {H : Heap} {k : IntKind} {e i : Nat} {l : List Nat} (h : i < H.n) : Own (H.set i (.cells (nums k l) e false)) k e ⟨some (i, 0), l.length, 1, false⟩ l :=
  .inr ⟨i, rfl, by simpa using h, Heap.get_set_eq rfl⟩

set_option maxHeartbeats 1000000 in
theorem law_short {H : Heap} {v : V} {n : Int} {d N : Nat} (h : rawR H v n d N) :
    Tot (fun n => f_law40_short n [v] H) fun v H' => Ext0 H H' ∧ ∃ n' d', ∀ G, Ch (fun i => i < H.n) H' G → rawR G v n' d' 4 := by
  obtain ⟨b, s, t, l, lt, rfl, r1, r2, hL, hL', hl, hl', rfl, rfl⟩ := h
  refine Tot.of fun Q hQ => ?_
  refine law40_short_tot ?_
  simp only [law40_short_b]
  have hb0 : bSl 1 ty_uint32 [.int .u32 0] 0 [] = some (.cells (nums .u32 []) ty_uint32 false) := by simp [bSl, rowA, fillA, V.one]
  repeat (first | refine Tot.pure (by simp (disch := first | omega | (simp only [hn_push, hn_set, hn_more] <;> omega) | fail) [ld1_get, ldN_get, stA_get, boxA, gz, gs, Heap.get_push_ne, Heap.get_push_eq, Heap.get_set_ne, Heap.get_set_eq, get_more, hn_push, hn_set, hn_more, r1.lenSl, r2.lenSl]; try exact rfl) ?_ | refine Tot.chk (by simp (disch := first | omega | (simp only [hn_push, hn_set, hn_more] <;> omega) | fail) [ld1_get, ldN_get, stA_get, boxA, gz, gs, Heap.get_push_ne, Heap.get_push_eq, Heap.get_set_ne, Heap.get_set_eq, get_more, hn_push, hn_set, hn_more, r1.lenSl, r2.lenSl]; done) ?_ | fail)
  -- the second part
  have q1 : ∀ (G : Heap) (s' t' : Sl) (k1 k2 : List Nat), Keep 0 H G → H.n + 2 ≤ G.n → G.get H.n = .cells [.bool b, .slice s, .slice t] ty_api_Rat false → G.get (H.n + 1) = .cells [.bool false, .slice ⟨none, 0, 0, false⟩, .slice ⟨none, 0, 0, false⟩] ty_api_Rat false →
      Row G .u32 s' k1 → Row G .u32 t' k2 → k1.length ≤ 4 → k2.length ≤ 4 → Lim 4294967296 k1 → Lim 4294967296 k2 →
      Tot (fun n => law40_short.p1 n (.ptr (some (H.n, 0))) (.ptr (some (H.n + 1, 0))) (.slice s') (.slice t') G) Q := by
    intro G s' t' k1 k2 hk hn g0 g1 w1 w2 z1 z2 u1 u2
    refine law40_short.p1_tot ?_
    simp only [law40_short.p1_b]
    refine Tot.pure hb0 ?_
    have o1 : Own ((G.more 2).set (G.n + 0) (.cells (nums .u32 []) ty_uint32 false)) .u32 ty_uint32 ⟨some (G.n + 0, 0), 0, 1, false⟩ [] := Own.put (by simp)
    have cA : Ext0 G ((G.more 2).set (G.n + 0) (.cells (nums .u32 []) ty_uint32 false)) := Keep.ext (by (repeat (first | exact Keep.refl | refine Keep.call ?_ (by assumption) | refine Keep.push ?_ | refine Keep.more ?_ | refine Keep.set ?_ (by first | omega | (simp only [hn_push, hn_set, hn_more] <;> omega) | fail))))
    obtain ⟨s1, H1, a1, b1, c1, d1⟩ := appA_own (by_ := 4) o1 (w1.ext cA).src (by simp; omega) (by decide)
    refine Tot.pure a1 ?_
    refine Tot.pure hb0 ?_
    have c1' : Ext0 G H1 := by
      have := (cA.trans c1 (Y := (Sl.mk (some (G.n + 0, 0)) 0 1 false).has) fun i hi hx => by rw [has_mk] at hx; omega)
      exact this
    have n1 := c1.n
    simp only [hn_set, hn_more] at n1
    have o2 : Own (H1.set (G.n + 1) (.cells (nums .u32 []) ty_uint32 false)) .u32 ty_uint32 ⟨some (G.n + 1, 0), 0, 1, false⟩ [] := Own.put (by omega)
    have cB : Ext0 G (H1.set (G.n + 1) (.cells (nums .u32 []) ty_uint32 false)) := (c1'.trans (Y := fun i => i = G.n + 1) (Ch.set rfl) fun i hi hx => by omega)
    obtain ⟨s2, H2, a2, b2, c2, d2⟩ := appA_own (by_ := 4) o2 (w2.ext cB).src (by simp; omega) (by decide)
    dsimp only
    refine Tot.pure a2 ?_
    have c2' : Ext0 G H2 := cB.trans c2 fun i hi hx => by rw [has_mk] at hx; omega
    have n2 := c2.n
    simp only [hn_set] at n2
    have x0 := c1'.get H.n (by omega) (fun f => f)
    have x1 := c2'.get H.n (by omega) (fun f => f)
    have y1 := c2'.get (H.n + 1) (by omega) (fun f => f)
    rw [g0] at x0 x1
    rw [g1] at y1
    dsimp only
    have hs1 : ∀ i, s1.has i → i ≠ G.n + 1 := by
      intro i hi
      rcases d1 i hi with h | h
      · rw [has_mk] at h; omega
      · simp at h; omega
    repeat (first | refine Tot.pure (by simp (disch := first | omega | (simp only [hn_push, hn_set, hn_more] <;> omega) | fail) [ld1_get, ldN_get, stA_get, boxA, gz, gs, Heap.get_push_ne, Heap.get_push_eq, Heap.get_set_ne, Heap.get_set_eq, get_more, hn_push, hn_set, hn_more, x0, x1, y1, g0, faA_mk]; try exact rfl) ?_ | refine Tot.chk (by simp (disch := first | omega | (simp only [hn_push, hn_set, hn_more] <;> omega) | fail) [ld1_get, ldN_get, stA_get, boxA, gz, gs, Heap.get_push_ne, Heap.get_push_eq, Heap.get_set_ne, Heap.get_set_eq, get_more, hn_push, hn_set, hn_more, x0, x1, y1, g0, faA_mk]; done) ?_ | fail)
    have fin : Ext0 H (H2.set (H.n + 1) (.cells [.bool b, .slice s1, .slice s2] ty_api_Rat false)) := Keep.ext (Keep.set (hk.call c2') (by omega))
    refine Tot.ret (hQ _ _ ⟨fin, _, _, fun F cF => ⟨b, s1, s2, k1, k2, rfl, ?_, ?_, u1, u2, z1, z2, rfl, rfl⟩⟩)
    · have e1 : Row H2 .u32 s1 ([] ++ k1) := ((b1.ch (X := fun i => i = G.n + 1) (Ch.set rfl) hs1).ch c2 fun i hi hx => hs1 i hi (has_mk.1 hx)).row
      have hf : ∀ i, s1.has i → H.n + 2 ≤ i := by
        intro i hi
        rcases d1 i hi with h | h
        · rw [has_mk] at h; omega
        · simp at h; omega
      exact (e1.ch (X := fun i => i = H.n + 1) (Ch.set rfl) fun i hi hx => by have := hf i hi; omega).ch cF fun i hi hx => by have := hf i hi; omega
    · have e2 : Row H2 .u32 s2 ([] ++ k2) := b2.row
      have hf : ∀ i, s2.has i → H.n + 2 ≤ i := by
        intro i hi
        rcases d2 i hi with h | h
        · rw [has_mk] at h; omega
        · simp at h; omega
      exact (e2.ch (X := fun i => i = H.n + 1) (Ch.set rfl) fun i hi hx => by have := hf i hi; omega).ch cF fun i hi hx => by have := hf i hi; omega
  have hpush : ∀ (x : O), H.n + 1 = (H.push x).n := fun _ => rfl
  have q0 : ∀ (G : Heap) (s' : Sl) (k1 : List Nat), Keep 0 H G → H.n + 2 ≤ G.n → G.get H.n = .cells [.bool b, .slice s, .slice t] ty_api_Rat false → G.get (H.n + 1) = .cells [.bool false, .slice ⟨none, 0, 0, false⟩, .slice ⟨none, 0, 0, false⟩] ty_api_Rat false →
      Row G .u32 s' k1 → k1.length ≤ 4 → Lim 4294967296 k1 →
      Tot (fun n => law40_short.p0 n (.ptr (some (H.n, 0))) (.ptr (some (H.n + 1, 0))) (.slice s') (.slice t) G) Q := by
    intro G s' k1 hk hn g0 g1 w1 z1 u1
    refine law40_short.p0_tot ?_
    simp only [law40_short.p0_b]
    have w2 := r2.keep Fr.zero hk
    repeat (first | refine Tot.pure (by simp (disch := first | omega | (simp only [hn_push, hn_set, hn_more] <;> omega) | fail) [ld1_get, ldN_get, stA_get, boxA, gz, gs, Heap.get_push_ne, Heap.get_push_eq, Heap.get_set_ne, Heap.get_set_eq, get_more, hn_push, hn_set, hn_more, w2.lenSl]; try exact rfl) ?_ | refine Tot.chk (by simp (disch := first | omega | (simp only [hn_push, hn_set, hn_more] <;> omega) | fail) [ld1_get, ldN_get, stA_get, boxA, gz, gs, Heap.get_push_ne, Heap.get_push_eq, Heap.get_set_ne, Heap.get_set_eq, get_more, hn_push, hn_set, hn_more, w2.lenSl]; done) ?_ | fail)
    refine Tot.ite (fun h1 => ?_) (fun h1 => ?_)
    · have h1' := of_decide_eq_true h1
      repeat (first | refine Tot.pure (by simp (disch := first | omega | (simp only [hn_push, hn_set, hn_more] <;> omega) | fail) [ld1_get, ldN_get, stA_get, boxA, gz, gs, Heap.get_push_ne, Heap.get_push_eq, Heap.get_set_ne, Heap.get_set_eq, get_more, hn_push, hn_set, hn_more, w2.slice (lo := none) (hi := some (.int .i64 4)) (a := 0) (b := 4) rfl (bndA_int (by decide)) (by decide) (by omega)]; try exact rfl) ?_ | refine Tot.chk (by simp (disch := first | omega | (simp only [hn_push, hn_set, hn_more] <;> omega) | fail) [ld1_get, ldN_get, stA_get, boxA, gz, gs, Heap.get_push_ne, Heap.get_push_eq, Heap.get_set_ne, Heap.get_set_eq, get_more, hn_push, hn_set, hn_more, w2.slice (lo := none) (hi := some (.int .i64 4)) (a := 0) (b := 4) rfl (bndA_int (by decide)) (by decide) (by omega)]; done) ?_ | fail)
      have w3 := w2.sub (lo := 0) (hi := 4) (by decide) (by omega)
      exact q1 _ _ _ _ _ hk hn g0 g1 w1 w3 z1 (by simp; omega) u1 (fun x hx => hL' x (List.mem_of_mem_drop (List.mem_of_mem_take hx)))
    · have h1' : ¬ (lt.length : Int) > 4 := by simpa using h1
      exact q1 _ _ _ _ _ hk hn g0 g1 w1 w2 z1 (by omega) u1 hL'
  refine Tot.ite (fun h1 => ?_) (fun h1 => ?_)
  · have h1' := of_decide_eq_true h1
    repeat (first | refine Tot.pure (by simp (disch := first | omega | (simp only [hn_push, hn_set, hn_more] <;> omega) | fail) [ld1_get, ldN_get, stA_get, boxA, gz, gs, Heap.get_push_ne, Heap.get_push_eq, Heap.get_set_ne, Heap.get_set_eq, get_more, hn_push, hn_set, hn_more, r1.slice (lo := none) (hi := some (.int .i64 4)) (a := 0) (b := 4) rfl (bndA_int (by decide)) (by decide) (by omega)]; try exact rfl) ?_ | refine Tot.chk (by simp (disch := first | omega | (simp only [hn_push, hn_set, hn_more] <;> omega) | fail) [ld1_get, ldN_get, stA_get, boxA, gz, gs, Heap.get_push_ne, Heap.get_push_eq, Heap.get_set_ne, Heap.get_set_eq, get_more, hn_push, hn_set, hn_more, r1.slice (lo := none) (hi := some (.int .i64 4)) (a := 0) (b := 4) rfl (bndA_int (by decide)) (by decide) (by omega)]; done) ?_ | fail)
    have w3 := r1.sub (lo := 0) (hi := 4) (by decide) (by omega)
    exact q0 _ _ _ (by (repeat (first | exact Keep.refl | refine Keep.call ?_ (by assumption) | refine Keep.push ?_ | refine Keep.more ?_ | refine Keep.set ?_ (by first | omega | (simp only [hn_push, hn_set, hn_more] <;> omega) | fail)))) (by simp only [hn_more, hn_push]; omega) (by simp (disch := first | omega | (simp only [hn_push, hn_set, hn_more] <;> omega) | (simp <;> omega) | fail) [ld1_get, ldN_get, stA_get, faA_mk, boxA_agg, Heap.get_push_ne, Heap.get_push_eq, Heap.get_set_ne, Heap.get_set_eq, get_more, hn_push, hn_set, hn_more, chk_agg, ]) (by simp (disch := first | omega | (simp only [hn_push, hn_set, hn_more] <;> omega) | (simp <;> omega) | fail) [ld1_get, ldN_get, stA_get, faA_mk, boxA_agg, Heap.get_push_ne, Heap.get_push_eq, Heap.get_set_ne, Heap.get_set_eq, get_more, hn_push, hn_set, hn_more, chk_agg, ]) (w3.keep Fr.zero (by (repeat (first | exact Keep.refl | refine Keep.call ?_ (by assumption) | refine Keep.push ?_ | refine Keep.more ?_ | refine Keep.set ?_ (by first | omega | (simp only [hn_push, hn_set, hn_more] <;> omega) | fail))))) (by simp; omega) (fun x hx => hL x (List.mem_of_mem_drop (List.mem_of_mem_take hx)))
  · have h1' : ¬ (l.length : Int) > 4 := by simpa using h1
    exact q0 _ _ _ (by (repeat (first | exact Keep.refl | refine Keep.call ?_ (by assumption) | refine Keep.push ?_ | refine Keep.more ?_ | refine Keep.set ?_ (by first | omega | (simp only [hn_push, hn_set, hn_more] <;> omega) | fail)))) (by simp only [hn_more, hn_push]; omega) (by simp (disch := first | omega | (simp only [hn_push, hn_set, hn_more] <;> omega) | (simp <;> omega) | fail) [ld1_get, ldN_get, stA_get, faA_mk, boxA_agg, Heap.get_push_ne, Heap.get_push_eq, Heap.get_set_ne, Heap.get_set_eq, get_more, hn_push, hn_set, hn_more, chk_agg, ]) (by simp (disch := first | omega | (simp only [hn_push, hn_set, hn_more] <;> omega) | (simp <;> omega) | fail) [ld1_get, ldN_get, stA_get, faA_mk, boxA_agg, Heap.get_push_ne, Heap.get_push_eq, Heap.get_set_ne, Heap.get_set_eq, get_more, hn_push, hn_set, hn_more, chk_agg, ]) (r1.keep Fr.zero (by (repeat (first | exact Keep.refl | refine Keep.call ?_ (by assumption) | refine Keep.push ?_ | refine Keep.more ?_ | refine Keep.set ?_ (by first | omega | (simp only [hn_push, hn_set, hn_more] <;> omega) | fail))))) (by omega) hL
end Go.AM
end

section
/- What the law's own functions give: lives, SvgDecimals. -/
set_option linter.unusedSimpArgs false
set_option linter.unusedVariables false
namespace Go.AM
attribute [local congr] bnd_weak ite_weak

theorem ar_eqs {a b : List UInt8} : arA .eql (.str a) (.str b) = some (.bool (a == b)) := (Eq.refl _).trans (Eq.refl _)

theorem low18 : lowN (-1) 8 = -1 ∧ lowD (-1) 8 = 8 := by decide
theorem dec0 : dec 0 = [48] := by unfold dec; simp
theorem dec12 : dec 12 = [49, 50] := by
  unfold dec; rw [if_neg (by decide), dig_pos (by decide) (by decide), dig_pos (by decide) (by decide)]; simp [dig_zero, lets]
theorem fmt2 : fmt (rnd (lowN (-1) 8 * 10 ^ 2) (lowD (-1) 8)) 2 = [45, 48, 46, 49, 50] := by
  rw [low18.1, low18.2, show rnd (-1 * 10 ^ 2) 8 = -12 by decide]
  unfold fmt
  rw [show (-12 : Int).natAbs = 12 from rfl, dec12]
  decide
theorem fmt0 : fmt (rnd (lowN (-1) 8 * 10 ^ 0) (lowD (-1) 8)) 0 = [48] := by
  rw [low18.1, low18.2, show rnd (-1 * 10 ^ 0) 8 = 0 by decide]
  unfold fmt
  rw [show (0 : Int).natAbs = 0 from rfl, dec0]
  decide

set_option maxHeartbeats 1000000 in
theorem law_lives {H : Heap} : Tot (fun n => f_law40_lives n [] H) fun v H' => Ext0 H H' ∧ v = .bool true := by
  refine Tot.of fun Q hQ => ?_
  refine law40_lives_tot ?_
  simp only [law40_lives_b]
  have hb1 : bSl 1 ty_uint32 [.int .u32 0] 1 [(0, .int .u32 1)] = some (.cells (nums .u32 [1]) ty_uint32 false) := by simp [bSl, rowA]
  have hb8 : bSl 1 ty_uint32 [.int .u32 0] 1 [(0, .int .u32 8)] = some (.cells (nums .u32 [8]) ty_uint32 false) := by simp [bSl, rowA]
  refine Tot.pure hb1 ?_
  repeat (first | refine Tot.pure (by simp (disch := first | omega | (simp only [hn_push, hn_set, hn_more] <;> omega) | fail) [ld1_get, ldN_get, stA_get, boxA, gz, gs, Heap.get_push_ne, Heap.get_push_eq, Heap.get_set_ne, Heap.get_set_eq, get_more, hn_push, hn_set, hn_more, ]; try exact rfl) ?_ | refine Tot.chk (by simp (disch := first | omega | (simp only [hn_push, hn_set, hn_more] <;> omega) | fail) [ld1_get, ldN_get, stA_get, boxA, gz, gs, Heap.get_push_ne, Heap.get_push_eq, Heap.get_set_ne, Heap.get_set_eq, get_more, hn_push, hn_set, hn_more, ]; done) ?_ | fail)
  refine Tot.pure hb8 ?_
  repeat (first | refine Tot.pure (by simp (disch := first | omega | (simp only [hn_push, hn_set, hn_more] <;> omega) | fail) [ld1_get, ldN_get, stA_get, boxA, gz, gs, Heap.get_push_ne, Heap.get_push_eq, Heap.get_set_ne, Heap.get_set_eq, get_more, hn_push, hn_set, hn_more, ]; try exact rfl) ?_ | refine Tot.chk (by simp (disch := first | omega | (simp only [hn_push, hn_set, hn_more] <;> omega) | fail) [ld1_get, ldN_get, stA_get, boxA, gz, gs, Heap.get_push_ne, Heap.get_push_eq, Heap.get_set_ne, Heap.get_set_eq, get_more, hn_push, hn_set, hn_more, ]; done) ?_ | fail)
  obtain ⟨H1, h1⟩ : ∃ H1, H1 = (((H.push (.cells [.int .u32 1] ty_uint32 false)).push (.cells [.int .u32 8] ty_uint32 false)).push (.cells [(.bool false), (.slice ⟨none, 0, 0, false⟩), (.slice ⟨none, 0, 0, false⟩)] ty_api_Rat false)).set (H.n + 1 + 1) (.cells [.bool true, .slice ⟨some (H.n, 0), 1, 1, false⟩, .slice ⟨some (H.n + 1, 0), 1, 1, false⟩] ty_api_Rat false) := ⟨_, rfl⟩
  rw [← h1]
  have k1 : Keep 0 H H1 := by rw [h1]; exact (by (repeat (first | exact Keep.refl | refine Keep.call ?_ (by assumption) | refine Keep.push ?_ | refine Keep.more ?_ | refine Keep.set ?_ (by first | omega | (simp only [hn_push, hn_set, hn_more] <;> omega) | fail))))
  have n1 : H1.n = H.n + 3 := by rw [h1]; rfl
  have g1 : H1.get (H.n + 2) = .cells [.bool true, .slice ⟨some (H.n, 0), 1, 1, false⟩, .slice ⟨some (H.n + 1, 0), 1, 1, false⟩] ty_api_Rat false := by rw [h1, Heap.get_set_eq rfl]
  have ga : H1.get H.n = .cells (nums .u32 [1]) ty_uint32 false := by rw [h1]; simp (disch := first | omega | (simp only [hn_push, hn_set, hn_more] <;> omega) | (simp <;> omega) | fail) [ld1_get, ldN_get, stA_get, faA_mk, boxA_agg, Heap.get_push_ne, Heap.get_push_eq, Heap.get_set_ne, Heap.get_set_eq, get_more, hn_push, hn_set, hn_more, chk_agg, ]
  have gb : H1.get (H.n + 1) = .cells (nums .u32 [8]) ty_uint32 false := by rw [h1]; simp (disch := first | omega | (simp only [hn_push, hn_set, hn_more] <;> omega) | (simp <;> omega) | fail) [ld1_get, ldN_get, stA_get, faA_mk, boxA_agg, Heap.get_push_ne, Heap.get_push_eq, Heap.get_set_ne, Heap.get_set_eq, get_more, hn_push, hn_set, hn_more, chk_agg, ]
  have raw : rawR H1 (.agg [.bool true, .slice ⟨some (H.n, 0), 1, 1, false⟩, .slice ⟨some (H.n + 1, 0), 1, 1, false⟩]) (-1) 8 1 := by
    refine ⟨true, _, _, [1], [8], rfl, Row.new (l := [1]) (by omega) ga, Row.new (l := [8]) (by omega) gb, Lim.one.2 (by decide), Lim.one.2 (by decide), by decide, by decide, ?_, ?_⟩
    · rw [val_one]; rfl
    · rw [val_one]
  have hp : ((H.push (.cells (nums .u32 [1]) ty_uint32 false)).push (.cells (nums .u32 [8]) ty_uint32 false)).n = H.n + 2 := rfl
  rw [hp]
  refine Tot.bind (svg_Decimal_spec (places := 2) raw (by decide)) ?_
  rintro v H2 ⟨c2, rfl⟩
  have n2 := c2.n; try simp only [hn_push, hn_set, hn_more] at n2
  rw [if_neg (by decide), show (2 : Int).toNat = 2 from rfl, fmt2]
  dsimp only
  repeat (first | refine Tot.pure (by simp (disch := first | omega | (simp only [hn_push, hn_set, hn_more] <;> omega) | fail) [ld1_get, ldN_get, stA_get, boxA, gz, gs, Heap.get_push_ne, Heap.get_push_eq, Heap.get_set_ne, Heap.get_set_eq, get_more, hn_push, hn_set, hn_more, ext_tuple, c2.g, g1]; try exact rfl) ?_ | refine Tot.chk (by simp (disch := first | omega | (simp only [hn_push, hn_set, hn_more] <;> omega) | fail) [ld1_get, ldN_get, stA_get, boxA, gz, gs, Heap.get_push_ne, Heap.get_push_eq, Heap.get_set_ne, Heap.get_set_eq, get_more, hn_push, hn_set, hn_more, ext_tuple, c2.g, g1]; done) ?_ | fail)
  refine Tot.bind (svg_Decimal_spec (places := 0) (raw.ext c2) (by decide)) ?_
  rintro v H3 ⟨c3, rfl⟩
  have n3 := c3.n; try simp only [hn_push, hn_set, hn_more] at n3
  rw [if_neg (by decide), show (0 : Int).toNat = 0 from rfl, fmt0]
  dsimp only
  repeat (first | refine Tot.pure (by simp (disch := first | omega | (simp only [hn_push, hn_set, hn_more] <;> omega) | fail) [ld1_get, ldN_get, stA_get, boxA, gz, gs, Heap.get_push_ne, Heap.get_push_eq, Heap.get_set_ne, Heap.get_set_eq, get_more, hn_push, hn_set, hn_more, ext_tuple, c2.g, c3.g, g1]; try exact rfl) ?_ | refine Tot.chk (by simp (disch := first | omega | (simp only [hn_push, hn_set, hn_more] <;> omega) | fail) [ld1_get, ldN_get, stA_get, boxA, gz, gs, Heap.get_push_ne, Heap.get_push_eq, Heap.get_set_ne, Heap.get_set_eq, get_more, hn_push, hn_set, hn_more, ext_tuple, c2.g, c3.g, g1]; done) ?_ | fail)
  refine Tot.bind (svg_Decimal_spec (places := 31) (raw.ext (c2.t c3)) (by decide)) ?_
  rintro v H4 ⟨c4, rfl⟩
  rw [if_pos (by decide)]
  dsimp only
  repeat (first | refine Tot.pure (by simp (disch := first | omega | (simp only [hn_push, hn_set, hn_more] <;> omega) | fail) [ld1_get, ldN_get, stA_get, boxA, gz, gs, Heap.get_push_ne, Heap.get_push_eq, Heap.get_set_ne, Heap.get_set_eq, get_more, hn_push, hn_set, hn_more, ext_tuple, ar_eqs]; try exact rfl) ?_ | refine Tot.chk (by simp (disch := first | omega | (simp only [hn_push, hn_set, hn_more] <;> omega) | fail) [ld1_get, ldN_get, stA_get, boxA, gz, gs, Heap.get_push_ne, Heap.get_push_eq, Heap.get_set_ne, Heap.get_set_eq, get_more, hn_push, hn_set, hn_more, ext_tuple, ar_eqs]; done) ?_ | fail)
  refine Tot.yes rfl ?_
  repeat (first | refine Tot.pure (by simp (disch := first | omega | (simp only [hn_push, hn_set, hn_more] <;> omega) | fail) [ld1_get, ldN_get, stA_get, boxA, gz, gs, Heap.get_push_ne, Heap.get_push_eq, Heap.get_set_ne, Heap.get_set_eq, get_more, hn_push, hn_set, hn_more, ]; try exact rfl) ?_ | refine Tot.chk (by simp (disch := first | omega | (simp only [hn_push, hn_set, hn_more] <;> omega) | fail) [ld1_get, ldN_get, stA_get, boxA, gz, gs, Heap.get_push_ne, Heap.get_push_eq, Heap.get_set_ne, Heap.get_set_eq, get_more, hn_push, hn_set, hn_more, ]; done) ?_ | fail)
  refine Tot.yes rfl ?_
  repeat (first | refine Tot.pure (by simp (disch := first | omega | (simp only [hn_push, hn_set, hn_more] <;> omega) | fail) [ld1_get, ldN_get, stA_get, boxA, gz, gs, Heap.get_push_ne, Heap.get_push_eq, Heap.get_set_ne, Heap.get_set_eq, get_more, hn_push, hn_set, hn_more, ext_tuple, ar_eqs]; try exact rfl) ?_ | refine Tot.chk (by simp (disch := first | omega | (simp only [hn_push, hn_set, hn_more] <;> omega) | fail) [ld1_get, ldN_get, stA_get, boxA, gz, gs, Heap.get_push_ne, Heap.get_push_eq, Heap.get_set_ne, Heap.get_set_eq, get_more, hn_push, hn_set, hn_more, ext_tuple, ar_eqs]; done) ?_ | fail)
  refine Tot.yes rfl ?_
  repeat (first | refine Tot.pure (by simp (disch := first | omega | (simp only [hn_push, hn_set, hn_more] <;> omega) | fail) [ld1_get, ldN_get, stA_get, boxA, gz, gs, Heap.get_push_ne, Heap.get_push_eq, Heap.get_set_ne, Heap.get_set_eq, get_more, hn_push, hn_set, hn_more, ]; try exact rfl) ?_ | refine Tot.chk (by simp (disch := first | omega | (simp only [hn_push, hn_set, hn_more] <;> omega) | fail) [ld1_get, ldN_get, stA_get, boxA, gz, gs, Heap.get_push_ne, Heap.get_push_eq, Heap.get_set_ne, Heap.get_set_eq, get_more, hn_push, hn_set, hn_more, ]; done) ?_ | fail)
  refine Tot.yes rfl ?_
  repeat (first | refine Tot.pure (by simp (disch := first | omega | (simp only [hn_push, hn_set, hn_more] <;> omega) | fail) [ld1_get, ldN_get, stA_get, boxA, gz, gs, Heap.get_push_ne, Heap.get_push_eq, Heap.get_set_ne, Heap.get_set_eq, get_more, hn_push, hn_set, hn_more, ]; try exact rfl) ?_ | refine Tot.chk (by simp (disch := first | omega | (simp only [hn_push, hn_set, hn_more] <;> omega) | fail) [ld1_get, ldN_get, stA_get, boxA, gz, gs, Heap.get_push_ne, Heap.get_push_eq, Heap.get_set_ne, Heap.get_set_eq, get_more, hn_push, hn_set, hn_more, ]; done) ?_ | fail)
  exact Tot.ret (hQ _ _ ⟨Keep.ext (((k1.call c2).call c3).call c4), rfl⟩)

theorem r_len {n : Nat} {N : Nat} (h : n < 4294967296 ^ N) : (dig 65536 n).length ≤ 2 * N := by
  apply dig_len_le (by decide)
  rw [Nat.pow_mul]; exact h

set_option maxHeartbeats 1000000 in
theorem law_decimals {H : Heap} {v : V} {n : Int} {d N : Nat} {places : Int} (h : rawR H v n d N) :
    Tot (fun n => f_law40_SvgDecimals n [v, .int .i64 places] H) fun v H' => v = .bool true := by
  have ha := h
  obtain ⟨b, s, t, l, lt, rfl, -⟩ := h
  refine Tot.of fun Q hQ => ?_
  refine law40_SvgDecimals_tot ?_
  simp only [law40_SvgDecimals_b]
  repeat (first | refine Tot.pure (by simp (disch := first | omega | (simp only [hn_push, hn_set, hn_more] <;> omega) | fail) [ld1_get, ldN_get, stA_get, boxA, gz, gs, Heap.get_push_ne, Heap.get_push_eq, Heap.get_set_ne, Heap.get_set_eq, get_more, hn_push, hn_set, hn_more, ]; try exact rfl) ?_ | refine Tot.chk (by simp (disch := first | omega | (simp only [hn_push, hn_set, hn_more] <;> omega) | fail) [ld1_get, ldN_get, stA_get, boxA, gz, gs, Heap.get_push_ne, Heap.get_push_eq, Heap.get_set_ne, Heap.get_set_eq, get_more, hn_push, hn_set, hn_more, ]; done) ?_ | fail)
  refine Tot.bind (law_short (ha.ext Ch.push)) ?_
  rintro v H1 ⟨c1, n', d', r1⟩
  have n1 := c1.n; try simp only [hn_push, hn_set, hn_more] at n1
  obtain ⟨b1, s1, t1, l1, lt1, rfl, -⟩ := id (r1 H1 Ch.refl)
  dsimp only
  repeat (first | refine Tot.pure (by simp (disch := first | omega | (simp only [hn_push, hn_set, hn_more] <;> omega) | fail) [ld1_get, ldN_get, stA_get, boxA, gz, gs, Heap.get_push_ne, Heap.get_push_eq, Heap.get_set_ne, Heap.get_set_eq, get_more, hn_push, hn_set, hn_more, c1.g]; try exact rfl) ?_ | refine Tot.chk (by simp (disch := first | omega | (simp only [hn_push, hn_set, hn_more] <;> omega) | fail) [ld1_get, ldN_get, stA_get, boxA, gz, gs, Heap.get_push_ne, Heap.get_push_eq, Heap.get_set_ne, Heap.get_set_eq, get_more, hn_push, hn_set, hn_more, c1.g]; done) ?_ | fail)
  obtain ⟨H2, h2⟩ : ∃ H2, H2 = H1.set H.n (.cells [.bool b1, .slice s1, .slice t1] ty_api_Rat false) := ⟨_, rfl⟩
  rw [← h2]
  have r2 := r1 H2 (by rw [h2]; exact Ch.set (by simp))
  have g2 : H2.get H.n = .cells [.bool b1, .slice s1, .slice t1] ty_api_Rat false := by rw [h2, Heap.get_set_eq rfl]
  have n2 : H2.n = H1.n := by rw [h2]; rfl
  refine Tot.bind (svg_Decimal_spec (places := places) r2 (by decide)) ?_
  rintro v H3 ⟨c3, rfl⟩
  have n3 := c3.n; try simp only [hn_push, hn_set, hn_more] at n3
  dsimp only
  have hlv : ∀ {G : Heap}, Tot (fun n => bnd (f_law40_lives n [] G) fun r => some (r.1, r.2)) Q := by
    intro G
    refine Tot.bind law_lives ?_
    rintro v G' ⟨-, rfl⟩
    exact Tot.ret (hQ _ _ rfl)
  by_cases hp : places < 0 ∨ 30 < places
  · rw [if_pos hp]
    repeat (first | refine Tot.pure (by simp (disch := first | omega | (simp only [hn_push, hn_set, hn_more] <;> omega) | fail) [ld1_get, ldN_get, stA_get, boxA, gz, gs, Heap.get_push_ne, Heap.get_push_eq, Heap.get_set_ne, Heap.get_set_eq, get_more, hn_push, hn_set, hn_more, ext_tuple]; try exact rfl) ?_ | refine Tot.chk (by simp (disch := first | omega | (simp only [hn_push, hn_set, hn_more] <;> omega) | fail) [ld1_get, ldN_get, stA_get, boxA, gz, gs, Heap.get_push_ne, Heap.get_push_eq, Heap.get_set_ne, Heap.get_set_eq, get_more, hn_push, hn_set, hn_more, ext_tuple]; done) ?_ | fail)
    refine Tot.ite (fun h0 => ?_) (fun h0 => ?_)
    · repeat (first | refine Tot.pure (by simp (disch := first | omega | (simp only [hn_push, hn_set, hn_more] <;> omega) | fail) [ld1_get, ldN_get, stA_get, boxA, gz, gs, Heap.get_push_ne, Heap.get_push_eq, Heap.get_set_ne, Heap.get_set_eq, get_more, hn_push, hn_set, hn_more, ar_eqs]; try exact rfl) ?_ | refine Tot.chk (by simp (disch := first | omega | (simp only [hn_push, hn_set, hn_more] <;> omega) | fail) [ld1_get, ldN_get, stA_get, boxA, gz, gs, Heap.get_push_ne, Heap.get_push_eq, Heap.get_set_ne, Heap.get_set_eq, get_more, hn_push, hn_set, hn_more, ar_eqs]; done) ?_ | fail)
      refine Tot.yes rfl ?_
      repeat (first | refine Tot.pure (by simp (disch := first | omega | (simp only [hn_push, hn_set, hn_more] <;> omega) | fail) [ld1_get, ldN_get, stA_get, boxA, gz, gs, Heap.get_push_ne, Heap.get_push_eq, Heap.get_set_ne, Heap.get_set_eq, get_more, hn_push, hn_set, hn_more, ]; try exact rfl) ?_ | refine Tot.chk (by simp (disch := first | omega | (simp only [hn_push, hn_set, hn_more] <;> omega) | fail) [ld1_get, ldN_get, stA_get, boxA, gz, gs, Heap.get_push_ne, Heap.get_push_eq, Heap.get_set_ne, Heap.get_set_eq, get_more, hn_push, hn_set, hn_more, ]; done) ?_ | fail)
      refine Tot.yes rfl ?_
      exact hlv
    · repeat (first | refine Tot.pure (by simp (disch := first | omega | (simp only [hn_push, hn_set, hn_more] <;> omega) | fail) [ld1_get, ldN_get, stA_get, boxA, gz, gs, Heap.get_push_ne, Heap.get_push_eq, Heap.get_set_ne, Heap.get_set_eq, get_more, hn_push, hn_set, hn_more, ]; try exact rfl) ?_ | refine Tot.chk (by simp (disch := first | omega | (simp only [hn_push, hn_set, hn_more] <;> omega) | fail) [ld1_get, ldN_get, stA_get, boxA, gz, gs, Heap.get_push_ne, Heap.get_push_eq, Heap.get_set_ne, Heap.get_set_eq, get_more, hn_push, hn_set, hn_more, ]; done) ?_ | fail)
      have h0' : ¬ places < 0 := by simpa using h0
      refine Tot.yes (by simp; omega) ?_
      repeat (first | refine Tot.pure (by simp (disch := first | omega | (simp only [hn_push, hn_set, hn_more] <;> omega) | fail) [ld1_get, ldN_get, stA_get, boxA, gz, gs, Heap.get_push_ne, Heap.get_push_eq, Heap.get_set_ne, Heap.get_set_eq, get_more, hn_push, hn_set, hn_more, ar_eqs]; try exact rfl) ?_ | refine Tot.chk (by simp (disch := first | omega | (simp only [hn_push, hn_set, hn_more] <;> omega) | fail) [ld1_get, ldN_get, stA_get, boxA, gz, gs, Heap.get_push_ne, Heap.get_push_eq, Heap.get_set_ne, Heap.get_set_eq, get_more, hn_push, hn_set, hn_more, ar_eqs]; done) ?_ | fail)
      refine Tot.yes rfl ?_
      repeat (first | refine Tot.pure (by simp (disch := first | omega | (simp only [hn_push, hn_set, hn_more] <;> omega) | fail) [ld1_get, ldN_get, stA_get, boxA, gz, gs, Heap.get_push_ne, Heap.get_push_eq, Heap.get_set_ne, Heap.get_set_eq, get_more, hn_push, hn_set, hn_more, ]; try exact rfl) ?_ | refine Tot.chk (by simp (disch := first | omega | (simp only [hn_push, hn_set, hn_more] <;> omega) | fail) [ld1_get, ldN_get, stA_get, boxA, gz, gs, Heap.get_push_ne, Heap.get_push_eq, Heap.get_set_ne, Heap.get_set_eq, get_more, hn_push, hn_set, hn_more, ]; done) ?_ | fail)
      refine Tot.yes rfl ?_
      exact hlv
  · rw [if_neg hp]
    obtain ⟨p, rfl⟩ : ∃ p : Nat, places = (p : Int) := ⟨places.toNat, by omega⟩
    repeat (first | refine Tot.pure (by simp (disch := first | omega | (simp only [hn_push, hn_set, hn_more] <;> omega) | fail) [ld1_get, ldN_get, stA_get, boxA, gz, gs, Heap.get_push_ne, Heap.get_push_eq, Heap.get_set_ne, Heap.get_set_eq, get_more, hn_push, hn_set, hn_more, ext_tuple]; try exact rfl) ?_ | refine Tot.chk (by simp (disch := first | omega | (simp only [hn_push, hn_set, hn_more] <;> omega) | fail) [ld1_get, ldN_get, stA_get, boxA, gz, gs, Heap.get_push_ne, Heap.get_push_eq, Heap.get_set_ne, Heap.get_set_eq, get_more, hn_push, hn_set, hn_more, ext_tuple]; done) ?_ | fail)
    refine Tot.no (by simp) ?_
    repeat (first | refine Tot.pure (by simp (disch := first | omega | (simp only [hn_push, hn_set, hn_more] <;> omega) | fail) [ld1_get, ldN_get, stA_get, boxA, gz, gs, Heap.get_push_ne, Heap.get_push_eq, Heap.get_set_ne, Heap.get_set_eq, get_more, hn_push, hn_set, hn_more, ]; try exact rfl) ?_ | refine Tot.chk (by simp (disch := first | omega | (simp only [hn_push, hn_set, hn_more] <;> omega) | fail) [ld1_get, ldN_get, stA_get, boxA, gz, gs, Heap.get_push_ne, Heap.get_push_eq, Heap.get_set_ne, Heap.get_set_eq, get_more, hn_push, hn_set, hn_more, ]; done) ?_ | fail)
    refine Tot.no (by simp; omega) ?_
    repeat (first | refine Tot.pure (by simp (disch := first | omega | (simp only [hn_push, hn_set, hn_more] <;> omega) | fail) [ld1_get, ldN_get, stA_get, boxA, gz, gs, Heap.get_push_ne, Heap.get_push_eq, Heap.get_set_ne, Heap.get_set_eq, get_more, hn_push, hn_set, hn_more, c3.g, g2]; try exact rfl) ?_ | refine Tot.chk (by simp (disch := first | omega | (simp only [hn_push, hn_set, hn_more] <;> omega) | fail) [ld1_get, ldN_get, stA_get, boxA, gz, gs, Heap.get_push_ne, Heap.get_push_eq, Heap.get_set_ne, Heap.get_set_eq, get_more, hn_push, hn_set, hn_more, c3.g, g2]; done) ?_ | fail)
    have r3 := r2.ext c3
    have z1 : (dig 65536 n'.natAbs).length ≤ 8 ∧ (dig 65536 d').length ≤ 8 := by
      obtain ⟨b4, s4, t4, l4, lt4, -, -, -, z1, z2, z3, z4, z5, z6⟩ := r2
      refine ⟨r_len (N := 4) ?_, r_len (N := 4) ?_⟩
      · rw [z5, sgn_abs]; exact Nat.lt_of_lt_of_le (val_lt (b := 4294967296) z1) (Nat.pow_le_pow_right (by decide) z3)
      · rw [z6]; exact Nat.lt_of_lt_of_le (val_lt (b := 4294967296) z2) (Nat.pow_le_pow_right (by decide) z4)
    refine Tot.bind (r5_of (P := fun _ => True) (fun i hi => trivial) r3 (by decide)) ?_
    rintro v H4 ⟨c4, i4⟩
    have y1 : (dig 65536 (if d' = 0 then 0 else n').natAbs).length ≤ 8 := by
      split
      · simp [dig_zero]
      · exact z1.1
    have y2 : (dig 65536 (if d' = 0 then 1 else d')).length ≤ 8 := by
      split
      · exact r_len (N := 4) (by decide)
      · exact z1.2
    dsimp only
    refine Tot.bind (r5_low (P := fun _ => True) (fun i hi => trivial) i4 (by omega) (by omega)) ?_
    rintro v H5 ⟨c5, i5⟩
    have e1 : lowN (if d' = 0 then 0 else n') (if d' = 0 then 1 else d') = lowN n' d' := by
      by_cases h0 : d' = 0
      · rw [if_pos h0, if_pos h0, h0]; simp [lowN, lowD, sgn]
      · rw [if_neg h0, if_neg h0]
    have e2 : lowD (if d' = 0 then 0 else n') (if d' = 0 then 1 else d') = lowD n' d' := by
      by_cases h0 : d' = 0
      · rw [if_pos h0, if_pos h0, h0]; simp [lowN, lowD, sgn]
      · rw [if_neg h0, if_neg h0]
    rw [e1, e2] at i5
    have w1 : (dig 65536 (lowN n' d').natAbs).length ≤ 8 := Nat.le_trans (rsz_mono lowN_le) z1.1
    have w2 : (dig 65536 (lowD n' d')).length ≤ 8 := by
      have := rsz_mono (lowD_le (n := n') (d := d'))
      by_cases h0 : d' = 0
      · rw [h0] at this ⊢
        exact Nat.le_trans this (r_len (N := 4) (by decide))
      · rw [show max d' 1 = d' by omega] at this; exact Nat.le_trans this z1.2
    have w3 : (dig 65536 (rnd (lowN n' d' * 10 ^ p) (lowD n' d')).natAbs).length ≤ 72 := by
      apply r_len (N := 36)
      have q1 : (dig 4294967296 (lowN n' d').natAbs).length ≤ 4 := by
        refine Nat.le_trans (sz_mono lowN_le) ?_
        obtain ⟨b4, s4, t4, l4, lt4, -, -, -, z1, z2, z3, z4, z5, z6⟩ := r2
        apply dig_len_le (by decide)
        rw [z5, sgn_abs]; exact Nat.lt_of_lt_of_le (val_lt (b := 4294967296) z1) (Nat.pow_le_pow_right (by decide) z3)
      have q2 : (dig 4294967296 (lowN n' d' * 10 ^ p).natAbs).length ≤ 35 := by
        have h1 := sz_mul (x := (lowN n' d').natAbs) (y := (10 ^ p : Int).natAbs)
        rw [← Int.natAbs_mul] at h1
        have h2 : (dig 4294967296 (10 ^ p : Int).natAbs).length ≤ 31 := by
          apply dig_len_le (by decide)
          rw [Int.natAbs_pow]
          exact Nat.lt_of_le_of_lt (Nat.pow_le_pow_right (by decide) (show p ≤ 30 by omega)) (by decide)
        omega
      have q3 := rnd_sz (lowD_pos (n := n') (d := d')) q2
      have q4 := dig_len_lt (b := 4294967296) (x := (rnd (lowN n' d' * 10 ^ p) (lowD n' d')).natAbs) (by decide)
      exact Nat.lt_of_lt_of_le q4 (Nat.pow_le_pow_right (by decide) q3)
    refine Tot.bind (r40_decimal (P := fun _ => True) (fun i hi => trivial) i5 (by omega) (by omega) (by omega) (by omega)) ?_
    rintro v H6 ⟨c6, rfl⟩
    dsimp only
    have hbe : ∀ w : List UInt8, (w == w) = true := fun w => by simp
    repeat (first | refine Tot.pure (by simp (disch := first | omega | (simp only [hn_push, hn_set, hn_more] <;> omega) | fail) [ld1_get, ldN_get, stA_get, boxA, gz, gs, Heap.get_push_ne, Heap.get_push_eq, Heap.get_set_ne, Heap.get_set_eq, get_more, hn_push, hn_set, hn_more, ar_eqs, hbe]; try exact rfl) ?_ | refine Tot.chk (by simp (disch := first | omega | (simp only [hn_push, hn_set, hn_more] <;> omega) | fail) [ld1_get, ldN_get, stA_get, boxA, gz, gs, Heap.get_push_ne, Heap.get_push_eq, Heap.get_set_ne, Heap.get_set_eq, get_more, hn_push, hn_set, hn_more, ar_eqs, hbe]; done) ?_ | fail)
    refine Tot.yes rfl ?_
    repeat (first | refine Tot.pure (by simp (disch := first | omega | (simp only [hn_push, hn_set, hn_more] <;> omega) | fail) [ld1_get, ldN_get, stA_get, boxA, gz, gs, Heap.get_push_ne, Heap.get_push_eq, Heap.get_set_ne, Heap.get_set_eq, get_more, hn_push, hn_set, hn_more, ]; try exact rfl) ?_ | refine Tot.chk (by simp (disch := first | omega | (simp only [hn_push, hn_set, hn_more] <;> omega) | fail) [ld1_get, ldN_get, stA_get, boxA, gz, gs, Heap.get_push_ne, Heap.get_push_eq, Heap.get_set_ne, Heap.get_set_eq, get_more, hn_push, hn_set, hn_more, ]; done) ?_ | fail)
    refine Tot.yes rfl ?_
    exact hlv
end Go.AM
end

section
/- What the abstract machine's operations give is what the model's give: operations that only look. -/
namespace Go.AM
open Go.RowKit (Below)

section
variable {P : Program} {B : Nat} {w0 w : World} {μ : Mu} {H : Heap}

theorem ofOne_rel (μ : Mu) (x : Value) : VRel μ (V.ofOne x) x := by
  unfold V.ofOne
  split <;> simp [VRel]

theorem ofOnes_rel (μ : Mu) : ∀ (xs : List Value), VRels μ (xs.map V.ofOne) xs
  | [] => by simp [VRels]
  | x :: xs => by simp only [List.map_cons, VRels]; exact ⟨x, xs, rfl, ofOne_rel μ x, ofOnes_rel μ xs⟩

theorem ofValue_rel (μ : Mu) (x : Value) : VRel μ (V.ofValue x) x := by
  unfold V.ofValue
  split
  · rename_i cs
    simp only [VRel]
    exact ⟨cs, rfl, ofOnes_rel μ _⟩
  · rename_i vs
    split
    · rename_i h
      simp only [VRel, VRels]
      exact ⟨vs, rfl, by simpa using h⟩
    · simp [VRel]
  · exact ofOne_rel μ x

theorem run_isAgg {t : TypeId} {b : Bool} (h : aggT P t = some b) : (isAgg t).run P w = .ok b w := by
  unfold aggT at h
  unfold isAgg underlying
  simp only [Sem.run_bind, run_program, Result.andThen_ok]
  split at h
  · rename_i fs e
    simp at h; subst h; rw [e]; simp
  · rename_i n e e'
    simp at h; subst h; rw [e']; simp
  · rename_i d n1 n2 e
    simp at h; subst h; rw [e]
    simp only [Sem.run_pure, Result.andThen_ok]
  · simp at h

theorem run_sizeOf {t : TypeId} {n : Nat} (h : szT P t = some n) : (sizeOf t).run P w = .ok n w := by
  unfold szT at h
  unfold sizeOf typeInfo
  simp only [Sem.run_bind, run_program, Result.andThen_ok]
  cases hi : P.info? t with
  | none => simp [hi] at h
  | some i => simp [hi] at h; simp [h]

theorem run_typeInfo {t : TypeId} {i : TypeInfo} (h : P.info? t = some i) : (typeInfo t).run P w = .ok i w := by
  unfold typeInfo; simp [h]

theorem run_und {t : TypeId} {d : TypeDesc} (h : P.underlying t = some d) : (underlying t).run P w = .ok d w := by
  unfold underlying; simp [h]

theorem run_zero {t : TypeId} {z : V} (μ : Mu) (h : zeroT P t = some z) : ∃ x, (zeroValue t).run P w = .ok x w ∧ VRel μ z x := by
  unfold zeroT at h
  cases hi : P.info? t with
  | none => simp [hi] at h
  | some i =>
    cases hz : i.zero with
    | none => simp [hi, hz] at h
    | some x =>
      simp [hi, hz] at h; subst h
      exact ⟨x, by unfold zeroValue typeInfo; simp [hi, hz], ofValue_rel μ x⟩

theorem addr_add (b o j : Nat) : (⟨b, o, none⟩ : Addr).add j = ⟨b, o + j, none⟩ := by
  unfold Addr.add
  split
  · rename_i h; subst h; rfl
  · rfl

theorem ORel.cell {cs : List V} {e : TypeId} {ro : Bool} {L : Loc} (h : ORel μ B (.cells cs e ro) L w) {j : Nat} {v : V} (hj : cs[j]? = some v) :
    v.one = true ∧ ∃ x, w.cell? ⟨L.b, L.base + j, none⟩ = some x ∧ VRel μ v x := by
  obtain ⟨c, e', fr, hb, hs, hl, hc, _⟩ := h
  obtain ⟨h1, x, hx, hr⟩ := hc j v hj
  refine ⟨h1, x, ?_, hr⟩
  simp [World.cell?, hb, hx]

theorem getElem?_isSome_of_lt {α : Type} {l : List α} {i : Nat} (h : i < l.length) : ∃ x, l[i]? = some x := ⟨l[i], List.getElem?_eq_getElem h⟩

theorem ORel.cellsAt {cs : List V} {e : TypeId} {ro : Bool} {L : Loc} (h : ORel μ B (.cells cs e ro) L w) {o n : Nat} (hn : o + n ≤ cs.length) :
    ∃ xs : List Value, xs.length = n ∧ VRels μ ((cs.drop o).take n) xs ∧ (∀ j x, xs[j]? = some x → w.cell? ⟨L.b, L.base + o + j, none⟩ = some x) ∧ ((cs.drop o).take n).all V.one = true ∧ ∀ x ∈ xs, x.oneCell' = true := by
  induction n generalizing o with
  | zero => exact ⟨[], rfl, by simp [VRels], by simp, by simp, by simp⟩
  | succ n ih =>
    obtain ⟨v, hv⟩ := getElem?_isSome_of_lt (l := cs) (i := o) (by omega)
    obtain ⟨h1, x, hx, hr⟩ := h.cell hv
    obtain ⟨xs, a, b, c, d, e1⟩ := ih (o := o + 1) (by omega)
    have hd : cs.drop o = v :: cs.drop (o + 1) := by
      have := List.getElem?_eq_some_iff.1 hv
      obtain ⟨hlt, he⟩ := this
      rw [List.drop_eq_getElem_cons hlt, he]
    refine ⟨x :: xs, by simp [a], ?_, ?_, ?_, ?_⟩
    · rw [hd]; simp only [List.take_succ_cons, VRels]; exact ⟨x, xs, rfl, hr, b⟩
    · intro j y hj
      cases j with
      | zero => simp at hj; subst hj; simpa using hx
      | succ j =>
        simp at hj
        have := c j y hj
        rwa [show L.base + (o + 1) + j = L.base + o + (j + 1) by omega] at this
    · rw [hd]; simp [h1]; simpa using d
    · intro y hy
      simp only [List.mem_cons] at hy
      rcases hy with rfl | hy
      · have := hr.isOne h1
        cases y <;> simp_all [AM.isOne, Value.oneCell']
      · exact e1 y hy

theorem Rel.ptr (h : Rel B w0 μ H w) {i o : Nat} {x : Value} (hx : VRel μ (.ptr (some (i, o))) x) : ∃ L, μ i = some L ∧ x = .pointer (some ⟨L.b, L.base + o, none⟩) ∧ ORel μ B (H.get i) L w := by
  simp only [VRel] at hx
  obtain ⟨L, e, rfl⟩ := hx
  exact ⟨L, e, rfl, h.objs i L e⟩

theorem ld1_sound (h : Rel B w0 μ H w) {v r : V} {x : Value} (hl : ld1 v H = some r) (hx : VRel μ v x) : ∃ a y, x = .pointer (some a) ∧ w.cell? a = some y ∧ VRel μ r y := by
  unfold ld1 at hl
  split at hl
  · rename_i i o
    split at hl
    · rename_i cs e ro hg
      obtain ⟨L, _, rfl, ho⟩ := h.ptr hx
      rw [hg] at ho
      obtain ⟨_, y, hy, hr⟩ := ho.cell hl
      exact ⟨_, y, rfl, hy, hr⟩
    · simp at hl
  · simp at hl

theorem loadCells_of {a : Addr} {n : Nat} {xs : List Value} (hl : xs.length = n) (h : ∀ j x, xs[j]? = some x → w.cell? (a.add j) = some x) : (loadCells a n).run P w = .ok xs.toArray w := by
  subst hl; exact run_loadCells_list w a xs h

theorem ldN_sound (h : Rel B w0 μ H w) {n : Nat} {v r : V} {x : Value} (hl : ldN n v H = some r) (hx : VRel μ v x) : ∃ a y, x = .pointer (some a) ∧ (loadCells a n).run P w = .ok y w ∧ VRel μ r (.agg y) := by
  unfold ldN at hl
  split at hl
  · rename_i i o
    split at hl
    · rename_i cs e ro hg
      split at hl
      · rename_i hn
        simp at hl; subst hl
        obtain ⟨L, _, rfl, ho⟩ := h.ptr hx
        rw [hg] at ho
        obtain ⟨xs, a, b, c, _, _⟩ := ho.cellsAt hn
        refine ⟨_, xs.toArray, rfl, loadCells_of a ?_, ?_⟩
        · intro j x hj; rw [addr_add]; exact c j x hj
        · simp only [VRel]; exact ⟨xs.toArray, rfl, by simpa using b⟩
      · simp at hl
    · simp at hl
  · simp at hl

theorem loadA_sound (h : Rel B w0 μ H w) {t : TypeId} {v r : V} {x : Value} (hl : loadA P t v H = some r) (hx : VRel μ v x) :
    ∃ a y, x = .pointer (some a) ∧ (loadVar t a).run P w = .ok y w ∧ VRel μ r y := by
  unfold loadA at hl
  split at hl
  · rename_i hag
    split at hl
    · rename_i n hsz
      obtain ⟨a, y, rfl, hr, hv⟩ := ldN_sound (P := P) h hl hx
      exact ⟨a, _, rfl, by unfold loadVar; simp [run_isAgg hag, run_sizeOf hsz, hr], hv⟩
    · simp at hl
  · rename_i hag
    obtain ⟨a, y, rfl, hr, hv⟩ := ld1_sound h hl hx
    exact ⟨a, y, rfl, by unfold loadVar; simp [run_isAgg hag, hr], hv⟩
  · simp at hl

theorem loadAt_sound (h : Rel B w0 μ H w) {t : TypeId} {v r : V} {x : Value} (hl : loadA P t v H = some r) (hx : VRel μ v x) :
    ∃ y, (Instr.loadAt t x).run P w = .ok y w ∧ VRel μ r y := by
  obtain ⟨a, y, rfl, hr, hv⟩ := loadA_sound h hl hx
  exact ⟨y, by unfold Instr.loadAt Instr.sureAddr; simp [hr], hv⟩

/-! Parts -/
theorem partN_sound {n off : Nat} {xs : List V} {ys : Array Value} {r : V} (hl : partN n off xs = some r) (hx : VRels μ xs ys.toList) : VRel μ r (.agg (ys.extract off (off + n))) := by
  unfold partN at hl
  simp at hl; subst hl
  simp only [VRel]
  refine ⟨_, rfl, ?_⟩
  have : (ys.extract off (off + n)).toList = (ys.toList.drop off).take n := by
    rw [Array.toList_extract]; simp [List.extract_eq_take_drop]
  rw [this]
  exact VRels.take n (VRels.drop off hx)
theorem part1_sound {off : Nat} {xs : List V} {ys : Array Value} {r : V} (hl : part1 off xs = some r) (hx : VRels μ xs ys.toList) : ∃ y, ys[off]? = some y ∧ VRel μ r y := by
  unfold part1 at hl
  obtain ⟨y, a, b⟩ := hx.get off r hl
  exact ⟨y, by simpa using a, b⟩
theorem partA_sound {t : TypeId} {xs : List V} {ys : Array Value} {off : Nat} {r : V} (hl : partA P t xs off = some r) (hx : VRels μ xs ys.toList) :
    ∃ y, (part t ys off).run P w = .ok y w ∧ VRel μ r y := by
  unfold partA at hl
  split at hl
  · rename_i hag
    split at hl
    · rename_i n hsz
      exact ⟨_, by unfold part; simp [run_isAgg hag, run_sizeOf hsz], partN_sound hl hx⟩
    · simp at hl
  · rename_i hag
    obtain ⟨y, e, hr⟩ := part1_sound hl hx
    exact ⟨y, by unfold part; simp [run_isAgg hag, e], hr⟩
  · simp at hl

/-! Numbers and texts -/
theorem intA_sound {op : BinOp} {k : IntKind} {a b : Int} {r : V} (h : intA op k a b = some r) (hs : op ≠ .shl) (hr : op ≠ .shr) (t : TypeId) :
    ∃ y, (binOp op t (.int k a) (.int k b)).run P w = .ok y w ∧ VRel μ r y := by
  cases op <;> first | exact absurd rfl hs | exact absurd rfl hr | skip
  case quo =>
    simp only [intA] at h
    split at h
    · simp at h
    · rename_i hb
      simp only [Option.some.injEq] at h; subst h
      exact ⟨_, by simp [binOp, Op.intDiv, hb], rfl⟩
  case rem =>
    simp only [intA] at h
    split at h
    · simp at h
    · rename_i hb
      simp only [Option.some.injEq] at h; subst h
      exact ⟨_, by simp [binOp, Op.intDiv, hb], rfl⟩
  all_goals
    simp only [intA, Option.some.injEq] at h
    subst h
    refine ⟨_, ?_, rfl⟩
    simp [binOp, Op.intArith, Op.intBits, Op.intCmp]

theorem shiftA_sound {op : BinOp} {k yk : IntKind} {a b : Int} {r : V} (h : shiftA op k a b = some r) (t : TypeId) (ho : op = .shl ∨ op = .shr) :
    ∃ y, (binOp op t (.int k a) (.int yk b)).run P w = .ok y w ∧ VRel μ r y := by
  unfold shiftA at h
  split at h
  · simp at h
  · rename_i hb
    rcases ho with rfl | rfl
    · simp only [Option.some.injEq] at h; subst h
      exact ⟨_, by simp [binOp, Op.shift, hb], rfl⟩
    · simp only [Option.some.injEq] at h; subst h
      exact ⟨_, by simp [binOp, Op.shift, hb], rfl⟩

theorem toList_mk (a : List UInt8) : (⟨a.toArray⟩ : ByteArray).toList = a := by
  simp

theorem strA_sound {op : BinOp} {a b : List UInt8} {r : V} (h : strA op a b = some r) (t : TypeId) :
    ∃ y, (binOp op t (.string ⟨a.toArray⟩) (.string ⟨b.toArray⟩)).run P w = .ok y w ∧ VRel μ r y := by
  cases op <;> simp only [strA] at h <;> first | (simp at h; done) | skip
  case add =>
    split at h
    · rename_i hl
      simp only [Option.some.injEq] at h; subst h
      refine ⟨.string ⟨(a ++ b).toArray⟩, ?_, rfl⟩
      have h1 : ¬ (((⟨a.toArray⟩ : ByteArray).size + (⟨b.toArray⟩ : ByteArray).size : Nat) : Int) > IntKind.i64.max := by
        simp [ByteArray.size, IntKind.max, IntKind.signed, IntKind.bits]; omega
      have h2 : (⟨a.toArray⟩ ++ ⟨b.toArray⟩ : ByteArray) = ⟨(a ++ b).toArray⟩ := by
        apply ByteArray.ext; simp
      simp only [binOp, Op.stringOp]
      rw [if_neg h1, h2]; rfl
    · simp at h
  all_goals
    simp only [Option.some.injEq] at h; subst h
    refine ⟨_, ?_, rfl⟩
    simp [binOp, Op.stringOp, toList_mk]
end
end Go.AM
end

section
/- What the abstract machine's operations give is what the model's give: == and !=, addresses, parts, slices. -/
namespace Go.AM
open Go.RowKit (Below)

section
variable {P : Program} {B : Nat} {w0 w : World} {μ : Mu} {H : Heap}

theorem eqFs_sound {d : Nat} {rc : TypeId → V → V → Option Bool}
    (ih : ∀ (t : TypeId) (x y : V) (b : Bool) (x' y' : Value), rc t x y = some b → VRel μ x x' → VRel μ y y' → (Op.equalIn d t x' y').run P w = .ok b w) :
    ∀ (fs : List Field) (xs ys : List V) (xs' ys' : Array Value) (b : Bool), eqFs P rc fs xs ys = some b → VRels μ xs xs'.toList → VRels μ ys ys'.toList →
      (Op.eqFields d xs' ys' fs).run P w = .ok b w
  | [], xs, ys, xs', ys', b, h, _, _ => by simp [eqFs] at h; subst h; simp [Op.eqFields]
  | f :: fs, xs, ys, xs', ys', b, h, hx, hy => by
    simp only [eqFs] at h
    simp only [Op.eqFields]
    by_cases hn : f.name ≠ "_"
    · rw [if_pos hn] at h ⊢
      cases h1 : partA P f.type xs f.offset with
      | none => simp [h1] at h
      | some u =>
        cases h2 : partA P f.type ys f.offset with
        | none => simp [h1, h2] at h
        | some v =>
          cases h3 : rc f.type u v with
          | none => simp [h1, h2, h3] at h
          | some b1 =>
            cases h4 : eqFs P rc fs xs ys with
            | none => simp [h1, h2, h3, h4] at h
            | some b2 =>
              simp [h1, h2, h3, h4] at h; subst h
              obtain ⟨u', e1, r1⟩ := partA_sound (w := w) h1 hx
              obtain ⟨v', e2, r2⟩ := partA_sound (w := w) h2 hy
              have e3 := ih _ _ _ _ _ _ h3 r1 r2
              have e4 := eqFs_sound ih fs xs ys xs' ys' b2 h4 hx hy
              simp only [Sem.run_bind, e1, e2, e3, Result.andThen_ok, Sem.run_ite]
              cases b1
              · simp
              · simpa using e4
    · rw [if_neg hn] at h ⊢
      exact eqFs_sound ih fs xs ys xs' ys' b h hx hy

theorem eqEs_sound {d n : Nat} {e : TypeId} {rc : TypeId → V → V → Option Bool}
    (ih : ∀ (t : TypeId) (x y : V) (b : Bool) (x' y' : Value), rc t x y = some b → VRel μ x x' → VRel μ y y' → (Op.equalIn d t x' y').run P w = .ok b w) :
    ∀ (is : List Nat) (xs ys : List V) (xs' ys' : Array Value) (b : Bool), eqEs P rc e n is xs ys = some b → VRels μ xs xs'.toList → VRels μ ys ys'.toList →
      (Op.eqItems d e n xs' ys' is).run P w = .ok b w
  | [], xs, ys, xs', ys', b, h, _, _ => by simp [eqEs] at h; subst h; simp [Op.eqItems]
  | i :: is, xs, ys, xs', ys', b, h, hx, hy => by
    simp only [eqEs] at h
    simp only [Op.eqItems]
    cases h1 : partA P e xs (i * n) with
    | none => simp [h1] at h
    | some u =>
      cases h2 : partA P e ys (i * n) with
      | none => simp [h1, h2] at h
      | some v =>
        cases h3 : rc e u v with
        | none => simp [h1, h2, h3] at h
        | some b1 =>
          cases h4 : eqEs P rc e n is xs ys with
          | none => simp [h1, h2, h3, h4] at h
          | some b2 =>
            simp [h1, h2, h3, h4] at h; subst h
            obtain ⟨u', e1, r1⟩ := partA_sound (w := w) h1 hx
            obtain ⟨v', e2, r2⟩ := partA_sound (w := w) h2 hy
            have e3 := ih _ _ _ _ _ _ h3 r1 r2
            have e4 := eqEs_sound ih is xs ys xs' ys' b2 h4 hx hy
            simp only [Sem.run_bind, e1, e2, e3, Result.andThen_ok, Sem.run_ite]
            cases b1
            · simp
            · simpa using e4

theorem eqA_sound : ∀ (d D : Nat), d ≤ D → ∀ (t : TypeId) (x y : V) (b : Bool) (x' y' : Value), eqA P d t x y = some b → VRel μ x x' → VRel μ y y' → (Op.equalIn D t x' y').run P w = .ok b w
  | 0, _, _, _, _, _, _, _, _, h, _, _ => by simp [eqA] at h
  | d + 1, 0, hd, _, _, _, _, _, _, _, _, _ => by omega
  | d + 1, D + 1, hd, t, x, y, b, x', y', h, hx, hy => by
    have ih := eqA_sound d D (by omega)
    unfold eqA at h
    split at h
    · -- bool
      rename_i hu
      split at h
      · simp at h; subst h; simp only [VRel] at hx hy; subst hx hy
        simp [Op.equalIn, run_und hu]
      · simp at h
    · rename_i k hu
      split at h
      · split at h
        · rename_i hk
          simp at h; subst h hk; simp only [VRel] at hx hy; subst hx hy
          simp [Op.equalIn, run_und hu]
        · simp at h
      · simp at h
    · rename_i hu
      split at h
      · simp at h; subst h; simp only [VRel] at hx hy; subst hx hy
        simp only [Op.equalIn, Sem.run_bind, run_und hu, Result.andThen_ok, Sem.run_pure, beq_toListBytes, toList_mk]
      · simp at h
    · rename_i e hu
      split at h
      · rename_i c
        simp at h; subst h; simp only [VRel] at hx; subst hx
        rcases c with _ | ⟨i, o⟩
        · simp only [VRel] at hy; subst hy; simp [Op.equalIn, run_und hu]
        · simp only [VRel] at hy; obtain ⟨L, _, rfl⟩ := hy; simp [Op.equalIn, run_und hu]
      · rename_i c
        simp at h; subst h
        obtain ⟨i, o⟩ := c
        simp only [VRel] at hx hy; obtain ⟨L, _, rfl⟩ := hx; subst hy; simp [Op.equalIn, run_und hu]
      · rename_i c c'
        split at h
        · rename_i hc
          obtain ⟨rfl, hs⟩ := hc
          simp at h; subst h
          obtain ⟨i, o⟩ := c
          simp only [VRel] at hx hy
          obtain ⟨L, e1, rfl⟩ := hx
          obtain ⟨L', e2, rfl⟩ := hy
          rw [e1] at e2; simp at e2; subst e2
          cases hz : szT P e with
          | none => simp [hz] at hs
          | some n =>
            simp only [Op.equalIn, Sem.run_bind, run_und hu, Result.andThen_ok, run_sizeOf hz, Sem.run_ite]
            split
            · simp [sameAddr]
            · simp
        · simp at h
      · simp at h
    · rename_i e hu
      split at h
      · rename_i s u
        split at h
        · rename_i hs
          simp at h; subst h
          have h1 : s.ad = none := by simpa using hs
          simp only [VRel, h1] at hx
          obtain ⟨_, rfl⟩ := hx
          simp only [VRel] at hy
          split at hy
          · rename_i h2; obtain ⟨_, rfl⟩ := hy; simp [Op.equalIn, run_und hu, h2]
          · rename_i h2; obtain ⟨L, a, cap, _, rfl, _⟩ := hy; simp [Op.equalIn, run_und hu, h2]
        · rename_i hs
          split at h
          · rename_i hs2
            simp at h; subst h
            have h1 : u.ad = none := by simpa using hs2
            simp only [VRel, h1] at hy
            obtain ⟨_, rfl⟩ := hy
            simp only [VRel] at hx
            split at hx
            · rename_i h2; simp [h2] at hs
            · obtain ⟨L, a, cap, _, rfl, _⟩ := hx; simp [Op.equalIn, run_und hu]
          · simp at h
      · simp at h
    · rename_i kt et hu
      split at h
      · rename_i c
        simp at h; subst h; simp only [VRel] at hx; subst hx
        rcases c with _ | i
        · simp only [VRel] at hy; subst hy; simp [Op.equalIn, run_und hu]
        · simp only [VRel] at hy; obtain ⟨L, _, rfl⟩ := hy; simp [Op.equalIn, run_und hu]
      · simp at h; subst h
        simp only [VRel] at hx hy; obtain ⟨L, _, rfl⟩ := hx; subst hy; simp [Op.equalIn, run_und hu]
      · simp at h
    · rename_i ms hu
      split at h
      · simp at h; subst h
        simp only [VRel] at hx hy; obtain ⟨_, rfl, _⟩ := hy; subst hx; simp [Op.equalIn, run_und hu]
      · simp at h; subst h
        simp only [VRel] at hx hy; obtain ⟨_, rfl, _⟩ := hx; subst hy; simp [Op.equalIn, run_und hu]
      · simp at h
    · rename_i a1 a2 a3 hu
      split at h
      · simp at h; subst h
        simp only [VRel] at hx hy; obtain ⟨_, _, rfl, _⟩ := hy; subst hx; simp [Op.equalIn, run_und hu]
      · simp at h; subst h
        simp only [VRel] at hx hy; obtain ⟨_, _, rfl, _⟩ := hx; subst hy; simp [Op.equalIn, run_und hu]
      · simp at h; subst h
        simp only [VRel] at hx hy; subst hx hy; simp [Op.equalIn, run_und hu]
      · simp at h
    · rename_i fields hu
      split at h
      · rename_i xs ys
        split at h
        · simp at h
        · rename_i hst
          simp only [VRel] at hx hy
          obtain ⟨xs', rfl, rx⟩ := hx
          obtain ⟨ys', rfl, ry⟩ := hy
          have hf : P.fieldsOf t = fields := by unfold Program.fieldsOf; rw [hu]
          rw [run_equalIn_struct w D t xs' ys' (by rw [hf]; exact hu) (by simpa using hst), hf]
          exact eqFs_sound (μ := μ) ih _ _ _ _ _ _ h rx ry
      · simp at h
    · rename_i len elem hu
      split at h
      · rename_i xs ys
        split at h
        · rename_i n hz
          simp only [VRel] at hx hy
          obtain ⟨xs', rfl, rx⟩ := hx
          obtain ⟨ys', rfl, ry⟩ := hy
          cases hi : P.info? elem with
          | none => simp [szT, hi] at hz
          | some inf =>
            have hc : P.cellsOf elem = n := by simp [szT, hi] at hz; simp [Program.cellsOf, hi, hz]
            rw [run_equalIn_array (w := w) D xs' ys' hu hi, hc]
            exact eqEs_sound (μ := μ) ih _ _ _ _ _ _ h rx ry
        · simp at h
      · simp at h
    · simp at h

theorem VRel.inv_nilIface {u : V} (h : VRel μ u .nilIface) : u = .nilIface ∨ u = .dead := by
  cases u with
  | nilIface => exact .inl rfl
  | dead => exact .inr rfl
  | ptr a => rcases a with _ | ⟨i, o⟩ <;> simp [VRel] at h
  | slice s => simp only [VRel] at h; split at h <;> simp at h
  | map r => rcases r with _ | i <;> simp [VRel] at h
  | _ => simp [VRel] at h

theorem VRel.inv_agg {u : V} {a : Array Value} (h : VRel μ u (.agg a)) : (∃ cs, u = .agg cs) ∨ u = .dead := by
  cases u with
  | agg cs => exact .inl ⟨cs, rfl⟩
  | dead => exact .inr rfl
  | ptr a => rcases a with _ | ⟨i, o⟩ <;> simp [VRel] at h
  | slice s => simp only [VRel] at h; split at h <;> simp at h
  | map r => rcases r with _ | i <;> simp [VRel] at h
  | _ => simp [VRel] at h

theorem eqGuard_run {op : BinOp} {t : TypeId} {x y : Operand} {x' y' : Value} (h1 : ¬ (x' = .nilIface ∧ y' = .nilIface)) (h2 : ∀ a b, x' = .agg a → y' = .agg b → P.eqGuardType P.depth t = false) :
    (eqGuard op t x y x' y').run P w = .ok () w := by
  have key : ∀ (s : Sem Unit), (match x', y' with
      | .nilIface, .nilIface => s
      | .agg _, .agg _ => do
        if !(← program).eqGuardType (← program).depth t then return
        if ← Op.eqGuardIn Op.maxDepth t x' y' then unsupported (.noEntry "binop/eql: two nil values of an interface type with methods, in a part of a struct or an array")
      | _, _ => pure ()).run P w = .ok () w := by
    intro s
    split
    · exact absurd ⟨rfl, rfl⟩ h1
    · rename_i a b
      simp [h2 a b rfl rfl]
    · rfl
  cases op <;> unfold eqGuard <;> first
    | rfl
    | (simp only [Bool.not_true, Bool.false_eq_true, if_false]; exact key _)

theorem eqA_dead {d : Nat} {t : TypeId} {v : V} {b : Bool} (h : eqA P d t .dead v = some b) : False := by
  cases d with
  | zero => simp [eqA] at h
  | succ d => unfold eqA at h; split at h <;> simp at h

theorem eqGuard_ok {op : BinOp} {t : TypeId} {x y : Operand} {u v : V} {x' y' : Value} {d : Nat} {b : Bool} (ho : eqOk P t = true) (h : eqA P d t u v = some b) (hx : VRel μ u x') (hy : VRel μ v y') :
    (eqGuard op t x y x' y').run P w = .ok () w := by
  refine eqGuard_run ?_ ?_
  · rintro ⟨rfl, rfl⟩
    rcases hx.inv_nilIface with rfl | rfl
    · cases d with
      | zero => simp [eqA] at h
      | succ d =>
        rcases hy.inv_nilIface with rfl | rfl <;> (unfold eqA at h; split at h <;> simp at h)
    · exact eqA_dead h
  · rintro a b' rfl rfl
    rcases hx.inv_agg with ⟨cs, rfl⟩ | rfl
    · cases d with
      | zero => simp [eqA] at h
      | succ d =>
        unfold eqOk at ho
        unfold eqA at h
        split at h <;> first | (simp at h; done) | (rename_i hu; rw [hu] at ho; simpa using ho)
    · exact (eqA_dead h).elim
end
end Go.AM
end

section
/- What the abstract machine's operations give is what the model's give: the rest of those that only look. -/
namespace Go.AM
open Go.RowKit (Below)

section
variable {P : Program} {B : Nat} {w0 w : World} {μ : Mu} {H : Heap}

theorem arA_sound {op : BinOp} {t : TypeId} {x y r : V} {x' y' : Value} (h : arA op x y = some r) (hs : op ≠ .shl) (hr : op ≠ .shr) (hx : VRel μ x x') (hy : VRel μ y y') (a b : Operand) :
    ∃ z, (do eqGuard op t a b x' y'; binOp op t x' y').run P w = .ok z w ∧ VRel μ r z := by
  unfold arA at h
  split at h
  · rename_i k n k' n'
    split at h
    · rename_i hk; subst hk
      simp only [VRel] at hx hy; subst hx hy
      obtain ⟨z, e, q⟩ := intA_sound (P := P) (w := w) (μ := μ) h hs hr t
      exact ⟨z, by rw [Sem.run_bind, eqGuard_run (by simp) (by simp)]; exact e, q⟩
    · simp at h
  · simp only [VRel] at hx hy; subst hx hy
    obtain ⟨z, e, q⟩ := strA_sound (P := P) (w := w) (μ := μ) h t
    exact ⟨z, by rw [Sem.run_bind, eqGuard_run (by simp) (by simp)]; exact e, q⟩
  · simp at h

theorem shA_sound {op : BinOp} {t : TypeId} {x y r : V} {x' y' : Value} (h : shA op x y = some r) (ho : op = .shl ∨ op = .shr) (hx : VRel μ x x') (hy : VRel μ y y') (a b : Operand) :
    ∃ z, (do eqGuard op t a b x' y'; binOp op t x' y').run P w = .ok z w ∧ VRel μ r z := by
  unfold shA at h
  split at h
  · simp only [VRel] at hx hy; subst hx hy
    obtain ⟨z, e, q⟩ := shiftA_sound (P := P) (w := w) (μ := μ) (yk := _) h t ho
    exact ⟨z, by rw [Sem.run_bind, eqGuard_run (by simp) (by simp)]; exact e, q⟩
  · simp at h

theorem binOp_eql_run {t : TypeId} {x' y' : Value} {b : Bool} (h : (Op.equal t x' y').run P w = .ok b w) (hi : ∀ k n, x' ≠ .int k n) (hs : ∀ s, x' ≠ .string s) (hf : ∀ k n, x' ≠ .float k n) (hc : ∀ k n m, x' ≠ .complex k n m) :
    (binOp .eql t x' y').run P w = .ok (.bool b) w ∧ (binOp .neq t x' y').run P w = .ok (.bool (!b)) w := by
  cases x' <;> first | exact absurd rfl (hi _ _) | exact absurd rfl (hs _) | exact absurd rfl (hf _ _) | exact absurd rfl (hc _ _ _) | skip
  all_goals cases y' <;> simp [binOp, h]

theorem eqA_shape {d : Nat} {t : TypeId} {x y : V} {b : Bool} {x' : Value} (hn : isNum P t = false) (h : eqA P d t x y = some b) (hx : VRel μ x x') :
    (∀ k n, x' ≠ .int k n) ∧ (∀ s, x' ≠ .string s) ∧ (∀ k n, x' ≠ .float k n) ∧ (∀ k n m, x' ≠ .complex k n m) := by
  cases d with
  | zero => simp [eqA] at h
  | succ d =>
    unfold eqA at h
    unfold isNum at hn
    split at h <;> rename_i hu <;> simp only [hu] at hn <;> first | (simp at hn; done) | skip
    all_goals
      cases x <;> first | (simp at h; done) | skip
    all_goals first
      | (simp only [VRel] at hx; subst hx; simp; done)
      | (simp only [VRel] at hx; obtain ⟨_, rfl, _⟩ := hx; simp; done)
      | (simp only [VRel] at hx; obtain ⟨_, _, rfl, _⟩ := hx; simp; done)
      | (rename_i a; rcases a with _ | ⟨i, o⟩
         · simp only [VRel] at hx; subst hx; simp
         · simp only [VRel] at hx; obtain ⟨_, _, rfl⟩ := hx; simp
         done)
      | (simp only [VRel] at hx; split at hx
         · obtain ⟨_, rfl⟩ := hx; simp
         · obtain ⟨_, _, _, _, rfl, _⟩ := hx; simp
         done)
      | (rename_i a; rcases a with _ | i
         · simp only [VRel] at hx; subst hx; simp
         · simp only [VRel] at hx; obtain ⟨_, _, rfl⟩ := hx; simp
         done)

theorem eqlA_sound {t : TypeId} {x y r : V} {x' y' : Value} (hn : isNum P t = false) (h : eqlA P t x y = some r) (hx : VRel μ x x') (hy : VRel μ y y') (a b : Operand) :
    ∃ z, (do eqGuard .eql t a b x' y'; binOp .eql t x' y').run P w = .ok z w ∧ VRel μ r z := by
  unfold eqlA at h
  split at h
  · rename_i ho
    cases he : eqA P 8 t x y with
    | none => simp [he] at h
    | some c =>
      simp [he] at h; subst h
      obtain ⟨h1, h2, h3, h4⟩ := eqA_shape hn he hx
      have e := eqA_sound (w := w) 8 10000 (by omega) t x y c x' y' he hx hy
      refine ⟨.bool c, ?_, rfl⟩
      rw [Sem.run_bind, eqGuard_ok ho he hx hy]
      exact (binOp_eql_run e h1 h2 h3 h4).1
  · simp at h
theorem neqA_sound {t : TypeId} {x y r : V} {x' y' : Value} (hn : isNum P t = false) (h : neqA P t x y = some r) (hx : VRel μ x x') (hy : VRel μ y y') (a b : Operand) :
    ∃ z, (do eqGuard .neq t a b x' y'; binOp .neq t x' y').run P w = .ok z w ∧ VRel μ r z := by
  unfold neqA at h
  split at h
  · rename_i ho
    cases he : eqA P 8 t x y with
    | none => simp [he] at h
    | some c =>
      simp [he] at h; subst h
      obtain ⟨h1, h2, h3, h4⟩ := eqA_shape hn he hx
      have e := eqA_sound (w := w) 8 10000 (by omega) t x y c x' y' he hx hy
      refine ⟨.bool (!c), ?_, rfl⟩
      rw [Sem.run_bind, eqGuard_ok ho he hx hy]
      exact (binOp_eql_run e h1 h2 h3 h4).2
  · simp at h

theorem binA_sound {op : BinOp} {t : TypeId} {x y r : V} {x' y' : Value} (h : binA P op t x y = some r) (hx : VRel μ x x') (hy : VRel μ y y') (a b : Operand) :
    ∃ z, (do eqGuard op t a b x' y'; binOp op t x' y').run P w = .ok z w ∧ VRel μ r z := by
  unfold binA at h
  split at h
  · exact shA_sound h (.inl rfl) hx hy a b
  · exact shA_sound h (.inr rfl) hx hy a b
  · split at h
    · exact arA_sound h (by simp) (by simp) hx hy a b
    · rename_i hn; exact eqlA_sound (by simpa using hn) h hx hy a b
  · split at h
    · exact arA_sound h (by simp) (by simp) hx hy a b
    · rename_i hn; exact neqA_sound (by simpa using hn) h hx hy a b
  · rename_i h1 h2 h3 h4
    exact arA_sound h h1 h2 hx hy a b

theorem unA_sound {op : UnOp} {x r : V} {x' : Value} (h : unA op x = some r) (hx : VRel μ x x') : ∃ z, (Op.unary op x').run P w = .ok z w ∧ VRel μ r z := by
  unfold unA at h
  split at h
  · simp only [VRel] at hx; subst hx
    simp only [Option.some.injEq] at h; subst h
    exact ⟨_, by simp [Op.unary, Op.intArith], rfl⟩
  · simp only [VRel] at hx; subst hx
    simp only [intA, Option.some.injEq] at h; subst h
    exact ⟨_, by simp [Op.unary, Op.intBits], rfl⟩
  · simp only [VRel] at hx; subst hx
    simp only [Option.some.injEq] at h; subst h
    exact ⟨_, by simp [Op.unary], rfl⟩
  · simp at h

/-! Aggregates -/
theorem lset_length : ∀ (xs cs : List V) (o : Nat), (lset cs o xs).length = cs.length
  | [], cs, o => rfl
  | x :: xs, cs, o => by simp [lset, lset_length xs]

theorem VRels.set : ∀ {cs : List V} {xs : List Value} (o : Nat) {v : V} {x : Value}, VRels μ cs xs → VRel μ v x → VRels μ (cs.set o v) (xs.set o x)
  | [], xs, o, v, x, h, _ => by simp [VRels] at h; subst h; simp [VRels]
  | c :: cs, xs, o, v, x, h, hv => by
    simp only [VRels] at h
    obtain ⟨y, ys, rfl, a, b⟩ := h
    cases o with
    | zero => simp only [List.set_cons_zero, VRels]; exact ⟨x, ys, rfl, hv, b⟩
    | succ o => simp only [List.set_cons_succ, VRels]; exact ⟨y, _, rfl, a, VRels.set o b hv⟩

theorem lset_rel : ∀ (xs : List V) (ys : List Value) (cs : List V) (ds : Array Value) (o k : Nat), VRels μ xs ys → VRels μ cs ds.toList →
    VRels μ (lset cs (o + k) xs) ((ys.zipIdx k).foldl (fun cs (p : Value × Nat) => cs.setIfInBounds (o + p.2) p.1) ds).toList
  | [], ys, cs, ds, o, k, h, hc => by simp [VRels] at h; subst h; simpa [lset] using hc
  | x :: xs, ys, cs, ds, o, k, h, hc => by
    simp only [VRels] at h
    obtain ⟨y, zs, rfl, a, b⟩ := h
    simp only [lset, List.zipIdx_cons, List.foldl_cons]
    exact lset_rel xs zs (cs.set (o + k) x) (ds.setIfInBounds (o + k) y) o (k + 1) b (by simpa using hc.set (o + k) a)

theorem fillA_sound {place : Nat → Option (Nat × Nat)} : ∀ (ps : List (Nat × V)) (qs : List (Nat × Value)) (cs r : List V) (ds : Array Value), fillA place cs ps = some r → VRels μ cs ds.toList →
    qs.map (·.1) = ps.map (·.1) → VRels μ (ps.map (·.2)) (qs.map (·.2)) → ∃ es, Instr.fill place ds qs = some es ∧ VRels μ r es.toList
  | [], qs, cs, r, ds, h, hc, hi, hv => by
    simp [fillA] at h; subst h
    simp at hi; subst hi
    exact ⟨ds, rfl, hc⟩
  | (i, v) :: ps, [], cs, r, ds, h, hc, hi, hv => by simp at hi
  | (i, v) :: ps, (j, y) :: qs, cs, r, ds, h, hc, hi, hv => by
    simp only [List.map_cons, List.cons.injEq] at hi
    obtain ⟨rfl, hi⟩ := hi
    simp only [List.map_cons, VRels] at hv
    obtain ⟨y', ys, e, a, b⟩ := hv
    simp only [List.cons.injEq] at e
    obtain ⟨rfl, rfl⟩ := e
    simp only [fillA] at h
    simp only [Instr.fill]
    split at h
    · simp at h
    · rename_i off size hp
      rw [hp]
      split at h
      · rename_i hh
        obtain ⟨h1, h2, h3⟩ := hh
        have hr := a.cells h3
        have hl : y.cells.size = size := by have := hr.length; simpa [h1] using this
        have hcl : ds.size = cs.length := by simpa using hc.length
        have hcond : (decide (y.cells.size ≠ size) || decide (off + y.cells.size > ds.size)) = false := by
          simp; exact ⟨hl, by rw [hl, hcl]; omega⟩
        simp only [hcond]
        have hz : y.cells.zipIdx.foldl (fun cs (c, j) => cs.setIfInBounds (off + j) c) ds = (y.cells.toList.zipIdx 0).foldl (fun cs (p : Value × Nat) => cs.setIfInBounds (off + p.2) p.1) ds := by
          rw [← Array.foldl_toList]; simp
        rw [hz]
        have := lset_rel (μ := μ) v.cells y.cells.toList cs ds off 0 hr hc
        exact fillA_sound ps qs (lset cs off v.cells) r _ h (by simpa using this) hi b
      · simp at h

theorem parts_rel {env : Env} {ρ : Operand → Value} (hρ : ∀ x, VRel μ (opd env x) (ρ x)) : ∀ (ps : List (Nat × Operand)),
    VRels μ ((ps.map fun p => (p.1, opd env p.2)).map (·.2)) ((ps.map fun p => (p.1, ρ p.2)).map (·.2))
  | [] => by simp [VRels]
  | p :: ps => by simp only [List.map_cons, VRels]; exact ⟨_, _, rfl, hρ p.2, parts_rel hρ ps⟩

theorem placesT_eq : ∀ (fs : List Field) (l : List (Nat × Nat)), placesT P fs = some l → fs.mapM (fun f => (P.info? f.type).map fun i => (f.offset, i.size)) = some l
  | [], l, h => by simp [placesT] at h; subst h; simp
  | f :: fs, l, h => by
    unfold placesT at h
    split at h
    · rename_i n l' h1 h2
      simp at h; subst h
      have ih := placesT_eq fs l' h2
      cases hi : P.info? f.type with
      | none => simp [szT, hi] at h1
      | some i =>
        simp [szT, hi] at h1
        simp [List.mapM_cons, hi, ih, h1]
    · simp at h

theorem buildA_sound {env : Env} {ρ : Operand → Value} {t : TypeId} {ps : Array (Nat × Operand)} {r : V} (hρ : ∀ x, VRel μ (opd env x) (ρ x))
    (h : buildA P t (ps.toList.map fun p => (p.1, opd env p.2)) = some r) : ∃ z, (Instr.build t (ps.map fun (i, x) => (i, ρ x))).run P w = .ok z w ∧ VRel μ r z := by
  have hl : (ps.map fun (i, x) => (i, ρ x)).toList = ps.toList.map fun p => (p.1, ρ p.2) := by simp
  have hv := parts_rel hρ ps.toList
  have hi : (ps.toList.map fun p => (p.1, ρ p.2)).map (·.1) = (ps.toList.map fun p => (p.1, opd env p.2)).map (·.1) := by simp [Function.comp_def]
  unfold buildA at h
  split at h
  · rename_i z fields hz hu
    split at h
    · rename_i places hp
      unfold flA at h
      cases hf : fillA (places[·]?) z (ps.toList.map fun p => (p.1, opd env p.2)) with
      | none => simp [hf] at h
      | some cs =>
        simp [hf] at h; subst h
        unfold zeroT at hz
        cases hinf : P.info? t with
        | none => simp [hinf] at hz
        | some it =>
          cases hzz : it.zero with
          | none => simp [hinf, hzz] at hz
          | some zv =>
            simp [hinf, hzz] at hz
            have hrel := ofValue_rel μ zv
            rw [hz] at hrel
            simp only [VRel] at hrel
            obtain ⟨zc, rfl, hzc⟩ := hrel
            obtain ⟨es, e1, e2⟩ := fillA_sound (μ := μ) _ _ _ _ zc hf hzc hi hv
            refine ⟨.agg es, run_build w t _ es ?_, by simp only [VRel]; exact ⟨es, rfl, e2⟩⟩
            unfold Program.built
            simp only [hinf, hu, hzz, placesT_eq _ _ hp, Value.cells]
            rw [hl]; simpa using e1
    · simp at h
  · rename_i z n elem hz hu
    split at h
    · rename_i m hm
      unfold flE at h
      cases hf : fillA (fun i => some (i * m, m)) z (ps.toList.map fun p => (p.1, opd env p.2)) with
      | none => simp [hf] at h
      | some cs =>
        simp [hf] at h; subst h
        unfold zeroT at hz
        cases hinf : P.info? t with
        | none => simp [hinf] at hz
        | some it =>
          cases hzz : it.zero with
          | none => simp [hinf, hzz] at hz
          | some zv =>
            simp [hinf, hzz] at hz
            have hrel := ofValue_rel μ zv
            rw [hz] at hrel
            simp only [VRel] at hrel
            obtain ⟨zc, rfl, hzc⟩ := hrel
            obtain ⟨es, e1, e2⟩ := fillA_sound (μ := μ) _ _ _ _ zc hf hzc hi hv
            cases hie : P.info? elem with
            | none => simp [szT, hie] at hm
            | some ie =>
              simp [szT, hie] at hm
              refine ⟨.agg es, run_build w t _ es ?_, by simp only [VRel]; exact ⟨es, rfl, e2⟩⟩
              unfold Program.built
              simp only [hinf, hu, hzz, hie, Value.cells, hm]
              rw [hl]; exact e1
    · simp at h
  · simp at h
end
end Go.AM
end

section
/- What the abstract machine's operations give is what the model's give: addresses, slices, texts. -/
namespace Go.AM
open Go.RowKit (Below)

section
variable {P : Program} {B : Nat} {w0 w : World} {μ : Mu} {H : Heap}

theorem faA_sound {off : Nat} {v r : V} {x : Value} (h : faA off v = some r) (hx : VRel μ v x) : ∃ a : Addr, x = .pointer (some a) ∧ VRel μ r (.pointer (some (a.add off))) := by
  unfold faA at h
  split at h
  · rename_i i o
    simp at h; subst h
    simp only [VRel] at hx ⊢
    obtain ⟨L, e, rfl⟩ := hx
    exact ⟨_, rfl, L, e, by rw [addr_add, Nat.add_assoc]⟩
  · simp at h

theorem fieldAddrA_sound {s : TypeId} {v r : V} {x : Value} {f : Nat} (h : fieldAddrA P s v f = some r) (hx : VRel μ v x) :
    ∃ z, (Instr.fieldAt s x f).run P w = .ok z w ∧ VRel μ r z := by
  unfold fieldAddrA at h
  split at h
  · rename_i fields hu
    split at h
    · rename_i fd hf
      split at h
      · rename_i n hz
        obtain ⟨a, rfl, hr⟩ := faA_sound h hx
        refine ⟨_, ?_, hr⟩
        have hz' : (sizeOf fd.type).run P w = .ok (n + 1) w := run_sizeOf hz
        simp [Instr.fieldAt, run_und hu, hf, Instr.sureAddr, fieldPlace, hz']
      · simp at h
    · simp at h
  · simp at h

theorem fieldA_sound {t : TypeId} {v r : V} {x : Value} {f : Nat} (h : fieldA P t v f = some r) (hx : VRel μ v x) :
    ∃ z, (Instr.field t x f).run P w = .ok z w ∧ VRel μ r z := by
  unfold fieldA at h
  split at h
  · rename_i fields hu
    split at h
    · rename_i fd hf
      have key : ∀ cs, v = .agg cs → partA P fd.type cs fd.offset = some r → ∃ z, (Instr.field t x f).run P w = .ok z w ∧ VRel μ r z := by
        rintro cs rfl hp
        simp only [VRel] at hx
        obtain ⟨ys, rfl, hy⟩ := hx
        obtain ⟨z, e, q⟩ := partA_sound (w := w) hp hy
        exact ⟨z, by simp [Instr.field, run_und hu, hf, asAgg, e], q⟩
      split at h
      · rename_i n h1 h2
        unfold fdN at h
        split at h
        · rename_i cs; exact key cs rfl (by unfold partA; rw [h1, h2]; exact h)
        · simp at h
      · rename_i h1
        unfold fd1 at h
        split at h
        · rename_i cs; exact key cs rfl (by unfold partA; rw [h1]; exact h)
        · simp at h
      · simp at h
    · simp at h
  · simp at h

theorem int_inv {k : IntKind} {n : Int} {x : Value} (h : VRel μ (.int k n) x) : x = .int k n := by simpa [VRel] using h

theorem indexAddrA_sound {t : TypeId} {v ix r : V} {x i' : Value} (h : indexAddrA P t v ix = some r) (hx : VRel μ v x) (hi : VRel μ ix i') :
    ∃ z, (Instr.indexAt t x i').run P w = .ok z w ∧ VRel μ r z := by
  unfold indexAddrA at h
  split at h
  · rename_i e hu
    split at h
    · rename_i n hz
      unfold idxS at h
      split at h
      · rename_i s k i
        have := int_inv hi; subst this
        split at h
        · rename_i b o hs
          split at h
          · rename_i hc
            obtain ⟨h0, h1, h2⟩ := hc
            simp at h; subst h
            simp only [VRel, hs] at hx
            obtain ⟨L, a, cap, e1, rfl, e3, e4, e5⟩ := hx
            have hcap : cap ≠ 0 := by omega
            obtain ⟨rfl, _⟩ := e5.resolve_left hcap
            refine ⟨.pointer (some ⟨L.b, L.base + (o + i.toNat * (n + 1)), none⟩), ?_, by simp only [VRel]; exact ⟨L, e1, rfl⟩⟩
            have hz' : (sizeOf e).run P w = .ok (n + 1) w := run_sizeOf hz
            simp [Instr.indexAt, run_und hu, asIntOf, h0, h1, hz', addr_add, Nat.add_assoc]
          · simp at h
        · simp at h
      · simp at h
    · simp at h
  · rename_i len e hu
    split at h
    · rename_i n hz
      unfold idxP at h
      split at h
      · rename_i b o k i
        have := int_inv hi; subst this
        split at h
        · rename_i hc
          obtain ⟨h0, h1⟩ := hc
          simp at h; subst h
          simp only [VRel] at hx
          obtain ⟨L, e1, rfl⟩ := hx
          refine ⟨.pointer (some ⟨L.b, L.base + (o + i.toNat * (n + 1)), none⟩), ?_, by simp only [VRel]; exact ⟨L, e1, rfl⟩⟩
          have hz' : (sizeOf e).run P w = .ok (n + 1) w := run_sizeOf hz
          simp [Instr.indexAt, run_und hu, asIntOf, h0, h1, hz', addr_add, Nat.add_assoc, Instr.sureAddr]
        · simp at h
      · simp at h
    · simp at h
  · simp at h

theorem indexA_sound {t : TypeId} {v ix r : V} {x i' : Value} (h : indexA P t v ix = some r) (hx : VRel μ v x) (hi : VRel μ ix i') :
    ∃ z, (Instr.index t x i').run P w = .ok z w ∧ VRel μ r z := by
  unfold indexA at h
  split at h
  · rename_i len e hu
    split at h
    · rename_i n h1 h2
      unfold ixN at h
      split at h
      · rename_i cs k i
        have := int_inv hi; subst this
        split at h
        · rename_i hc
          simp only [VRel] at hx
          obtain ⟨ys, rfl, hy⟩ := hx
          obtain ⟨z, e1, q⟩ := partA_sound (w := w) (t := e) (by unfold partA; rw [h1, h2]; exact h) hy
          exact ⟨z, by simp [Instr.index, run_und hu, asIntOf, hc, run_sizeOf h2, e1], q⟩
        · simp at h
      · simp at h
    · rename_i h1 h2
      unfold ix1 at h
      split at h
      · rename_i cs k i
        have := int_inv hi; subst this
        split at h
        · rename_i hc
          simp only [VRel] at hx
          obtain ⟨ys, rfl, hy⟩ := hx
          obtain ⟨z, e1, q⟩ := partA_sound (w := w) (t := e) (off := i.toNat) (by unfold partA; rw [h1]; exact h) hy
          exact ⟨z, by simp [Instr.index, run_und hu, asIntOf, hc, run_sizeOf h2, e1], q⟩
        · simp at h
      · simp at h
    · simp at h
  · rename_i hu
    unfold ixStr at h
    split at h
    · rename_i s k i
      have := int_inv hi; subst this
      split at h
      · rename_i h0
        split at h
        · rename_i b hb
          simp at h; subst h
          simp only [VRel] at hx; subst hx
          refine ⟨.int .u8 b.toNat, ?_, rfl⟩
          have hb' : (⟨s.toArray⟩ : ByteArray)[i.toNat]? = some b := by
            obtain ⟨hlt, he⟩ := List.getElem?_eq_some_iff.1 hb
            rw [getElem?_pos _ _ (by simpa [ByteArray.size] using hlt)]
            simp [ByteArray.getElem_eq_getElem_data, he]
          simp [Instr.index, run_und hu, asIntOf, h0, hb']
        · simp at h
      · simp at h
    · simp at h
  · simp at h

/-! Slices -/
def VORel (μ : Mu) : Option V → Option Value → Prop
  | none, none => True
  | some v, some x => VRel μ v x
  | _, _ => False

theorem bnd_run {d y : Nat} {v : V} {x : Value} {c : BoundsCode} {n : Nat} (h : bndA d (some v) = some n) (hx : VRel μ v x) (hn : n ≤ y) : (Instr.sliceBound x y c).run P w = .ok n w := by
  unfold bndA at h
  split at h
  · rename_i e; simp at e
  · rename_i k i e
    simp at e; subst e
    split at h
    · rename_i h0
      simp at h; subst h
      have := int_inv hx; subst this
      have : i ≤ (y : Int) := by omega
      simp [Instr.sliceBound, asIntOf, h0, this]
    · simp at h
  · simp at h

theorem sliceBounds_run {isS : Bool} {len cap l h' : Nat} {lo hi : Option V} {lo' hi' : Option Value} (h1 : bndA 0 lo = some l) (h2 : bndA len hi = some h')
    (hlo : VORel μ lo lo') (hhi : VORel μ hi hi') (h3 : l ≤ h') (h4 : h' ≤ cap) : (Instr.sliceBounds isS len cap lo' hi' none).run P w = .ok (l, h', cap) w := by
  unfold Instr.sliceBounds
  cases hi with
  | none =>
    cases hi' with
    | some y => simp [VORel] at hhi
    | none =>
      simp [bndA] at h2; subst h2
      cases lo with
      | none =>
        cases lo' with
        | none => simp [bndA] at h1; subst h1; simp
        | some y => simp [VORel] at hlo
      | some v =>
        cases lo' with
        | none => simp [VORel] at hlo
        | some y => simp [bnd_run (P := P) (w := w) (c := .sliceB) h1 hlo h3]
  | some u =>
    cases hi' with
    | none => simp [VORel] at hhi
    | some z =>
      have e2 := fun c => bnd_run (P := P) (w := w) (c := c) h2 hhi h4
      cases lo with
      | none =>
        cases lo' with
        | none => simp [bndA] at h1; subst h1; simp [e2]
        | some y => simp [VORel] at hlo
      | some v =>
        cases lo' with
        | none => simp [VORel] at hlo
        | some y => simp [e2, bnd_run (P := P) (w := w) (c := .sliceB) h1 hlo h3]

theorem slice_rel {s : Sl} {L : Loc} {a : Addr} {cap l h' n m : Nat} {i o : Nat} {f : Bool} (hs : s.ad = some (i, o)) (e1 : μ i = some L) (e3 : s.len ≤ cap)
    (e5 : cap = 0 ∨ (a = ⟨L.b, L.base + o, none⟩ ∧ L.base + o + cap * s.esz ≤ L.size)) (hz : s.esz = n) (h1 : l ≤ h') (h2 : h' ≤ m) (h3 : m ≤ cap) (hf : f = true → h' = m) :
    VRel μ (.slice ⟨some (i, o + l * n), h' - l, n, f⟩) (.slice (some (if m = l then a else a.add (l * n))) (h' - l) (m - l)) := by
  subst hz
  unfold VRel
  refine ⟨L, _, _, e1, rfl, by simp only; omega, fun hh => by have := hf hh; simp only; omega, ?_⟩
  by_cases hm : m = l
  · exact .inl (by omega)
  · right
    have hc : cap ≠ 0 := by omega
    obtain ⟨rfl, hle⟩ := e5.resolve_left hc
    rw [if_neg hm, addr_add]
    refine ⟨by simp [Nat.add_assoc], ?_⟩
    have : (m - l) * s.esz ≤ cap * s.esz - l * s.esz := by
      rw [← Nat.sub_mul]; exact Nat.mul_le_mul_right _ (by omega)
    have h5 : l * s.esz ≤ cap * s.esz := Nat.mul_le_mul_right _ (by omega)
    simp only
    omega

theorem slSl_sound {n e t : TypeId} {v r : V} {x : Value} {lo hi : Option V} {lo' hi' : Option Value} (hu : P.underlying t = some (.slice e)) (hz : szT P e = some n)
    (h : slSl n v lo hi = some r) (hx : VRel μ v x) (hlo : VORel μ lo lo') (hhi : VORel μ hi hi') : ∃ z, (Instr.slice t x lo' hi' none).run P w = .ok z w ∧ VRel μ r z := by
  unfold slSl at h
  split at h
  · rename_i s
    cases h1 : bndA 0 lo with
    | none => simp [h1] at h
    | some l =>
      cases h2 : bndA s.len hi with
      | none => simp [h1, h2] at h
      | some h' =>
        simp only [h1, h2, Option.bind_some] at h
        split at h
        · rename_i hc
          obtain ⟨c1, c2, c3⟩ := hc
          simp at h; subst h
          simp only [VRel] at hx
          split at hx
          · rename_i hs
            obtain ⟨hl, rfl⟩ := hx
            have hb := sliceBounds_run (P := P) (w := w) (isS := true) (cap := 0) (len := 0) (by exact h1) (by rw [hl] at h2; exact h2) hlo hhi c1 (by omega)
            refine ⟨.slice none 0 0, ?_, ?_⟩
            · have : h' = 0 := by omega
              subst this
              have : l = 0 := by omega
              subst this
              simp [Instr.slice, run_und hu, hb, run_sizeOf hz]
            · simp [VRel, hs]; omega
          · rename_i i o hs
            obtain ⟨L, a, cap, e1, rfl, e3, e4, e5⟩ := hx
            have hsz : s.esz = n := by simpa [hs] using c3
            have hb := sliceBounds_run (P := P) (w := w) (isS := true) (cap := cap) (len := s.len) h1 h2 hlo hhi c1 (by omega)
            refine ⟨.slice (some (if cap = l then a else a.add (l * n))) (h' - l) (cap - l), ?_, ?_⟩
            · simp only [Instr.slice, Sem.run_bind, run_und hu, Result.andThen_ok, hb, run_sizeOf hz, Sem.run_pure]
              split <;> simp
            · have := slice_rel (μ := μ) (f := false) hs e1 e3 e5 hsz c1 (by omega : h' ≤ cap) (Nat.le_refl cap) (by simp)
              simpa [hs] using this
        · simp at h
  · simp at h

theorem slMx_sound {n e t : TypeId} {v hi mx r : V} {x hi' mx' : Value} {lo : Option V} {lo' : Option Value} (hu : P.underlying t = some (.slice e)) (hz : szT P e = some n)
    (h : slMx n v lo hi mx = some r) (hx : VRel μ v x) (hlo : VORel μ lo lo') (hhi : VRel μ hi hi') (hmx : VRel μ mx mx') : ∃ z, (Instr.slice t x lo' (some hi') (some mx')).run P w = .ok z w ∧ VRel μ r z := by
  unfold slMx at h
  split at h
  · rename_i s
    cases h1 : bndA 0 lo with
    | none => simp [h1] at h
    | some l =>
      cases h2 : bndA 0 (some hi) with
      | none => simp [h1, h2] at h
      | some h' =>
        cases h3 : bndA 0 (some mx) with
        | none => simp [h1, h2, h3] at h
        | some m =>
          simp only [h1, h2, h3, Option.bind_some] at h
          split at h
          · rename_i hc
            obtain ⟨c1, c2, c3, c4⟩ := hc
            simp at h; subst h
            have hb : ∀ cap, m ≤ cap → (Instr.sliceBounds true s.len cap lo' (some hi') (some mx')).run P w = .ok (l, h', m) w := by
              intro cap hcap
              unfold Instr.sliceBounds
              have a1 := fun c => bnd_run (P := P) (w := w) (c := c) h3 hmx hcap
              have a2 := fun c => bnd_run (P := P) (w := w) (c := c) h2 hhi c2
              cases lo with
              | none =>
                cases lo' with
                | none => simp [bndA] at h1; subst h1; simp [a1, a2]
                | some y => simp [VORel] at hlo
              | some v =>
                cases lo' with
                | none => simp [VORel] at hlo
                | some y => simp [a1, a2, bnd_run (P := P) (w := w) (c := .slice3C) h1 hlo c1]
            simp only [VRel] at hx
            split at hx
            · rename_i hs
              obtain ⟨hl, rfl⟩ := hx
              have hm0 : m = 0 := by omega
              refine ⟨.slice none 0 0, ?_, ?_⟩
              · have hb0 := hb 0 (by omega)
                rw [hl] at hb0
                have : h' = 0 := by omega
                subst this
                have : l = 0 := by omega
                subst this
                subst hm0
                simp [Instr.slice, run_und hu, hb0, run_sizeOf hz]
              · simp [VRel, hs]; omega
            · rename_i i o hs
              obtain ⟨L, a, cap, e1, rfl, e3, e4, e5⟩ := hx
              have hsz : s.esz = n := by simpa [hs] using c4
              refine ⟨.slice (some (if m = l then a else a.add (l * n))) (h' - l) (m - l), ?_, ?_⟩
              · simp only [Instr.slice, Sem.run_bind, run_und hu, Result.andThen_ok, hb cap (by omega), run_sizeOf hz, Sem.run_pure]
                split <;> simp
              · have := slice_rel (μ := μ) (f := h' == m) hs e1 e3 e5 hsz c1 c2 (by omega) (by simp)
                simpa [hs] using this
          · simp at h
  · simp at h

theorem slStr_sound {t : TypeId} {v r : V} {x : Value} {lo hi : Option V} {lo' hi' : Option Value} (hu : P.underlying t = some .string)
    (h : slStr v lo hi = some r) (hx : VRel μ v x) (hlo : VORel μ lo lo') (hhi : VORel μ hi hi') : ∃ z, (Instr.slice t x lo' hi' none).run P w = .ok z w ∧ VRel μ r z := by
  unfold slStr at h
  split at h
  · rename_i s
    cases h1 : bndA 0 lo with
    | none => simp [h1] at h
    | some l =>
      cases h2 : bndA s.length hi with
      | none => simp [h1, h2] at h
      | some h' =>
        simp only [h1, h2, Option.bind_some] at h
        split at h
        · rename_i hc
          simp at h; subst h
          simp only [VRel] at hx; subst hx
          have hb := sliceBounds_run (P := P) (w := w) (isS := false) (cap := s.length) (len := s.length) h1 h2 hlo hhi hc.1 hc.2
          refine ⟨.string ⟨((s.take h').drop l).toArray⟩, ?_, rfl⟩
          have he : (⟨s.toArray⟩ : ByteArray).extract l h' = ⟨((s.take h').drop l).toArray⟩ := by
            apply ByteArray.ext
            rw [ByteArray.data_extract]
            simp [List.extract_eq_take_drop, List.drop_take]
          have hs : (⟨s.toArray⟩ : ByteArray).size = s.length := by simp [ByteArray.size]
          simp [Instr.slice, run_und hu, hs, hb, he]
        · simp at h
  · simp at h
end
end Go.AM
end

section
/- What the abstract machine's operations give is what the model's give: lengths, conversions, assertions, look-ups; all that only look. -/
namespace Go.AM
open Go.RowKit (Below)

section
variable {P : Program} {B : Nat} {w0 w : World} {μ : Mu} {H : Heap}

theorem slArr_sound (hr : Rel B w0 μ H w) {len n : Nat} {t e : TypeId} {v r : V} {x : Value} {lo hi : Option V} {lo' hi' : Option Value} (hu : P.underlying t = some (.array len e)) (hz : szT P e = some n)
    (h : slArr len n v lo hi H = some r) (hx : VRel μ v x) (hlo : VORel μ lo lo') (hhi : VORel μ hi hi') : ∃ z, (Instr.sliceAt t x lo' hi' none).run P w = .ok z w ∧ VRel μ r z := by
  unfold slArr at h
  split at h
  · rename_i i o
    cases h1 : bndA 0 lo with
    | none => simp [h1] at h
    | some l =>
      cases h2 : bndA len hi with
      | none => simp [h1, h2] at h
      | some h' =>
        simp only [h1, h2, Option.bind_some] at h
        split at h
        · rename_i cs e' ro hg
          split at h
          · rename_i hc
            obtain ⟨c1, c2, c3⟩ := hc
            simp at h; subst h
            obtain ⟨L, e1, rfl, ho⟩ := hr.ptr hx
            rw [hg] at ho
            obtain ⟨c, e'', fr, hb, hs, hl, _⟩ := ho
            have hb := sliceBounds_run (P := P) (w := w) (isS := false) (cap := len) (len := len) h1 h2 hlo hhi c1 c2
            refine ⟨.slice (some (if len = l then ⟨L.b, L.base + o, none⟩ else (⟨L.b, L.base + o, none⟩ : Addr).add (l * n))) (h' - l) (len - l), ?_, ?_⟩
            · simp [Instr.sliceAt, run_und hu, Instr.sureAddr, hb, run_sizeOf hz]
            · unfold VRel
              refine ⟨L, _, _, e1, rfl, by simp only; omega, by simp, ?_⟩
              by_cases hm : len = l
              · exact .inl (by omega)
              · right
                rw [if_neg hm, addr_add]
                refine ⟨by simp [Nat.add_assoc], ?_⟩
                have : (len - l) * n = len * n - l * n := Nat.sub_mul _ _ _
                have h5 : l * n ≤ len * n := Nat.mul_le_mul_right _ (by omega)
                simp only
                omega
          · simp at h
        · simp at h
  · simp at h

theorem sliceA_sound (hr : Rel B w0 μ H w) {t : TypeId} {v r : V} {x : Value} {lo hi mx : Option V} {lo' hi' mx' : Option Value}
    (h : sliceA P t v lo hi mx H = some r) (hx : VRel μ v x) (hlo : VORel μ lo lo') (hhi : VORel μ hi hi') (hmx : VORel μ mx mx') : ∃ z, (Instr.sliceAt t x lo' hi' mx').run P w = .ok z w ∧ VRel μ r z := by
  unfold sliceA at h
  split at h
  · rename_i hu
    have e : Instr.sliceAt t x lo' hi' mx' = (do match ← underlying t with
      | .array n elem =>
        let a ← Instr.sureAddr x
        let (l, h, m) ← Instr.sliceBounds false n n lo' hi' mx'
        let size ← sizeOf elem
        pure (.slice (some (if m = l then a else a.add (l * size))) (h - l) (m - l))
      | _ => Instr.slice t x lo' hi' mx') := rfl
    rw [e]
    simp only [Sem.run_bind, run_und hu, Result.andThen_ok]
    split at h
    · cases mx' with
      | none => exact slStr_sound hu h hx hlo hhi
      | some y => simp [VORel] at hmx
    · simp at h
  · rename_i el hu
    have e : Instr.sliceAt t x lo' hi' mx' = (do match ← underlying t with
      | .array n elem =>
        let a ← Instr.sureAddr x
        let (l, h, m) ← Instr.sliceBounds false n n lo' hi' mx'
        let size ← sizeOf elem
        pure (.slice (some (if m = l then a else a.add (l * size))) (h - l) (m - l))
      | _ => Instr.slice t x lo' hi' mx') := rfl
    rw [e]
    simp only [Sem.run_bind, run_und hu, Result.andThen_ok]
    split at h
    · rename_i n hz
      split at h
      · cases mx' with
        | none => exact slSl_sound hu hz h hx hlo hhi
        | some y => simp [VORel] at hmx
      · rename_i m hh
        cases mx' with
        | none => simp [VORel] at hmx
        | some y =>
          cases hi' with
          | none => simp [VORel] at hhi
          | some z => exact slMx_sound hu hz h hx hlo hhi hmx
      · simp at h
    · simp at h
  · rename_i len el hu
    split at h
    · rename_i n hz
      cases mx' with
      | none => exact slArr_sound hr hu hz h hx hlo hhi
      | some y => simp [VORel] at hmx
    · simp at h
  · simp at h

/-- What a slice's elements are. -/
theorem rdS_sound (hr : Rel B w0 μ H w) {s : Sl} {cs : List V} {x : Value} (h : rdS s H = some cs) (hx : VRel μ (.slice s) x) :
    ∃ base cap xs, x = .slice base s.len cap ∧ VRels μ cs xs ∧ cs.all V.one = true ∧ (∀ y ∈ xs, y.oneCell' = true) ∧ (s.len = 0 → cs = []) ∧ (base = none ↔ s.ad = none) ∧ (s.ad = none → s.len = 0 ∧ cap = 0) ∧
      (xs.length = s.len * s.esz) ∧ (∀ a, base = some a → ∀ j y, xs[j]? = some y → w.cell? (a.add j) = some y) ∧ s.len ≤ cap := by
  unfold rdS at h
  simp only [VRel] at hx
  split at h
  · rename_i hs
    simp only [hs] at hx
    obtain ⟨hl, rfl⟩ := hx
    rw [if_pos hl] at h
    simp at h; subst h
    exact ⟨none, 0, [], by rw [hl], by simp [VRels], rfl, by simp, fun _ => rfl, by simp [hs], fun _ => ⟨hl, rfl⟩, by simp [hl], by simp, by omega⟩
  · rename_i i o hs
    simp only [hs] at hx
    obtain ⟨L, a, cap, e1, rfl, e3, e4, e5⟩ := hx
    split at h
    · rename_i hn
      simp at h; subst h
      exact ⟨some a, cap, [], rfl, by simp [VRels], rfl, by simp, fun _ => rfl, by simp [hs], by simp [hs], by simp [hn], by simp, e3⟩
    · rename_i hn
      split at h
      · rename_i cs' e ro hg
        split at h
        · rename_i hle
          simp at h; subst h
          have ho := hr.objs i L e1
          rw [hg] at ho
          obtain ⟨xs, a1, a2, a3, a4, a5⟩ := ho.cellsAt hle
          obtain ⟨rfl, _⟩ := e5.resolve_left (by omega)
          refine ⟨some _, cap, xs, rfl, a2, a4, a5, fun h => absurd h hn, by simp [hs], by simp [hs], a1, ?_, e3⟩
          intro b hb j y hj
          simp at hb; subst hb
          rw [addr_add]; exact a3 j y hj
        · simp at h
      · simp at h

theorem bytesOf_rel : ∀ (cs : List V) (xs : List Value) (l : List UInt8), bytesOf cs = some l → VRels μ cs xs → ∃ ns : List Int, xs = ns.map (Value.int .u8) ∧ l = ns.map fun n => UInt8.ofNat n.toNat
  | [], xs, l, h, hr => by simp [bytesOf] at h; subst h; simp [VRels] at hr; exact ⟨[], by simp [hr], rfl⟩
  | c :: cs, xs, l, h, hr => by
    simp only [VRels] at hr
    obtain ⟨y, ys, rfl, a, b⟩ := hr
    unfold bytesOf at h
    split at h
    · simp_all
    · rename_i n vs e
      simp at e
      obtain ⟨rfl, rfl⟩ := e
      split at h
      · rename_i l' hl
        simp at h; subst h
        obtain ⟨ns, rfl, rfl⟩ := bytesOf_rel cs ys l' hl b
        have := int_inv a; subst this
        exact ⟨n :: ns, rfl, rfl⟩
      · simp at h
    · simp at h

theorem cvBytes_sound (hr : Rel B w0 μ H w) {src dst e : TypeId} {v r : V} {x : Value} (hs : P.underlying src = some (.slice e)) (he : P.underlying e = some (.int .u8)) (hd : P.underlying dst = some .string)
    (h : cvBytes v H = some r) (hx : VRel μ v x) : ∃ z, (convert src dst x).run P w = .ok z w ∧ VRel μ r z := by
  unfold cvBytes at h
  split at h
  · rename_i u
    split at h
    · rename_i hz
      cases h1 : rdS u H with
      | none => simp [h1] at h
      | some cs =>
        cases h2 : bytesOf cs with
        | none => simp [h1, h2] at h
        | some l =>
          simp [h1, h2] at h; subst h
          obtain ⟨base, cap, xs, rfl, a1, a2, a3, a4, a5, a6, a7, a8, _⟩ := rdS_sound hr h1 hx
          obtain ⟨ns, rfl, rfl⟩ := bytesOf_rel cs xs l h2 a1
          cases base with
          | none =>
            have h0 := (a5.1 rfl)
            obtain ⟨hl, _⟩ := a6 h0
            have hn : ns = [] := by
              have : ns.length = 0 := by simpa [hl] using a7
              exact List.eq_nil_of_length_eq_zero this
              
            subst hn
            exact ⟨_, run_convert_bytes_nil w src e hs he _ _ dst hd, rfl⟩
          | some a =>
            have h1' : u.ad ≠ none := fun hh => by simpa using a5.2 hh
            have hz1 : u.esz = 1 := by
              rcases hz with hz | hz
              · exact absurd (by simpa using hz) h1'
              · exact hz
            have hlen : ns.length = u.len := by simpa [hz1] using a7
            refine ⟨.string (strOfNums ns), ?_, ?_⟩
            · rw [run_convert_bytes_string w src dst e _ _ cap hs he hd]
              have hc := loadCells_of (P := P) (w := w) (a := a) (n := u.len) (xs := ns.map (Value.int .u8)) (by simp [hlen]) (a8 a rfl)
              rw [run_bytesToString w a _ cap ns hc, foldl_push_bytes]
              simp [strOfNums, ByteArray.empty, ByteArray.emptyWithCapacity]; rfl
            · simp only [VRel]; unfold strOfNums; rfl
    · simp at h
  · simp at h

theorem convA_sound (hr : Rel B w0 μ H w) {src dst : TypeId} {v r : V} {x : Value} (h : convA P src dst v H = some r) (hx : VRel μ v x) :
    ∃ z, (convert src dst x).run P w = .ok z w ∧ VRel μ r z := by
  unfold convA at h
  split at h
  · rename_i k' k hs hd
    unfold cvInt at h
    split at h
    · simp at h; subst h
      have := int_inv hx; subst this
      exact ⟨_, by simp [convert, run_und hs, run_und hd, Conv.intToInt], rfl⟩
    · simp at h
  · rename_i hs hd
    unfold cvStr at h
    split at h
    · simp at h; subst h
      simp only [VRel] at hx; subst hx
      exact ⟨_, by simp [convert, run_und hs, run_und hd], rfl⟩
    · simp at h
  · rename_i e hs hd
    split at h
    · rename_i he; exact cvBytes_sound hr hs he hd h hx
    · simp at h
  · simp at h

theorem asOk_sound {t u : TypeId} {d : TypeDesc} {z v r : V} {x : Value} (hu : P.underlying t = some d) (hd : ∀ ms, d ≠ .interface ms) (hz : zeroT P t = some z) (h : asOk t z v = some r) (hx : VRel μ v x) :
    ∃ y, (Instr.typeAssert x u t true).run P w = .ok y w ∧ VRel μ r y := by
  obtain ⟨z', hz1, hz2⟩ := run_zero (w := w) μ hz
  unfold asOk at h
  split at h
  · rename_i q y
    simp only [VRel] at hx
    obtain ⟨y', rfl, hy⟩ := hx
    split at h
    · rename_i he
      simp at h; subst h he
      refine ⟨.tuple #[y', .bool true], ?_, by simp only [VRel, VRels]; exact ⟨_, rfl, y', _, rfl, hy, _, _, rfl, rfl, rfl⟩⟩
      simp only [Instr.typeAssert, Sem.run_bind, run_und hu, Result.andThen_ok]
      cases d <;> first | exact absurd rfl (hd _) | simp
    · rename_i he
      simp at h; subst h
      refine ⟨.tuple #[z', .bool false], ?_, by simp only [VRel, VRels]; exact ⟨_, rfl, z', _, rfl, hz2, _, _, rfl, rfl, rfl⟩⟩
      simp only [Instr.typeAssert, Sem.run_bind, run_und hu, Result.andThen_ok]
      cases d <;> first | exact absurd rfl (hd _) | simp [he, hz1]
  · simp only [VRel] at hx; subst hx
    simp at h; subst h
    refine ⟨.tuple #[z', .bool false], ?_, by simp only [VRel, VRels]; exact ⟨_, rfl, z', _, rfl, hz2, _, _, rfl, rfl, rfl⟩⟩
    simp only [Instr.typeAssert, Sem.run_bind, run_und hu, Result.andThen_ok]
    cases d <;> first | exact absurd rfl (hd _) | simp [hz1]
  · simp at h

theorem asIs_sound {t u : TypeId} {d : TypeDesc} {v r : V} {x : Value} (hu : P.underlying t = some d) (hd : ∀ ms, d ≠ .interface ms) (h : asIs t v = some r) (hx : VRel μ v x) :
    ∃ y, (Instr.typeAssert x u t false).run P w = .ok y w ∧ VRel μ r y := by
  unfold asIs at h
  split at h
  · rename_i q y
    simp only [VRel] at hx
    obtain ⟨y', rfl, hy⟩ := hx
    split at h
    · rename_i he
      simp at h; subst h he
      refine ⟨y', ?_, hy⟩
      simp only [Instr.typeAssert, Sem.run_bind, run_und hu, Result.andThen_ok]
      cases d <;> first | exact absurd rfl (hd _) | simp
    · simp at h
  · simp at h

theorem assertA_sound {t u : TypeId} {v r : V} {x : Value} {ok : Bool} (h : assertA P v t ok = some r) (hx : VRel μ v x) :
    ∃ y, (Instr.typeAssert x u t ok).run P w = .ok y w ∧ VRel μ r y := by
  unfold assertA at h
  split at h
  · simp at h
  · rename_i d hn hu
    have hd : ∀ ms, d ≠ .interface ms := fun ms e => hn ms e
    split at h
    · rename_i z hz; exact asOk_sound hu hd hz h hx
    · exact asIs_sound hu hd h hx
    · simp at h
  · simp at h

theorem extA_sound {v r : V} {x : Value} {i : Nat} (h : extA v i = some r) (hx : VRel μ v x) : ∃ y, (Instr.extract x i).run P w = .ok y w ∧ VRel μ r y := by
  unfold extA at h
  split at h
  · simp only [VRel] at hx
    obtain ⟨a, rfl, hr⟩ := hx
    obtain ⟨y, e, q⟩ := hr.get i r h
    have e' : a[i]? = some y := by simpa using e
    exact ⟨y, by simp [Instr.extract, e'], q⟩
  · simp at h

theorem lenA_sound (hr : Rel B w0 μ H w) {t ty : TypeId} {ts : Array TypeId} {v r : V} {x : Value} (ht : ts[0]? = some t) (h : lenA P t v H = some r) (hx : VRel μ v x) :
    ∃ y, (Builtin.len_ ts ty #[x]).run P w = .ok y w ∧ VRel μ r y := by
  unfold lenA at h
  split at h
  · rename_i hu
    unfold lenStr at h
    split at h
    · rename_i s
      simp only [Option.some.injEq] at h; subst h
      simp only [VRel] at hx; subst hx
      refine ⟨goInt (⟨s.toArray⟩ : ByteArray).size, ?_, rfl⟩
      simp only [Builtin.len_, ht, List.getElem?_toArray, List.getElem?_cons_zero, Sem.run_bind, run_und hu, Result.andThen_ok]
      rfl
    · simp at h
  · rename_i e hu
    unfold lenSl at h
    split at h
    · rename_i s
      simp only [Option.some.injEq] at h; subst h
      simp only [VRel] at hx
      split at hx
      · obtain ⟨hl, rfl⟩ := hx
        refine ⟨goInt (0 : Nat), ?_, by rw [hl]; rfl⟩
        simp only [Builtin.len_, ht, List.getElem?_toArray, List.getElem?_cons_zero, Sem.run_bind, run_und hu, Result.andThen_ok]
        rfl
      · obtain ⟨L, a, cap, _, rfl, _⟩ := hx
        refine ⟨goInt s.len, ?_, rfl⟩
        simp only [Builtin.len_, ht, List.getElem?_toArray, List.getElem?_cons_zero, Sem.run_bind, run_und hu, Result.andThen_ok]
        rfl
    · simp at h
  · rename_i n e hu
    simp only [Option.some.injEq] at h; subst h
    refine ⟨goInt n, ?_, rfl⟩
    simp only [Builtin.len_, ht, List.getElem?_toArray, List.getElem?_cons_zero, Sem.run_bind, run_und hu, Result.andThen_ok]
    rfl
  · rename_i k e hu
    unfold lenMap at h
    split at h
    · simp only [Option.some.injEq] at h; subst h
      simp only [VRel] at hx; subst hx
      refine ⟨goInt 0, ?_, rfl⟩
      simp only [Builtin.len_, ht, List.getElem?_toArray, List.getElem?_cons_zero, Sem.run_bind, run_und hu, Result.andThen_ok]
      rfl
    · rename_i i
      simp only [VRel] at hx
      obtain ⟨L, e1, rfl⟩ := hx
      split at h
      · rename_i es clock hg
        simp only [Option.some.injEq] at h; subst h
        have ho := hr.objs i L e1
        rw [hg] at ho
        obtain ⟨xs, hb, _, hm⟩ := ho
        have hl : xs.size = es.length := by
          have : ∀ (es : List ME) (l : List MapEntry), MERels μ es l → l.length = es.length := by
            intro es
            induction es with
            | nil => intro l hh; simp [MERels] at hh; simp [hh]
            | cons e es ih => intro l hh; simp only [MERels] at hh; obtain ⟨y, ys, rfl, _, b⟩ := hh; simp [ih ys b]
          simpa using this es xs.toList hm
        refine ⟨goInt xs.size, ?_, by rw [hl]; rfl⟩
        have hg : (getObj L.b).run P w = .ok (.map xs clock) w := by simp only [getObj, Sem.run, hb]
        simp only [Builtin.len_, ht, List.getElem?_toArray, List.getElem?_cons_zero, Sem.run_bind, run_und hu, Result.andThen_ok, hg]
        rfl
      · simp at h
    · simp at h
  · simp at h

theorem mm2_sound {mx : Bool} {u v r : V} {x y : Value} (h : mm2 mx u v = some r) (hx : VRel μ u x) (hy : VRel μ v y) :
    ∃ z, ((if mx then Builtin.max2 else Builtin.min2) x y).run P w = .ok z w ∧ VRel μ r z := by
  unfold mm2 at h
  split at h
  · simp at h; subst h
    have := int_inv hx; subst this
    have := int_inv hy; subst this
    cases mx <;> exact ⟨_, by simp [Builtin.max2, Builtin.min2], rfl⟩
  · simp at h

theorem mmA_sound {mx : Bool} : ∀ (vs : List V) (xs : List Value) (v r : V) (x : Value), vs.foldlM (mm2 mx) v = some r → VRel μ v x → VRels μ vs xs →
    ∃ z, (xs.foldlM (if mx then Builtin.max2 else Builtin.min2) x).run P w = .ok z w ∧ VRel μ r z
  | [], xs, v, r, x, h, hx, hv => by
    simp [VRels] at hv; subst hv
    simp at h; subst h
    exact ⟨x, by simp, hx⟩
  | u :: vs, xs, v, r, x, h, hx, hv => by
    simp only [VRels] at hv
    obtain ⟨y, ys, rfl, a, b⟩ := hv
    simp only [List.foldlM_cons, Option.bind_eq_bind] at h
    cases h1 : mm2 mx v u with
    | none => simp [h1] at h
    | some q =>
      rw [h1] at h
      obtain ⟨z, e1, e2⟩ := mm2_sound (P := P) (w := w) h1 hx a
      obtain ⟨z', e3, e4⟩ := mmA_sound vs ys q r z h e2 b
      exact ⟨z', by simp only [List.foldlM_cons, Sem.run_bind, e1, Result.andThen_ok, e3], e4⟩
end
end Go.AM
end

section
/- What the abstract machine's operations give is what the model's give: maps; all operations that only look. -/
namespace Go.AM
open Go.RowKit (Below)

section
variable {P : Program} {B : Nat} {w0 w : World} {μ : Mu} {H : Heap}

theorem checkKey_run {e : Bool} : ∀ (d n : Nat), d ≤ n → ∀ (t : TypeId) (v : V) (x : Value), keyV P d t v = true → VRel μ v x → (Instr.checkKey e n t x).run P w = .ok () w
  | 0, _, _, _, _, _, h, _ => by simp [keyV] at h
  | d + 1, 0, hd, _, _, _, _, _ => by omega
  | d + 1, n + 1, hd, t, v, x, h, hx => by
    have ih := checkKey_run (e := e) d n (by omega)
    unfold keyV at h
    split at h
    · rename_i k hu
      split at h
      · simp only [VRel] at hx; subst hx; simp [Instr.checkKey, run_und hu]
      · simp at h
    · rename_i hu
      split at h
      · simp only [VRel] at hx; subst hx; simp [Instr.checkKey, run_und hu]
      · simp at h
    · rename_i hu
      split at h
      · simp only [VRel] at hx; subst hx; simp [Instr.checkKey, run_und hu]
      · simp at h
    · rename_i fields hu
      split at h
      · simp only [VRel] at hx
        obtain ⟨ys, rfl, hr⟩ := hx
        simp only [Instr.checkKey, Sem.run_bind, run_und hu, Result.andThen_ok]
        rw [← Array.forIn_toList]
        generalize fields.toList = fs at h
        clear hu
        induction fs with
        | nil => simp
        | cons f fs ihf =>
          simp only [keyFs, Bool.and_eq_true] at h
          obtain ⟨h1, h2⟩ := h
          have h3 := ihf h2
          simp only [List.forIn_cons, Sem.run_bind, Sem.run_ite]
          split at h1
          · rename_i u hu
            obtain ⟨y, e1, q⟩ := partA_sound (w := w) hu hr
            have e2 := ih _ _ _ h1 q
            by_cases hn : f.name ≠ "_"
            · rw [if_pos hn]
              simp only [Sem.run_bind, e1, Result.andThen_ok, e2, Sem.run_pure]
              exact h3
            · rw [if_neg hn]
              simp only [Sem.run_pure, Result.andThen_ok]
              exact h3
          · simp at h1
      · simp at h
    · rename_i len el hu
      split at h
      · simp only [VRel] at hx
        obtain ⟨ys, rfl, hr⟩ := hx
        split at h
        · rename_i m hz
          simp only [Instr.checkKey, Sem.run_bind, run_und hu, Result.andThen_ok]
          rw [Std.Legacy.Range.forIn_eq_forIn_range']
          simp only [Std.Legacy.Range.size, Nat.sub_zero, Nat.add_sub_cancel, Nat.div_one]
          rw [← List.range_eq_range']
          generalize List.range len = is at h
          clear hu
          induction is with
          | nil => simp
          | cons i is ihf =>
            simp only [keyEs, Bool.and_eq_true] at h
            obtain ⟨h1, h2⟩ := h
            have h3 := ihf h2
            simp only [List.forIn_cons, Sem.run_bind]
            split at h1
            · rename_i u hu
              obtain ⟨y, e1, q⟩ := partA_sound (w := w) hu hr
              have e2 := ih _ _ _ h1 q
              simp only [Sem.run_bind, run_sizeOf hz, e1, Result.andThen_ok, e2, Sem.run_pure]
              exact h3
            · simp at h1
        · simp at h
      · simp at h
    · simp at h

theorem MERels.get : ∀ {es : List ME} {xs : List MapEntry}, MERels μ es xs → ∀ (i : Nat) (e : ME), es[i]? = some e → ∃ x, xs[i]? = some x ∧ MERel μ e x
  | [], xs, h, i, e, he => by simp at he
  | a :: es, xs, h, i, e, he => by
    simp only [MERels] at h
    obtain ⟨y, ys, rfl, p, q⟩ := h
    cases i with
    | zero => simp at he; subst he; exact ⟨y, by simp, p⟩
    | succ i => simp at he; simpa using MERels.get q i e he
theorem MERels.length : ∀ {es : List ME} {xs : List MapEntry}, MERels μ es xs → xs.length = es.length
  | [], xs, h => by simp [MERels] at h; simp [h]
  | a :: es, xs, h => by
    simp only [MERels] at h
    obtain ⟨y, ys, rfl, p, q⟩ := h
    simp [MERels.length q]

/-- What is found, told in the model's words. -/
def FRel (μ : Mu) : Option (Nat × ME) → Option (Nat × Value) → Prop
  | none, r => r = none
  | some (i, e), r => ∃ x, r = some (i, x) ∧ VRel μ e.val x

theorem findAsking_run {kt : TypeId} {k : V} {x : Value} (hx : VRel μ k x) : ∀ (es : List ME) (xs : List MapEntry) (i : Nat) (r : Option (Nat × ME)), findA (eqA P 8 kt k) es i = some r → MERels μ es xs →
    ∃ y, (Instr.findAsking kt x xs i).run P w = .ok y w ∧ FRel μ r y
  | [], xs, i, r, h, hm => by
    simp [findA] at h; subst h
    simp [MERels] at hm; subst hm
    exact ⟨none, by simp [Instr.findAsking], rfl⟩
  | e :: es, xs, i, r, h, hm => by
    simp only [MERels] at hm
    obtain ⟨y, ys, rfl, ⟨p1, p2, p3⟩, q⟩ := hm
    simp only [findA] at h
    cases h1 : eqA P 8 kt k e.key with
    | none => simp [h1] at h
    | some b =>
      have e1 : (Op.equal kt x y.key).run P w = .ok b w := eqA_sound (w := w) 8 10000 (by omega) kt k e.key b x y.key h1 hx p1
      simp only [h1, Option.bind_some] at h
      simp only [Instr.findAsking, Sem.run_bind, e1, Result.andThen_ok, Sem.run_ite]
      cases b with
      | true =>
        simp at h; subst h
        exact ⟨some (i, y.val), by simp, y.val, rfl, p2⟩
      | false =>
        simp at h
        obtain ⟨z, e2, q2⟩ := findAsking_run hx es ys (i + 1) r h q
        exact ⟨z, by simpa using e2, q2⟩

theorem sameNow_eqA {kt : TypeId} {d : TypeDesc} {k v : V} {x y : Value} {b c : Bool} (hu : P.underlying kt = some d) (h : eqA P 8 kt k v = some b) (hx : VRel μ k x) (hy : VRel μ v y) (hs : Instr.sameNow d x y = some c) : c = b := by
  generalize hw : (default : World) = w
  have e1 : (Op.equalIn (7 + 1) kt x y).run P w = .ok b w := eqA_sound (w := w) 8 8 (by omega) kt k v b x y h hx hy
  unfold Instr.sameNow at hs
  split at hs
  · rename_i k1 a k2 b2
    split at hs
    · rename_i hk
      simp at hs; subst hs hk
      rw [run_equalIn_int w 7 kt k1 _ a b2 hu] at e1
      simpa using e1
    · simp at hs
  · rename_i a b2
    simp at hs; subst hs
    rw [run_equalIn_string w 7 kt a b2 hu] at e1
    simp at e1
    rw [beq_toListBytes]; exact e1
  · rename_i a b2
    simp at hs; subst hs
    rw [run_equalIn_bool' w 7 kt a b2 hu] at e1
    simpa using e1
  · simp at hs

theorem findNow_same {kt : TypeId} {d : TypeDesc} {k : V} {x : Value} (hu : P.underlying kt = some d) (hx : VRel μ k x) : ∀ (es : List ME) (xs : List MapEntry) (i : Nat) (r : Option (Nat × ME)) (z : Option (Nat × Value)),
    findA (eqA P 8 kt k) es i = some r → MERels μ es xs → Instr.findNow d x xs i = some z → FRel μ r z
  | [], xs, i, r, z, h, hm, hf => by
    simp [findA] at h; subst h
    simp [MERels] at hm; subst hm
    simp [Instr.findNow] at hf; subst hf; rfl
  | e :: es, xs, i, r, z, h, hm, hf => by
    simp only [MERels] at hm
    obtain ⟨y, ys, rfl, ⟨p1, p2, p3⟩, q⟩ := hm
    simp only [findA] at h
    simp only [Instr.findNow] at hf
    cases h1 : eqA P 8 kt k e.key with
    | none => simp [h1] at h
    | some b =>
      simp only [h1, Option.bind_some] at h
      split at hf
      · rename_i hs
        have := sameNow_eqA hu h1 hx p1 hs
        subst this
        simp at h hf; subst h hf
        exact ⟨_, rfl, p2⟩
      · rename_i hs
        have := sameNow_eqA hu h1 hx p1 hs
        subst this
        simp at h
        exact findNow_same hu hx es ys (i + 1) r z h q hf
      · simp at hf

theorem findKey_run {kt : TypeId} {k : V} {x : Value} {es : List ME} {xs : List MapEntry} {r : Option (Nat × ME)} (h : findM P kt k es = some r) (hx : VRel μ k x) (hm : MERels μ es xs) :
    (∀ b, (Instr.checkKey b 10000 kt x).run P w = .ok () w) ∧ ∃ y, (Instr.findKey kt x xs).run P w = .ok y w ∧ FRel μ r y := by
  unfold findM at h
  split at h
  · rename_i hk
    refine ⟨fun b => checkKey_run 8 10000 (by omega) kt k x hk hx, ?_⟩
    cases hu : P.underlying kt with
    | none => unfold keyV at hk; simp [hu] at hk
    | some d =>
      obtain ⟨y, e1, q⟩ := findAsking_run (w := w) hx es xs 0 r h hm
      unfold Instr.findKey
      simp only [Sem.run_bind, run_und hu, Result.andThen_ok]
      cases hf : Instr.findNow d x xs 0 with
      | none => exact ⟨y, e1, q⟩
      | some z => exact ⟨z, rfl, findNow_same hu hx es xs 0 r z h hm hf⟩
  · simp at h

theorem mapOf_sound (hr : Rel B w0 μ H w) {v : V} {x : Value} {m : Nat × List ME × Nat} (h : mapOf v H = some m) (hx : VRel μ v x) :
    ∃ L xs, μ m.1 = some L ∧ x = .map (some L.b) ∧ H.get m.1 = .map m.2.1 m.2.2 ∧ w.heap[L.b]? = some (.map xs m.2.2) ∧ B ≤ L.b ∧ MERels μ m.2.1 xs.toList := by
  unfold mapOf at h
  split at h
  · rename_i i
    split at h
    · rename_i es clock hg
      simp at h; subst h
      simp only [VRel] at hx
      obtain ⟨L, e1, rfl⟩ := hx
      have ho := hr.objs i L e1
      rw [hg] at ho
      obtain ⟨xs, hb, h2, hm⟩ := ho
      exact ⟨L, xs, e1, rfl, hg, hb, h2, hm⟩
    · simp at h
  · simp at h

theorem getObj_map {b : Nat} {xs : Array MapEntry} {c : Nat} (h : w.heap[b]? = some (.map xs c)) : (getObj b).run P w = .ok (.map xs c) w := by simp only [getObj, Sem.run, h]

theorem lookA_sound (hr : Rel B w0 μ H w) {t : TypeId} {v k r : V} {x y : Value} {ok : Bool} (h : lookA P t v k ok H = some r) (hx : VRel μ v x) (hy : VRel μ k y) :
    ∃ z, (Instr.lookup t x y ok).run P w = .ok z w ∧ VRel μ r z := by
  unfold lookA at h
  split at h
  · rename_i kt et hu
    split at h
    · rename_i z hz
      obtain ⟨z', hz1, hz2⟩ := run_zero (w := w) μ hz
      unfold lookM at h
      cases h1 : entsOf v H with
      | none => simp [h1] at h
      | some es =>
        cases h2 : findM P kt k es with
        | none => simp [h1, h2] at h
        | some r' =>
          simp only [h1, h2, Option.bind_some] at h
          have key : ∀ (xs : Array MapEntry), MERels μ es xs.toList → ∃ q z, (∀ b, (Instr.checkKey b 10000 kt y).run P w = .ok () w) ∧ (Instr.findKey kt y xs.toList).run P w = .ok q w ∧ VRel μ r z ∧
              ((q = none ∧ z = if ok = true then Value.tuple #[z', .bool false] else z') ∨ ∃ i u, q = some (i, u) ∧ z = if ok = true then Value.tuple #[u, .bool true] else u) := by
            intro xs hm
            obtain ⟨hc, q, e1, hf⟩ := findKey_run (w := w) h2 hy hm
            cases r' with
            | none =>
              simp only [FRel] at hf; subst hf
              simp at h; subst h
              refine ⟨none, _, hc, e1, ?_, .inl ⟨rfl, rfl⟩⟩
              cases ok
              · simpa using hz2
              · simp only [if_true, VRel, VRels]; exact ⟨_, rfl, z', _, rfl, hz2, _, _, rfl, rfl, rfl⟩
            | some p =>
              obtain ⟨i, e⟩ := p
              simp only [FRel] at hf
              obtain ⟨u, rfl, hu2⟩ := hf
              simp at h; subst h
              refine ⟨some (i, u), _, hc, e1, ?_, .inr ⟨i, u, rfl, rfl⟩⟩
              cases ok
              · simpa using hu2
              · simp only [if_true, VRel, VRels]; exact ⟨_, rfl, u, _, rfl, hu2, _, _, rfl, rfl, rfl⟩
          unfold entsOf at h1
          split at h1
          · simp at h1; subst h1
            simp only [VRel] at hx; subst hx
            obtain ⟨q, z, hc, e1, hz3, hq⟩ := key #[] (by simp [MERels])
            refine ⟨z, ?_, hz3⟩
            have e1' : (Instr.findKey kt y []).run P w = .ok q w := e1
            rcases hq with ⟨rfl, rfl⟩ | ⟨i, u, rfl, rfl⟩ <;> simp [Instr.lookup, run_und hu, hc, e1', hz1]
          · cases hm : mapOf v H with
            | none => simp [hm] at h1
            | some m =>
              simp [hm] at h1; subst h1
              obtain ⟨L, xs, e0, rfl, hg, hb, _, hrel⟩ := mapOf_sound hr hm hx
              obtain ⟨q, z, hc, e1, hz3, hq⟩ := key xs hrel
              refine ⟨z, ?_, hz3⟩
              rcases hq with ⟨rfl, rfl⟩ | ⟨i, u, rfl, rfl⟩ <;> simp [Instr.lookup, run_und hu, getObj_map hb, hc, e1, hz1]
    · simp at h
  · simp at h

theorem VRels.ofMap {env : Env} {ρ : Operand → Value} (hρ : ∀ x, VRel μ (opd env x) (ρ x)) : ∀ (xs : List Operand), VRels μ (xs.map (opd env)) (xs.map ρ)
  | [] => by simp [VRels]
  | x :: xs => by simp only [List.map_cons, VRels]; exact ⟨_, _, rfl, hρ x, VRels.ofMap hρ xs⟩

theorem VORel.ofMap {env : Env} {ρ : Operand → Value} (hρ : ∀ x, VRel μ (opd env x) (ρ x)) (x : Option Operand) : VORel μ (x.map (opd env)) (x.map ρ) := by
  cases x with
  | none => trivial
  | some x => exact hρ x

theorem run_v {s : Sem Value} {y : Value} (h : s.run P w = .ok y w) : (do pure (Next.value (← s)) : Sem Next).run P w = .ok (.value y) w := by simp [h]

/-- An operation that only looks gives what the machine says. -/
theorem valA_sound (hr : Rel B w0 μ H w) {env : Env} {ρ : Operand → Value} (hρ : ∀ x, VRel μ (opd env x) (ρ x)) {o : Oper} {v : V} (h : valA P env o.op H = some v) :
    ∃ y, (execOp ρ o).run P w = .ok (.value y) w ∧ VRel μ v y := by
  obtain ⟨dst, op, ty, pos, after, guard⟩ := o
  simp only at h
  unfold valA at h
  split at h
  · simp only [Option.some.injEq] at h; subst h
    exact ⟨_, rfl, hρ _⟩
  · simp only [Option.some.injEq] at h; subst h
    exact ⟨_, rfl, hρ _⟩
  · rename_i c a b
    cases hc : opd env c with
    | bool t =>
      rw [hc] at h
      have h2 := hρ c
      rw [hc] at h2
      simp only [VRel] at h2
      simp only [asB, bd_some, Option.some.injEq] at h; subst h
      refine ⟨if t then ρ a else ρ b, ?_, ?_⟩
      · simp [execOp, h2, asBool]
      · cases t
        · simpa using hρ b
        · simpa using hρ a
    | _ => rw [hc] at h; simp [asB] at h
  · rename_i t ps
    obtain ⟨z, e, q⟩ := buildA_sound (P := P) (w := w) hρ h
    exact ⟨z, run_v e, q⟩
  · rename_i t a
    obtain ⟨z, e, q⟩ := loadAt_sound (P := P) hr h (hρ a)
    exact ⟨z, run_v e, q⟩
  · rename_i x
    have hx := hρ x
    unfold nilC at h
    split at h
    · rename_i a e
      simp only [Option.some.injEq] at h; subst h
      rw [e] at hx
      obtain ⟨i, o⟩ := a
      obtain ⟨L, e1, e2, _⟩ := hr.ptr hx
      exact ⟨ρ x, by simp only [execOp]; rw [e2]; rfl, hx⟩
    · simp at h
  · rename_i op t x y u
    obtain ⟨z, e, q⟩ := binA_sound (P := P) (w := w) h (hρ x) (hρ y) x y
    exact ⟨z, run_v e, q⟩
  · rename_i op t x
    obtain ⟨z, e, q⟩ := unA_sound (P := P) (w := w) h (hρ x)
    exact ⟨z, run_v e, q⟩
  · rename_i s d x
    obtain ⟨z, e, q⟩ := convA_sound (P := P) hr h (hρ x)
    exact ⟨z, run_v e, q⟩
  · rename_i t x
    split at h
    · simp at h
    · rename_i d hn hu
      simp only [Option.some.injEq] at h; subst h
      refine ⟨.iface t (ρ x), ?_, by simp only [VRel]; exact ⟨_, rfl, hρ x⟩⟩
      apply run_v
      simp only [Instr.makeInterface, Sem.run_bind, run_und hu, Result.andThen_ok]
      cases d <;> first | exact absurd rfl (hn _) | rfl
    · simp at h
  · rename_i fn fs cs
    split at h
    · rename_i hf
      simp only [Option.some.injEq] at h; subst h
      refine ⟨.func fn (fs.map ρ) (cs.map ρ), rfl, ?_⟩
      simp only [VRel]
      exact ⟨_, _, rfl, hf, by simpa using VRels.ofMap hρ fs.toList, by simpa using VRels.ofMap hρ cs.toList⟩
    · simp at h
  · rename_i t x l hh m
    obtain ⟨z, e, q⟩ := sliceA_sound (P := P) hr h (hρ x) (VORel.ofMap hρ l) (VORel.ofMap hρ hh) (VORel.ofMap hρ m)
    exact ⟨z, run_v e, q⟩
  · rename_i t x f
    obtain ⟨z, e, q⟩ := fieldAddrA_sound (P := P) (w := w) h (hρ x)
    exact ⟨z, run_v e, q⟩
  · rename_i t x f
    obtain ⟨z, e, q⟩ := fieldA_sound (P := P) (w := w) h (hρ x)
    exact ⟨z, run_v e, q⟩
  · rename_i t x i
    obtain ⟨z, e, q⟩ := indexAddrA_sound (P := P) (w := w) h (hρ x) (hρ i)
    exact ⟨z, run_v e, q⟩
  · rename_i t x i
    obtain ⟨z, e, q⟩ := indexA_sound (P := P) (w := w) h (hρ x) (hρ i)
    exact ⟨z, run_v e, q⟩
  · rename_i t x i ok
    obtain ⟨z, e, q⟩ := lookA_sound (P := P) hr h (hρ x) (hρ i)
    exact ⟨z, run_v e, q⟩
  · rename_i x u t ok
    obtain ⟨z, e, q⟩ := assertA_sound (P := P) (w := w) (u := u) h (hρ x)
    exact ⟨z, run_v e, q⟩
  · rename_i x i
    obtain ⟨z, e, q⟩ := extA_sound (P := P) (w := w) h (hρ x)
    exact ⟨z, run_v e, q⟩
  · rename_i args ts
    split at h
    · rename_i x t ha ht
      obtain ⟨z, e, q⟩ := lenA_sound (P := P) (ty := ty) hr ht h (hρ x)
      refine ⟨z, ?_, q⟩
      have hargs : args = #[x] := by apply Array.ext'; simpa using ha
      subst hargs
      simp [execOp, resolve, invoke, builtin, e]
    · simp at h
  · rename_i args ts
    cases hl : args.toList with
    | nil => simp [hl, mmA] at h
    | cons x xs =>
      rw [hl] at h
      simp only [List.map_cons, mmA] at h
      obtain ⟨z, e, q⟩ := mmA_sound (P := P) (w := w) _ _ _ _ _ h (hρ x) (VRels.ofMap hρ xs)
      refine ⟨z, ?_, q⟩
      have : (args.map ρ).toList = ρ x :: xs.map ρ := by simp [hl]
      simp only [execOp, resolve, invoke, builtin, Sem.run_bind, Sem.run_pure, Result.andThen_ok, Builtin.max_, this]
      simp only [if_true] at e
      rw [e]; rfl
  · rename_i args ts
    cases hl : args.toList with
    | nil => simp [hl, mmA] at h
    | cons x xs =>
      rw [hl] at h
      simp only [List.map_cons, mmA] at h
      obtain ⟨z, e, q⟩ := mmA_sound (P := P) (w := w) _ _ _ _ _ h (hρ x) (VRels.ofMap hρ xs)
      refine ⟨z, ?_, q⟩
      have : (args.map ρ).toList = ρ x :: xs.map ρ := by simp [hl]
      simp only [execOp, resolve, invoke, builtin, Sem.run_bind, Sem.run_pure, Result.andThen_ok, Builtin.min_, this]
      simp only [Bool.false_eq_true, if_false] at e
      rw [e]; rfl
  · simp at h
end
end Go.AM
end
