/- Merged by program from: SqI EnA SrD SrH EnB EnC AmFro EsA AmBits NvC NvQ0 NvQ1. -/
import Derived.Laws.Externs
import Derived.Test.YtmpkhfnegnlpmaaGreatX4
section
set_option linter.unusedVariables false
set_option linter.unusedSimpArgs false
set_option linter.unusedSimpArgs false
set_option linter.unusedVariables false
namespace Go.AM
attribute [local congr] bnd_weak ite_weak
def isK (H : Heap) (P : Nat → Prop) (v : V) (n : Int) (d : Nat) : Prop :=
  ∃ σ s τ t, v = .agg [.int .i64 σ, .slice s, .int .i64 τ, .slice t] ∧ isJ H P (.agg [.int .i64 σ, .slice s]) n ∧ isJ H P (.agg [.int .i64 τ, .slice t]) (d : Int) ∧ 0 < d
theorem isK.keep {H H' : Heap} {P : Nat → Prop} {v : V} {n : Int} {d : Nat} (h : isK H P v n d) (c : KeepP P H H') : isK H' P v n d := by
  obtain ⟨σ, s, τ, t, rfl, h1, h2, h3⟩ := h; exact ⟨σ, s, τ, t, rfl, h1.keep c, h2.keep c, h3⟩
theorem isK.mono {H : Heap} {P P' : Nat → Prop} {v : V} {n : Int} {d : Nat} (h : isK H P v n d) (c : ∀ i, i < H.n → P i → P' i) : isK H P' v n d := by
  obtain ⟨σ, s, τ, t, rfl, h1, h2, h3⟩ := h; exact ⟨σ, s, τ, t, rfl, h1.mono c, h2.mono c, h3⟩
theorem r5_long {H : Heap} {P : Nat → Prop} {z : Int} (hP : UpP H P) (hz : -9223372036854775808 ≤ z ∧ z ≤ 9223372036854775807) :
    Tot (fun n => f_ref05_Long n [.int .i64 z] H) fun v H' => Ext0 H H' ∧ isK H' P v z 1 := by
  refine Tot.of fun Q hQ => ?_
  refine ref05_Long_tot ?_
  simp only [ref05_Long_b]
  have hq : ∀ (G : Heap), H.n + 1 ≤ G.n → UpP G (fun i => P i ∧ i ≠ H.n) := fun G hG i hi => ⟨hP i (by omega), by omega⟩
  refine Tot.bind (r4_long (hq _ (by simp)) hz) ?_
  rintro v H1 ⟨c1, i1⟩
  have n1 := c1.n; try simp only [hn_push, hn_set, hn_more] at n1
  obtain ⟨b1, s1, rfl, -⟩ := i1.shape
  dsimp only
  refine Tot.bind (r4_long (z := 1) (hq _ (by omega)) (by omega)) ?_
  rintro v H2 ⟨c2, i2⟩
  have n2 := c2.n; try simp only [hn_push, hn_set, hn_more] at n2
  obtain ⟨b2, s2, rfl, -⟩ := i2.shape
  dsimp only
  repeat (first | refine Tot.pure (by simp (disch := first | omega | (simp only [hn_push, hn_set, hn_more] <;> omega) | fail) [ld1_get, ldN_get, stA_get, boxA, gz, gs, Heap.get_push_ne, Heap.get_push_eq, Heap.get_set_ne, Heap.get_set_eq, get_more, hn_push, hn_set, hn_more, c1.g, c2.g]; try exact rfl) ?_ | refine Tot.chk (by simp (disch := first | omega | (simp only [hn_push, hn_set, hn_more] <;> omega) | fail) [ld1_get, ldN_get, stA_get, boxA, gz, gs, Heap.get_push_ne, Heap.get_push_eq, Heap.get_set_ne, Heap.get_set_eq, get_more, hn_push, hn_set, hn_more, c1.g, c2.g]; done) ?_ | fail)
  refine Tot.ret (hQ _ _ ⟨Keep.ext (by (repeat (first | exact Keep.refl | refine Keep.call ?_ (by assumption) | refine Keep.push ?_ | refine Keep.more ?_ | refine Keep.set ?_ (by first | omega | (simp only [hn_push, hn_set, hn_more] <;> omega) | fail)))), b1, s1, b2, s2, rfl, (i1.keep (by (repeat (first | exact KeepP.refl | refine KeepP.call ?_ (by assumption) | refine KeepP.push ?_ | refine KeepP.more ?_ | refine KeepP.set ?_ (by first | (right; first | omega | (simp only [hn_push, hn_set, hn_more] <;> omega) | fail) | (left; simp; done) | fail))))).mono fun i _ hi => hi.1, (i2.keep (by (repeat (first | exact KeepP.refl | refine KeepP.call ?_ (by assumption) | refine KeepP.push ?_ | refine KeepP.more ?_ | refine KeepP.set ?_ (by first | (right; first | omega | (simp only [hn_push, hn_set, hn_more] <;> omega) | fail) | (left; simp; done) | fail))))).mono fun i _ hi => hi.1, by decide⟩)
theorem r5_of {H : Heap} {P : Nat → Prop} {v : V} {n : Int} {d N : Nat} (hP : UpP H P) (h : rawR H v n d N) (hm : N < 400000000) :
    Tot (fun n => f_ref05_Of n [v] H) fun v H' => Ext0 H H' ∧ isK H' P v (if d = 0 then 0 else n) (if d = 0 then 1 else d) := by
  obtain ⟨b, s, t, l, lt, rfl, r1, r2, hL, hL', hl, hl', rfl, rfl⟩ := h
  refine Tot.of fun Q hQ => ?_
  refine ref05_Of_tot ?_
  simp only [ref05_Of_b]
  have hq : ∀ (G : Heap), H.n + 2 ≤ G.n → UpP G (fun i => P i ∧ i ≠ H.n + 1) := fun G hG i hi => ⟨hP i (by omega), by omega⟩
  repeat (first | refine Tot.pure (by simp (disch := first | omega | (simp only [hn_push, hn_set, hn_more] <;> omega) | fail) [ld1_get, ldN_get, stA_get, boxA, gz, gs, Heap.get_push_ne, Heap.get_push_eq, Heap.get_set_ne, Heap.get_set_eq, get_more, hn_push, hn_set, hn_more, ]; try exact rfl) ?_ | refine Tot.chk (by simp (disch := first | omega | (simp only [hn_push, hn_set, hn_more] <;> omega) | fail) [ld1_get, ldN_get, stA_get, boxA, gz, gs, Heap.get_push_ne, Heap.get_push_eq, Heap.get_set_ne, Heap.get_set_eq, get_more, hn_push, hn_set, hn_more, ]; done) ?_ | fail)
  refine Tot.bind (r_of (r2.keep Fr.zero (by (repeat (first | exact Keep.refl | refine Keep.call ?_ (by assumption) | refine Keep.push ?_ | refine Keep.more ?_ | refine Keep.set ?_ (by first | omega | (simp only [hn_push, hn_set, hn_more] <;> omega) | fail))))) (by omega) hL') ?_
  rintro v H1 ⟨c1, s1, rfl, q1, f1⟩
  have n1 := c1.n; try simp only [hn_push, hn_set, hn_more] at n1
  dsimp only
  repeat (first | refine Tot.pure (by simp (disch := first | omega | (simp only [hn_push, hn_set, hn_more] <;> omega) | fail) [ld1_get, ldN_get, stA_get, boxA, gz, gs, Heap.get_push_ne, Heap.get_push_eq, Heap.get_set_ne, Heap.get_set_eq, get_more, hn_push, hn_set, hn_more, c1.g, q1.lenSl]; try exact rfl) ?_ | refine Tot.chk (by simp (disch := first | omega | (simp only [hn_push, hn_set, hn_more] <;> omega) | fail) [ld1_get, ldN_get, stA_get, boxA, gz, gs, Heap.get_push_ne, Heap.get_push_eq, Heap.get_set_ne, Heap.get_set_eq, get_more, hn_push, hn_set, hn_more, c1.g, q1.lenSl]; done) ?_ | fail)
  refine Tot.ite (fun h2 => ?_) (fun h2 => ?_)
  · have hx : val 4294967296 lt = 0 := by
      rw [← dig_eq_nil (b := 65536) (by decide)]
      exact List.eq_nil_of_length_eq_zero (by simpa using h2)
    rw [if_pos hx, if_pos hx] at hQ
    repeat (first | refine Tot.pure (by simp (disch := first | omega | (simp only [hn_push, hn_set, hn_more] <;> omega) | fail) [ld1_get, ldN_get, stA_get, boxA, gz, gs, Heap.get_push_ne, Heap.get_push_eq, Heap.get_set_ne, Heap.get_set_eq, get_more, hn_push, hn_set, hn_more, c1.g]; try exact rfl) ?_ | refine Tot.chk (by simp (disch := first | omega | (simp only [hn_push, hn_set, hn_more] <;> omega) | fail) [ld1_get, ldN_get, stA_get, boxA, gz, gs, Heap.get_push_ne, Heap.get_push_eq, Heap.get_set_ne, Heap.get_set_eq, get_more, hn_push, hn_set, hn_more, c1.g]; done) ?_ | fail)
    refine Tot.bind (r4_long (z := 1) (hq _ (by omega)) (by omega)) ?_
    rintro v H2 ⟨c2, i2⟩
    have n2 := c2.n; try simp only [hn_push, hn_set, hn_more] at n2
    obtain ⟨b2, s2, rfl, -⟩ := i2.shape
    dsimp only
    repeat (first | refine Tot.pure (by simp (disch := first | omega | (simp only [hn_push, hn_set, hn_more] <;> omega) | fail) [ld1_get, ldN_get, stA_get, boxA, gz, gs, Heap.get_push_ne, Heap.get_push_eq, Heap.get_set_ne, Heap.get_set_eq, get_more, hn_push, hn_set, hn_more, c1.g, c2.g]; try exact rfl) ?_ | refine Tot.chk (by simp (disch := first | omega | (simp only [hn_push, hn_set, hn_more] <;> omega) | fail) [ld1_get, ldN_get, stA_get, boxA, gz, gs, Heap.get_push_ne, Heap.get_push_eq, Heap.get_set_ne, Heap.get_set_eq, get_more, hn_push, hn_set, hn_more, c1.g, c2.g]; done) ?_ | fail)
    refine Tot.ret (hQ _ _ ⟨Keep.ext (by (repeat (first | exact Keep.refl | refine Keep.call ?_ (by assumption) | refine Keep.push ?_ | refine Keep.more ?_ | refine Keep.set ?_ (by first | omega | (simp only [hn_push, hn_set, hn_more] <;> omega) | fail)))), _, _, b2, s2, rfl, isJ.zero, (i2.keep (by (repeat (first | exact KeepP.refl | refine KeepP.call ?_ (by assumption) | refine KeepP.push ?_ | refine KeepP.more ?_ | refine KeepP.set ?_ (by first | (right; first | omega | (simp only [hn_push, hn_set, hn_more] <;> omega) | fail) | (left; simp; done) | fail))))).mono fun i _ hi => hi.1, by decide⟩)
  · have hx : val 4294967296 lt ≠ 0 := by
      intro e; apply h2; rw [e, dig_zero]; simp
    rw [if_neg hx, if_neg hx] at hQ
    repeat (first | refine Tot.pure (by simp (disch := first | omega | (simp only [hn_push, hn_set, hn_more] <;> omega) | fail) [ld1_get, ldN_get, stA_get, boxA, gz, gs, Heap.get_push_ne, Heap.get_push_eq, Heap.get_set_ne, Heap.get_set_eq, get_more, hn_push, hn_set, hn_more, c1.g]; try exact rfl) ?_ | refine Tot.chk (by simp (disch := first | omega | (simp only [hn_push, hn_set, hn_more] <;> omega) | fail) [ld1_get, ldN_get, stA_get, boxA, gz, gs, Heap.get_push_ne, Heap.get_push_eq, Heap.get_set_ne, Heap.get_set_eq, get_more, hn_push, hn_set, hn_more, c1.g]; done) ?_ | fail)
    refine Tot.bind (r4_of (hq _ (by omega)) (r1.keep Fr.zero (by (repeat (first | exact Keep.refl | refine Keep.call ?_ (by assumption) | refine Keep.push ?_ | refine Keep.more ?_ | refine Keep.set ?_ (by first | omega | (simp only [hn_push, hn_set, hn_more] <;> omega) | fail))))) (by omega) hL) ?_
    rintro v H2 ⟨c2, i2⟩
    have n2 := c2.n; try simp only [hn_push, hn_set, hn_more] at n2
    obtain ⟨b2, s2, rfl, -⟩ := i2.shape
    have j1 : isJ H1 (fun i => P i ∧ i ≠ H.n + 1) (.agg [.int .i64 1, .slice s1]) ((val 4294967296 lt : Nat) : Int) :=
      ⟨s1, by rw [Int.sign_eq_one_of_pos (by omega)], by rw [Int.natAbs_natCast]; exact q1, fun i hi => ⟨hP i (by have := f1 i hi; simp at this; omega), by have := f1 i hi; simp at this; omega⟩⟩
    dsimp only
    repeat (first | refine Tot.pure (by simp (disch := first | omega | (simp only [hn_push, hn_set, hn_more] <;> omega) | fail) [ld1_get, ldN_get, stA_get, boxA, gz, gs, Heap.get_push_ne, Heap.get_push_eq, Heap.get_set_ne, Heap.get_set_eq, get_more, hn_push, hn_set, hn_more, c1.g, c2.g]; try exact rfl) ?_ | refine Tot.chk (by simp (disch := first | omega | (simp only [hn_push, hn_set, hn_more] <;> omega) | fail) [ld1_get, ldN_get, stA_get, boxA, gz, gs, Heap.get_push_ne, Heap.get_push_eq, Heap.get_set_ne, Heap.get_set_eq, get_more, hn_push, hn_set, hn_more, c1.g, c2.g]; done) ?_ | fail)
    refine Tot.ret (hQ _ _ ⟨Keep.ext (by (repeat (first | exact Keep.refl | refine Keep.call ?_ (by assumption) | refine Keep.push ?_ | refine Keep.more ?_ | refine Keep.set ?_ (by first | omega | (simp only [hn_push, hn_set, hn_more] <;> omega) | fail)))), b2, s2, 1, s1, rfl, (i2.keep (by (repeat (first | exact KeepP.refl | refine KeepP.call ?_ (by assumption) | refine KeepP.push ?_ | refine KeepP.more ?_ | refine KeepP.set ?_ (by first | (right; first | omega | (simp only [hn_push, hn_set, hn_more] <;> omega) | fail) | (left; simp; done) | fail))))).mono fun i _ hi => hi.1, (j1.keep (by (repeat (first | exact KeepP.refl | refine KeepP.call ?_ (by assumption) | refine KeepP.push ?_ | refine KeepP.more ?_ | refine KeepP.set ?_ (by first | (right; first | omega | (simp only [hn_push, hn_set, hn_more] <;> omega) | fail) | (left; simp; done) | fail))))).mono fun i _ hi => hi.1, by omega⟩)
theorem r5_mul {H : Heap} {P : Nat → Prop} {v w : V} {n m : Int} {d e : Nat} (hP : UpP H P) (h : isK H P v n d) (h' : isK H P w m e) (h1 : (dig 65536 n.natAbs).length + (dig 65536 m.natAbs).length < 1000000000) (h2 : (dig 65536 d).length + (dig 65536 e).length < 1000000000) :
    Tot (fun n => f_ref05_Mul n [v, w] H) fun v H' => Ext0 H H' ∧ isK H' P v (n * m) (d * e) := by
  obtain ⟨σ, s, τ, t, rfl, a1, a2, hd⟩ := h
  obtain ⟨σ', s', τ', t', rfl, b1, b2, he⟩ := h'
  refine Tot.of fun Q hQ => ?_
  refine ref05_Mul_tot ?_
  simp only [ref05_Mul_b]
  have hq : ∀ (G : Heap), H.n + 3 ≤ G.n → UpP G (fun i => P i ∧ i ≠ H.n + 2) := fun G hG i hi => ⟨hP i (by omega), by omega⟩
  have hm : ∀ {v : V} {z : Int}, isJ H P v z → isJ H (fun i => P i ∧ i ≠ H.n + 2) v z := fun h => h.mono fun i hi hp => ⟨hp, by omega⟩
  repeat (first | refine Tot.pure (by simp (disch := first | omega | (simp only [hn_push, hn_set, hn_more] <;> omega) | fail) [ld1_get, ldN_get, stA_get, boxA, gz, gs, Heap.get_push_ne, Heap.get_push_eq, Heap.get_set_ne, Heap.get_set_eq, get_more, hn_push, hn_set, hn_more, ]; try exact rfl) ?_ | refine Tot.chk (by simp (disch := first | omega | (simp only [hn_push, hn_set, hn_more] <;> omega) | fail) [ld1_get, ldN_get, stA_get, boxA, gz, gs, Heap.get_push_ne, Heap.get_push_eq, Heap.get_set_ne, Heap.get_set_eq, get_more, hn_push, hn_set, hn_more, ]; done) ?_ | fail)
  refine Tot.bind (r4_mul (hq _ (by simp)) ((hm a1).keep (by (repeat (first | exact KeepP.refl | refine KeepP.call ?_ (by assumption) | refine KeepP.push ?_ | refine KeepP.more ?_ | refine KeepP.set ?_ (by first | (right; first | omega | (simp only [hn_push, hn_set, hn_more] <;> omega) | fail) | (left; simp; done) | fail))))) ((hm b1).keep (by (repeat (first | exact KeepP.refl | refine KeepP.call ?_ (by assumption) | refine KeepP.push ?_ | refine KeepP.more ?_ | refine KeepP.set ?_ (by first | (right; first | omega | (simp only [hn_push, hn_set, hn_more] <;> omega) | fail) | (left; simp; done) | fail))))) h1) ?_
  rintro v H1 ⟨c1, i1⟩
  have n1 := c1.n; try simp only [hn_push, hn_set, hn_more] at n1
  obtain ⟨p1, q1, rfl, -⟩ := i1.shape
  dsimp only
  repeat (first | refine Tot.pure (by simp (disch := first | omega | (simp only [hn_push, hn_set, hn_more] <;> omega) | fail) [ld1_get, ldN_get, stA_get, boxA, gz, gs, Heap.get_push_ne, Heap.get_push_eq, Heap.get_set_ne, Heap.get_set_eq, get_more, hn_push, hn_set, hn_more, c1.g]; try exact rfl) ?_ | refine Tot.chk (by simp (disch := first | omega | (simp only [hn_push, hn_set, hn_more] <;> omega) | fail) [ld1_get, ldN_get, stA_get, boxA, gz, gs, Heap.get_push_ne, Heap.get_push_eq, Heap.get_set_ne, Heap.get_set_eq, get_more, hn_push, hn_set, hn_more, c1.g]; done) ?_ | fail)
  refine Tot.bind (r4_mul (hq _ (by omega)) ((hm a2).keep (by (repeat (first | exact KeepP.refl | refine KeepP.call ?_ (by assumption) | refine KeepP.push ?_ | refine KeepP.more ?_ | refine KeepP.set ?_ (by first | (right; first | omega | (simp only [hn_push, hn_set, hn_more] <;> omega) | fail) | (left; simp; done) | fail))))) ((hm b2).keep (by (repeat (first | exact KeepP.refl | refine KeepP.call ?_ (by assumption) | refine KeepP.push ?_ | refine KeepP.more ?_ | refine KeepP.set ?_ (by first | (right; first | omega | (simp only [hn_push, hn_set, hn_more] <;> omega) | fail) | (left; simp; done) | fail))))) (by rw [Int.natAbs_natCast, Int.natAbs_natCast]; exact h2)) ?_
  rintro v H2 ⟨c2, i2⟩
  have n2 := c2.n; try simp only [hn_push, hn_set, hn_more] at n2
  obtain ⟨p2, q2, rfl, -⟩ := i2.shape
  rw [← Int.natCast_mul] at i2
  dsimp only
  repeat (first | refine Tot.pure (by simp (disch := first | omega | (simp only [hn_push, hn_set, hn_more] <;> omega) | fail) [ld1_get, ldN_get, stA_get, boxA, gz, gs, Heap.get_push_ne, Heap.get_push_eq, Heap.get_set_ne, Heap.get_set_eq, get_more, hn_push, hn_set, hn_more, c1.g, c2.g]; try exact rfl) ?_ | refine Tot.chk (by simp (disch := first | omega | (simp only [hn_push, hn_set, hn_more] <;> omega) | fail) [ld1_get, ldN_get, stA_get, boxA, gz, gs, Heap.get_push_ne, Heap.get_push_eq, Heap.get_set_ne, Heap.get_set_eq, get_more, hn_push, hn_set, hn_more, c1.g, c2.g]; done) ?_ | fail)
  refine Tot.ret (hQ _ _ ⟨Keep.ext (by (repeat (first | exact Keep.refl | refine Keep.call ?_ (by assumption) | refine Keep.push ?_ | refine Keep.more ?_ | refine Keep.set ?_ (by first | omega | (simp only [hn_push, hn_set, hn_more] <;> omega) | fail)))), p1, q1, p2, q2, rfl, (i1.keep (by (repeat (first | exact KeepP.refl | refine KeepP.call ?_ (by assumption) | refine KeepP.push ?_ | refine KeepP.more ?_ | refine KeepP.set ?_ (by first | (right; first | omega | (simp only [hn_push, hn_set, hn_more] <;> omega) | fail) | (left; simp; done) | fail))))).mono fun i _ hi => hi.1, (i2.keep (by (repeat (first | exact KeepP.refl | refine KeepP.call ?_ (by assumption) | refine KeepP.push ?_ | refine KeepP.more ?_ | refine KeepP.set ?_ (by first | (right; first | omega | (simp only [hn_push, hn_set, hn_more] <;> omega) | fail) | (left; simp; done) | fail))))).mono fun i _ hi => hi.1, Nat.mul_pos hd he⟩)
theorem rsz_mul {x y : Nat} : (dig 65536 (x * y)).length ≤ (dig 65536 x).length + (dig 65536 y).length := by
  apply dig_len_le (by decide)
  rw [Nat.pow_add]
  exact Nat.mul_lt_mul_of_lt_of_le (dig_len_lt (by decide)) (Nat.le_of_lt (dig_len_lt (by decide))) (by have := Nat.pow_pos (n := (dig 65536 y).length) (show 0 < 65536 by decide); omega)
set_option maxHeartbeats 1000000 in
theorem r5_add {H : Heap} {P : Nat → Prop} {v w : V} {n m : Int} {d e : Nat} (hP : UpP H P) (h : isK H P v n d) (h' : isK H P w m e) (h1 : (dig 65536 n.natAbs).length < 10000000) (h2 : (dig 65536 m.natAbs).length < 10000000) (h3 : (dig 65536 d).length < 10000000) (h4 : (dig 65536 e).length < 10000000) :
    Tot (fun n => f_ref05_Add n [v, w] H) fun v H' => Ext0 H H' ∧ isK H' P v (n * e + m * d) (d * e) := by
  obtain ⟨σ, s, τ, t, rfl, a1, a2, hd⟩ := h
  obtain ⟨σ', s', τ', t', rfl, b1, b2, he⟩ := h'
  refine Tot.of fun Q hQ => ?_
  refine ref05_Add_tot ?_
  simp only [ref05_Add_b]
  have hq : ∀ (G : Heap), H.n + 3 ≤ G.n → UpP G (fun i => P i ∧ i ≠ H.n + 2) := fun G hG i hi => ⟨hP i (by omega), by omega⟩
  have hm : ∀ {v : V} {z : Int}, isJ H P v z → isJ H (fun i => P i ∧ i ≠ H.n + 2) v z := fun h => h.mono fun i hi hp => ⟨hp, by omega⟩
  repeat (first | refine Tot.pure (by simp (disch := first | omega | (simp only [hn_push, hn_set, hn_more] <;> omega) | fail) [ld1_get, ldN_get, stA_get, boxA, gz, gs, Heap.get_push_ne, Heap.get_push_eq, Heap.get_set_ne, Heap.get_set_eq, get_more, hn_push, hn_set, hn_more, ]; try exact rfl) ?_ | refine Tot.chk (by simp (disch := first | omega | (simp only [hn_push, hn_set, hn_more] <;> omega) | fail) [ld1_get, ldN_get, stA_get, boxA, gz, gs, Heap.get_push_ne, Heap.get_push_eq, Heap.get_set_ne, Heap.get_set_eq, get_more, hn_push, hn_set, hn_more, ]; done) ?_ | fail)
  refine Tot.bind (r4_mul (hq _ (by simp)) ((hm a1).keep (by (repeat (first | exact KeepP.refl | refine KeepP.call ?_ (by assumption) | refine KeepP.push ?_ | refine KeepP.more ?_ | refine KeepP.set ?_ (by first | (right; first | omega | (simp only [hn_push, hn_set, hn_more] <;> omega) | fail) | (left; simp; done) | fail))))) ((hm b2).keep (by (repeat (first | exact KeepP.refl | refine KeepP.call ?_ (by assumption) | refine KeepP.push ?_ | refine KeepP.more ?_ | refine KeepP.set ?_ (by first | (right; first | omega | (simp only [hn_push, hn_set, hn_more] <;> omega) | fail) | (left; simp; done) | fail))))) (by rw [Int.natAbs_natCast]; omega)) ?_
  rintro v H1 ⟨c1, i1⟩
  have n1 := c1.n; try simp only [hn_push, hn_set, hn_more] at n1
  obtain ⟨p1, q1, rfl, -⟩ := i1.shape
  dsimp only
  repeat (first | refine Tot.pure (by simp (disch := first | omega | (simp only [hn_push, hn_set, hn_more] <;> omega) | fail) [ld1_get, ldN_get, stA_get, boxA, gz, gs, Heap.get_push_ne, Heap.get_push_eq, Heap.get_set_ne, Heap.get_set_eq, get_more, hn_push, hn_set, hn_more, c1.g]; try exact rfl) ?_ | refine Tot.chk (by simp (disch := first | omega | (simp only [hn_push, hn_set, hn_more] <;> omega) | fail) [ld1_get, ldN_get, stA_get, boxA, gz, gs, Heap.get_push_ne, Heap.get_push_eq, Heap.get_set_ne, Heap.get_set_eq, get_more, hn_push, hn_set, hn_more, c1.g]; done) ?_ | fail)
  refine Tot.bind (r4_mul (hq _ (by omega)) ((hm b1).keep (by (repeat (first | exact KeepP.refl | refine KeepP.call ?_ (by assumption) | refine KeepP.push ?_ | refine KeepP.more ?_ | refine KeepP.set ?_ (by first | (right; first | omega | (simp only [hn_push, hn_set, hn_more] <;> omega) | fail) | (left; simp; done) | fail))))) ((hm a2).keep (by (repeat (first | exact KeepP.refl | refine KeepP.call ?_ (by assumption) | refine KeepP.push ?_ | refine KeepP.more ?_ | refine KeepP.set ?_ (by first | (right; first | omega | (simp only [hn_push, hn_set, hn_more] <;> omega) | fail) | (left; simp; done) | fail))))) (by rw [Int.natAbs_natCast]; omega)) ?_
  rintro v H2 ⟨c2, i2⟩
  have n2 := c2.n; try simp only [hn_push, hn_set, hn_more] at n2
  obtain ⟨p2, q2, rfl, -⟩ := i2.shape
  dsimp only
  repeat (first | refine Tot.pure (by simp (disch := first | omega | (simp only [hn_push, hn_set, hn_more] <;> omega) | fail) [ld1_get, ldN_get, stA_get, boxA, gz, gs, Heap.get_push_ne, Heap.get_push_eq, Heap.get_set_ne, Heap.get_set_eq, get_more, hn_push, hn_set, hn_more, c1.g, c2.g]; try exact rfl) ?_ | refine Tot.chk (by simp (disch := first | omega | (simp only [hn_push, hn_set, hn_more] <;> omega) | fail) [ld1_get, ldN_get, stA_get, boxA, gz, gs, Heap.get_push_ne, Heap.get_push_eq, Heap.get_set_ne, Heap.get_set_eq, get_more, hn_push, hn_set, hn_more, c1.g, c2.g]; done) ?_ | fail)
  have z1 := rsz_mul (x := n.natAbs) (y := e)
  have z2 := rsz_mul (x := m.natAbs) (y := d)
  rw [← Int.natAbs_natCast e, ← Int.natAbs_mul, Int.natAbs_natCast] at z1
  rw [← Int.natAbs_natCast d, ← Int.natAbs_mul, Int.natAbs_natCast] at z2
  refine Tot.bind (r4_add (hq _ (by omega)) (i1.keep (by (repeat (first | exact KeepP.refl | refine KeepP.call ?_ (by assumption) | refine KeepP.push ?_ | refine KeepP.more ?_ | refine KeepP.set ?_ (by first | (right; first | omega | (simp only [hn_push, hn_set, hn_more] <;> omega) | fail) | (left; simp; done) | fail))))) i2 (by omega) (by omega)) ?_
  rintro v H3 ⟨c3, i3⟩
  have n3 := c3.n; try simp only [hn_push, hn_set, hn_more] at n3
  obtain ⟨p3, q3, rfl, -⟩ := i3.shape
  dsimp only
  repeat (first | refine Tot.pure (by simp (disch := first | omega | (simp only [hn_push, hn_set, hn_more] <;> omega) | fail) [ld1_get, ldN_get, stA_get, boxA, gz, gs, Heap.get_push_ne, Heap.get_push_eq, Heap.get_set_ne, Heap.get_set_eq, get_more, hn_push, hn_set, hn_more, c1.g, c2.g, c3.g]; try exact rfl) ?_ | refine Tot.chk (by simp (disch := first | omega | (simp only [hn_push, hn_set, hn_more] <;> omega) | fail) [ld1_get, ldN_get, stA_get, boxA, gz, gs, Heap.get_push_ne, Heap.get_push_eq, Heap.get_set_ne, Heap.get_set_eq, get_more, hn_push, hn_set, hn_more, c1.g, c2.g, c3.g]; done) ?_ | fail)
  refine Tot.bind (r4_mul (hq _ (by omega)) ((hm a2).keep (by (repeat (first | exact KeepP.refl | refine KeepP.call ?_ (by assumption) | refine KeepP.push ?_ | refine KeepP.more ?_ | refine KeepP.set ?_ (by first | (right; first | omega | (simp only [hn_push, hn_set, hn_more] <;> omega) | fail) | (left; simp; done) | fail))))) ((hm b2).keep (by (repeat (first | exact KeepP.refl | refine KeepP.call ?_ (by assumption) | refine KeepP.push ?_ | refine KeepP.more ?_ | refine KeepP.set ?_ (by first | (right; first | omega | (simp only [hn_push, hn_set, hn_more] <;> omega) | fail) | (left; simp; done) | fail))))) (by rw [Int.natAbs_natCast, Int.natAbs_natCast]; omega)) ?_
  rintro v H4 ⟨c4, i4⟩
  have n4 := c4.n; try simp only [hn_push, hn_set, hn_more] at n4
  obtain ⟨p4, q4, rfl, -⟩ := i4.shape
  rw [← Int.natCast_mul] at i4
  dsimp only
  repeat (first | refine Tot.pure (by simp (disch := first | omega | (simp only [hn_push, hn_set, hn_more] <;> omega) | fail) [ld1_get, ldN_get, stA_get, boxA, gz, gs, Heap.get_push_ne, Heap.get_push_eq, Heap.get_set_ne, Heap.get_set_eq, get_more, hn_push, hn_set, hn_more, c1.g, c2.g, c3.g, c4.g]; try exact rfl) ?_ | refine Tot.chk (by simp (disch := first | omega | (simp only [hn_push, hn_set, hn_more] <;> omega) | fail) [ld1_get, ldN_get, stA_get, boxA, gz, gs, Heap.get_push_ne, Heap.get_push_eq, Heap.get_set_ne, Heap.get_set_eq, get_more, hn_push, hn_set, hn_more, c1.g, c2.g, c3.g, c4.g]; done) ?_ | fail)
  refine Tot.ret (hQ _ _ ⟨Keep.ext (by (repeat (first | exact Keep.refl | refine Keep.call ?_ (by assumption) | refine Keep.push ?_ | refine Keep.more ?_ | refine Keep.set ?_ (by first | omega | (simp only [hn_push, hn_set, hn_more] <;> omega) | fail)))), p3, q3, p4, q4, rfl, (i3.keep (by (repeat (first | exact KeepP.refl | refine KeepP.call ?_ (by assumption) | refine KeepP.push ?_ | refine KeepP.more ?_ | refine KeepP.set ?_ (by first | (right; first | omega | (simp only [hn_push, hn_set, hn_more] <;> omega) | fail) | (left; simp; done) | fail))))).mono fun i _ hi => hi.1, (i4.keep (by (repeat (first | exact KeepP.refl | refine KeepP.call ?_ (by assumption) | refine KeepP.push ?_ | refine KeepP.more ?_ | refine KeepP.set ?_ (by first | (right; first | omega | (simp only [hn_push, hn_set, hn_more] <;> omega) | fail) | (left; simp; done) | fail))))).mono fun i _ hi => hi.1, Nat.mul_pos hd he⟩)
theorem r5_low {H : Heap} {P : Nat → Prop} {v : V} {n : Int} {d : Nat} (hP : UpP H P) (h : isK H P v n d) (h1 : (dig 65536 n.natAbs).length < 10000000) (h2 : (dig 65536 d).length < 10000000) :
    Tot (fun n => f_ref05_Low n [v] H) fun v H' => Ext0 H H' ∧ isK H' P v (lowN n d) (lowD n d) := by
  obtain ⟨σ, s, τ, t, rfl, a1, a2, hd⟩ := h
  obtain ⟨_, _, e1, hσ, r1, f1⟩ := a1.shape
  simp at e1; obtain ⟨rfl, rfl⟩ := e1
  obtain ⟨_, _, e2, hτ, r2, f2⟩ := a2.shape
  simp at e2; obtain ⟨rfl, rfl⟩ := e2
  rw [Int.natAbs_natCast] at r2
  have sx := sign_cases n
  rw [← hσ] at sx
  have hg0 : 0 < Nat.gcd n.natAbs d := Nat.gcd_pos_of_pos_right _ hd
  refine Tot.of fun Q hQ => ?_
  refine ref05_Low_tot ?_
  simp only [ref05_Low_b]
  have hq : ∀ (G : Heap), H.n + 2 ≤ G.n → UpP G (fun i => P i ∧ i ≠ H.n + 1) := fun G hG i hi => ⟨hP i (by omega), by omega⟩
  repeat (first | refine Tot.pure (by simp (disch := first | omega | (simp only [hn_push, hn_set, hn_more] <;> omega) | fail) [ld1_get, ldN_get, stA_get, boxA, gz, gs, Heap.get_push_ne, Heap.get_push_eq, Heap.get_set_ne, Heap.get_set_eq, get_more, hn_push, hn_set, hn_more, ]; try exact rfl) ?_ | refine Tot.chk (by simp (disch := first | omega | (simp only [hn_push, hn_set, hn_more] <;> omega) | fail) [ld1_get, ldN_get, stA_get, boxA, gz, gs, Heap.get_push_ne, Heap.get_push_eq, Heap.get_set_ne, Heap.get_set_eq, get_more, hn_push, hn_set, hn_more, ]; done) ?_ | fail)
  refine Tot.ite (fun h0 => ?_) (fun h0 => ?_)
  · have h0' := of_decide_eq_true h0
    have hn : n = 0 := by omega
    subst hn
    rw [low_zero.1, low_zero.2] at hQ
    repeat (first | refine Tot.pure (by simp (disch := first | omega | (simp only [hn_push, hn_set, hn_more] <;> omega) | fail) [ld1_get, ldN_get, stA_get, boxA, gz, gs, Heap.get_push_ne, Heap.get_push_eq, Heap.get_set_ne, Heap.get_set_eq, get_more, hn_push, hn_set, hn_more, ]; try exact rfl) ?_ | refine Tot.chk (by simp (disch := first | omega | (simp only [hn_push, hn_set, hn_more] <;> omega) | fail) [ld1_get, ldN_get, stA_get, boxA, gz, gs, Heap.get_push_ne, Heap.get_push_eq, Heap.get_set_ne, Heap.get_set_eq, get_more, hn_push, hn_set, hn_more, ]; done) ?_ | fail)
    refine Tot.bind (r4_long (z := 1) (hq _ (by simp)) (by omega)) ?_
    rintro v H2 ⟨c2, i2⟩
    have n2 := c2.n; try simp only [hn_push, hn_set, hn_more] at n2
    obtain ⟨b2, s2, rfl, -⟩ := i2.shape
    dsimp only
    repeat (first | refine Tot.pure (by simp (disch := first | omega | (simp only [hn_push, hn_set, hn_more] <;> omega) | fail) [ld1_get, ldN_get, stA_get, boxA, gz, gs, Heap.get_push_ne, Heap.get_push_eq, Heap.get_set_ne, Heap.get_set_eq, get_more, hn_push, hn_set, hn_more, c2.g]; try exact rfl) ?_ | refine Tot.chk (by simp (disch := first | omega | (simp only [hn_push, hn_set, hn_more] <;> omega) | fail) [ld1_get, ldN_get, stA_get, boxA, gz, gs, Heap.get_push_ne, Heap.get_push_eq, Heap.get_set_ne, Heap.get_set_eq, get_more, hn_push, hn_set, hn_more, c2.g]; done) ?_ | fail)
    refine Tot.ret (hQ _ _ ⟨Keep.ext (by (repeat (first | exact Keep.refl | refine Keep.call ?_ (by assumption) | refine Keep.push ?_ | refine Keep.more ?_ | refine Keep.set ?_ (by first | omega | (simp only [hn_push, hn_set, hn_more] <;> omega) | fail)))), _, _, b2, s2, rfl, isJ.zero, (i2.keep (by (repeat (first | exact KeepP.refl | refine KeepP.call ?_ (by assumption) | refine KeepP.push ?_ | refine KeepP.more ?_ | refine KeepP.set ?_ (by first | (right; first | omega | (simp only [hn_push, hn_set, hn_more] <;> omega) | fail) | (left; simp; done) | fail))))).mono fun i _ hi => hi.1, by decide⟩)
  · have h0' : σ ≠ 0 := by simpa using h0
    have hn : n ≠ 0 := by omega
    repeat (first | refine Tot.pure (by simp (disch := first | omega | (simp only [hn_push, hn_set, hn_more] <;> omega) | fail) [ld1_get, ldN_get, stA_get, boxA, gz, gs, Heap.get_push_ne, Heap.get_push_eq, Heap.get_set_ne, Heap.get_set_eq, get_more, hn_push, hn_set, hn_more, ]; try exact rfl) ?_ | refine Tot.chk (by simp (disch := first | omega | (simp only [hn_push, hn_set, hn_more] <;> omega) | fail) [ld1_get, ldN_get, stA_get, boxA, gz, gs, Heap.get_push_ne, Heap.get_push_eq, Heap.get_set_ne, Heap.get_set_eq, get_more, hn_push, hn_set, hn_more, ]; done) ?_ | fail)
    refine Tot.bind (r_gcd (r1.ext (Keep.ext (by (repeat (first | exact Keep.refl | refine Keep.call ?_ (by assumption) | refine Keep.push ?_ | refine Keep.more ?_ | refine Keep.set ?_ (by first | omega | (simp only [hn_push, hn_set, hn_more] <;> omega) | fail)))))) (r2.ext (Keep.ext (by (repeat (first | exact Keep.refl | refine Keep.call ?_ (by assumption) | refine Keep.push ?_ | refine Keep.more ?_ | refine Keep.set ?_ (by first | omega | (simp only [hn_push, hn_set, hn_more] <;> omega) | fail)))))) (by omega) (by omega)) ?_
    rintro v H1 ⟨c1, s1, rfl, q1⟩
    have n1 := c1.n; try simp only [hn_push, hn_set, hn_more] at n1
    have hgd : Nat.gcd n.natAbs d ≤ d := Nat.gcd_le_right _ hd
    have hgz := rsz_mono hgd
    have hgn := Nat.gcd_dvd_left n.natAbs d
    have hgc : Nat.gcd n.natAbs d = Nat.gcd n.natAbs d := rfl
    have eN : lowN n d = sgn (decide (n < 0)) (n.natAbs / Nat.gcd n.natAbs d) := by rw [lowN, if_neg (by omega)]
    have eD : lowD n d = d / Nat.gcd n.natAbs d := by rw [lowD, if_neg (by omega)]
    have hDp := lowD_pos (n := n) (d := d)
    generalize Nat.gcd n.natAbs d = g at *
    dsimp only
    repeat (first | refine Tot.pure (by simp (disch := first | omega | (simp only [hn_push, hn_set, hn_more] <;> omega) | fail) [ld1_get, ldN_get, stA_get, boxA, gz, gs, Heap.get_push_ne, Heap.get_push_eq, Heap.get_set_ne, Heap.get_set_eq, get_more, hn_push, hn_set, hn_more, c1.g]; try exact rfl) ?_ | refine Tot.chk (by simp (disch := first | omega | (simp only [hn_push, hn_set, hn_more] <;> omega) | fail) [ld1_get, ldN_get, stA_get, boxA, gz, gs, Heap.get_push_ne, Heap.get_push_eq, Heap.get_set_ne, Heap.get_set_eq, get_more, hn_push, hn_set, hn_more, c1.g]; done) ?_ | fail)
    refine Tot.bind (r_divmod (r1.ext (Keep.ext (by (repeat (first | exact Keep.refl | refine Keep.call ?_ (by assumption) | refine Keep.push ?_ | refine Keep.more ?_ | refine Keep.set ?_ (by first | omega | (simp only [hn_push, hn_set, hn_more] <;> omega) | fail)))))) q1 (by omega) (by omega) hg0) ?_
    rintro v H2 ⟨c2, s2, s3, rfl, q2, -, f3, -⟩
    have n2 := c2.n; try simp only [hn_push, hn_set, hn_more] at n2
    dsimp only
    repeat (first | refine Tot.pure (by simp (disch := first | omega | (simp only [hn_push, hn_set, hn_more] <;> omega) | fail) [ld1_get, ldN_get, stA_get, boxA, gz, gs, Heap.get_push_ne, Heap.get_push_eq, Heap.get_set_ne, Heap.get_set_eq, get_more, hn_push, hn_set, hn_more, c1.g, c2.g]; try exact rfl) ?_ | refine Tot.chk (by simp (disch := first | omega | (simp only [hn_push, hn_set, hn_more] <;> omega) | fail) [ld1_get, ldN_get, stA_get, boxA, gz, gs, Heap.get_push_ne, Heap.get_push_eq, Heap.get_set_ne, Heap.get_set_eq, get_more, hn_push, hn_set, hn_more, c1.g, c2.g]; done) ?_ | fail)
    refine Tot.bind (r_divmod (r2.ext (Keep.ext (by (repeat (first | exact Keep.refl | refine Keep.call ?_ (by assumption) | refine Keep.push ?_ | refine Keep.more ?_ | refine Keep.set ?_ (by first | omega | (simp only [hn_push, hn_set, hn_more] <;> omega) | fail)))))) (q1.ext c2) (by omega) (by omega) hg0) ?_
    rintro v H3 ⟨c3, s4, s5, rfl, q4, -, f5, -⟩
    have n3 := c3.n; try simp only [hn_push, hn_set, hn_more] at n3
    dsimp only
    repeat (first | refine Tot.pure (by simp (disch := first | omega | (simp only [hn_push, hn_set, hn_more] <;> omega) | fail) [ld1_get, ldN_get, stA_get, boxA, gz, gs, Heap.get_push_ne, Heap.get_push_eq, Heap.get_set_ne, Heap.get_set_eq, get_more, hn_push, hn_set, hn_more, c1.g, c2.g, c3.g]; try exact rfl) ?_ | refine Tot.chk (by simp (disch := first | omega | (simp only [hn_push, hn_set, hn_more] <;> omega) | fail) [ld1_get, ldN_get, stA_get, boxA, gz, gs, Heap.get_push_ne, Heap.get_push_eq, Heap.get_set_ne, Heap.get_set_eq, get_more, hn_push, hn_set, hn_more, c1.g, c2.g, c3.g]; done) ?_ | fail)
    have hqn : n.natAbs / g ≠ 0 := by
      have := Nat.div_pos (Nat.le_of_dvd (by omega) hgn) hg0
      omega
    have hqp : (0 : Int) < ((n.natAbs / g : Nat) : Int) := Int.natCast_pos.2 (Nat.pos_of_ne_zero hqn)
    refine Tot.ret (hQ _ _ ⟨Keep.ext (by (repeat (first | exact Keep.refl | refine Keep.call ?_ (by assumption) | refine Keep.push ?_ | refine Keep.more ?_ | refine Keep.set ?_ (by first | omega | (simp only [hn_push, hn_set, hn_more] <;> omega) | fail)))), σ, s2, 1, s4, rfl, ⟨s2, ?_, ?_, fun i hi => hP i (by have := f3 i hi; omega)⟩, ⟨s4, ?_, ?_, fun i hi => hP i (by have := f5 i hi; omega)⟩, hDp⟩)
    · have : (lowN n d).sign = σ := by
        rw [eN]
        rcases sx with ⟨x1, x2⟩ | ⟨x1, x2⟩ | ⟨x1, x2⟩
        · rw [sgn, if_pos (by simpa using x2), Int.sign_neg, Int.sign_eq_one_of_pos hqp, x1]
        · omega
        · rw [sgn, if_neg (by simp; omega), Int.sign_eq_one_of_pos hqp, x1]
      rw [this]
    · rw [eN, sgn_abs]; exact q2.keep (lo := H1.n) f3 (by (repeat (first | exact Keep.refl | refine Keep.call ?_ (by assumption) | refine Keep.push ?_ | refine Keep.more ?_ | refine Keep.set ?_ (by first | omega | (simp only [hn_push, hn_set, hn_more] <;> omega) | fail))))
    · rw [Int.sign_eq_one_of_pos (by omega)]
    · rw [Int.natAbs_natCast, eD]; exact q4.keep (lo := H2.n) f5 (by (repeat (first | exact Keep.refl | refine Keep.call ?_ (by assumption) | refine Keep.push ?_ | refine Keep.more ?_ | refine Keep.set ?_ (by first | omega | (simp only [hn_push, hn_set, hn_more] <;> omega) | fail))))
end Go.AM
end
section
set_option linter.unusedVariables false
set_option linter.unusedSimpArgs false
set_option linter.unusedSimpArgs false
set_option linter.unusedVariables false
namespace Go.AM
def digF (b : Nat) : Nat → Nat → List Nat
  | 0, _ => []
  | f + 1, x => if x = 0 then [] else x % b :: digF b f (x / b)
def digK (b x : Nat) : List Nat := digF b (x.log2 + 1) x
theorem digF_eq {b : Nat} (hb : 2 ≤ b) : ∀ (f x : Nat), x < 2 ^ f → digF b f x = dig b x
  | 0, x, h => by
    have : x = 0 := by simpa using h
    subst this; simp [digF, dig_zero]
  | f + 1, x, h => by
    unfold digF
    split
    · subst_vars; rw [dig_zero]
    · rename_i hx
      rw [dig_pos hb hx, digF_eq hb f (x / b)]
      rw [Nat.div_lt_iff_lt_mul (by omega)]
      rw [Nat.pow_succ] at h
      exact Nat.lt_of_lt_of_le h (Nat.mul_le_mul_left _ hb)
theorem digK_eq {b x : Nat} (hb : 2 ≤ b) : digK b x = dig b x := digF_eq hb _ _ Nat.lt_log2_self
def encN (k : IntKind) (l : List Nat) : V := if l.length = 0 then .list 0 0 [] else .list l.length 1 (nums k l)
def natW (x : Nat) : V := encN .u32 (digK 4294967296 x)
def intW (z : Int) : V := .agg [.bool (decide (z < 0)), natW z.natAbs]
def ratW (n : Int) (d : Nat) : V := .agg [.bool (decide (n < 0)), natW n.natAbs, natW d]
def natD (x : Nat) : V := encN .i64 (digK 65536 x)
def intD (z : Int) : V := .agg [.int .i64 z.sign, natD z.natAbs]
def ratD (n : Int) (d : Nat) : V := .agg [.int .i64 n.sign, natD n.natAbs, .int .i64 (d : Int).sign, natD d]
def unI (k : IntKind) (b : Nat) : V → Option Nat
  | .int k' n => if k' = k ∧ 0 ≤ n ∧ n < b then some n.toNat else none
  | _ => none
def unIs (k : IntKind) (b : Nat) : List V → Option (List Nat)
  | [] => some []
  | v :: vs => match unI k b v with
    | some x => match unIs k b vs with
      | some l => some (x :: l)
      | none => none
    | none => none
def decL (k : IntKind) (b : Nat) : V → Option (List Nat)
  | .list n z cs => if (n = 0 ∨ z = 1) ∧ cs.length = n ∧ n < 1000000 then unIs k b cs else none
  | _ => none
theorem unIs_num {k : IntKind} {b : Nat} : ∀ {vs : List V} {l : List Nat}, unIs k b vs = some l → vs = nums k l ∧ Lim b l
  | [], l, h => by simp [unIs] at h; subst h; exact ⟨rfl, Lim.nil⟩
  | v :: vs, l, h => by
    unfold unIs at h
    split at h
    · rename_i x hx
      split at h
      · rename_i q hq
        simp at h; subst h
        obtain ⟨e, hl⟩ := unIs_num hq
        unfold unI at hx
        split at hx
        · split at hx
          · rename_i hc
            obtain ⟨rfl, h0, h1⟩ := hc
            simp at hx; subst hx
            refine ⟨?_, Lim.cons.2 ⟨by omega, hl⟩⟩
            rw [e]; simp only [nums, List.map_cons]; congr 2; omega
          · cases hx
        · cases hx
      · cases h
    · cases h
theorem unIs_nums {k : IntKind} {b : Nat} : ∀ {l : List Nat}, Lim b l → unIs k b (nums k l) = some l
  | [], _ => rfl
  | x :: l, h => by
    rw [Lim.cons] at h
    have := unIs_nums (k := k) h.2
    simp only [nums, List.map_cons, unIs, unI] at this ⊢
    rw [if_pos ⟨trivial, by omega, by omega⟩]
    simp only [Int.toNat_natCast, this]
theorem decL_enc {k : IntKind} {b : Nat} {l : List Nat} (h : Lim b l) (hm : l.length < 1000000) : decL k b (encN k l) = some l := by
  unfold encN
  split
  · rename_i h0
    have : l = [] := List.eq_nil_of_length_eq_zero h0
    subst this; rfl
  · simp only [decL]
    rw [if_pos ⟨.inr trivial, by simp, hm⟩]
    exact unIs_nums h
theorem nums_plain {k : IntKind} {l : List Nat} : (nums k l).all V.plain1 = true := by
  rw [List.all_eq_true]; intro v hv
  obtain ⟨x, _, rfl⟩ := List.mem_map.1 hv; rfl
theorem nums_free {k : IntKind} : ∀ {l : List Nat}, V.frees (nums k l) = true
  | [] => rfl
  | x :: l => by simp only [nums, List.map_cons, V.frees, V.free]; exact nums_free
theorem encN_free {k : IntKind} {l : List Nat} : (encN k l).free = true := by
  unfold encN; split
  · rfl
  · simp only [V.free]; exact nums_free
theorem decL_flat {k : IntKind} {b : Nat} {v : V} {l : List Nat} (h : decL k b v = some l) : v.flat = true := by
  unfold decL at h
  split at h
  · split at h
    · rename_i hc
      obtain ⟨rfl, _⟩ := unIs_num h
      simp only [V.flat, nums_plain, Bool.and_true, Bool.or_eq_true, beq_iff_eq]
      exact hc.1
    · cases h
  · cases h
theorem decL_row {k : IntKind} {b base : Nat} {H : Heap} {v u : V} {l : List Nat} (h : decL k b v = some l) (t : Th base H v u) : ∃ s, u = .slice s ∧ Row H k s l ∧ (∀ i, s.has i → base ≤ i) ∧ Lim b l ∧ l.length < 1000000 := by
  unfold decL at h
  split at h
  · rename_i n z cs
    split at h
    · rename_i hc
      obtain ⟨h1, h2, h3⟩ := hc
      obtain ⟨rfl, hL⟩ := unIs_num h
      have hl : l.length = n := by simpa using h2
      simp only [Th] at t
      obtain ⟨s, rfl, t1, t2, t3, t4⟩ := t
      refine ⟨s, rfl, ⟨by omega, fun b o hs => (t3 b o hs).2, fun hne => ?_⟩, fun i hi => ?_, hL, by omega⟩
      · have hn : n ≠ 0 := by
          intro h0; apply hne; exact List.eq_nil_of_length_eq_zero (by omega)
        obtain ⟨c, e, t5, t6⟩ := t4 hn
        exact ⟨c, 0, nums k l, e, true, t5, t6, by simp, by rw [List.drop_zero, List.take_of_length_le (by simp)]⟩
      · obtain ⟨o, ho⟩ := hi
        exact (t3 i o ho).1
    · cases h
  · cases h
theorem frzL_nums {H : Heap} {d : Nat} {k : IntKind} : ∀ {l : List Nat}, frzL (frzV H (d + 1)) (nums k l) = some (nums k l, [])
  | [] => rfl
  | x :: l => by
    have := frzL_nums (H := H) (d := d) (k := k) (l := l)
    simp only [nums, List.map_cons] at this ⊢
    simp only [frzL, this]
    simp [frzV]
theorem frz_row {H : Heap} {d base : Nat} {k : IntKind} {s : Sl} {l : List Nat} (r : Row H k s l) (f : ∀ i, s.has i → base ≤ i) : ∃ ids, frzV H (d + 2) (.slice s) = some (encN k l, ids) ∧ ∀ j ∈ ids, base ≤ j := by
  unfold frzV encN
  have hl := r.len
  by_cases h0 : l.length = 0
  · simp only
    rw [if_pos (by omega), if_pos h0]
    exact ⟨[], rfl, by simp⟩
  · have hne : l ≠ [] := by intro e; subst e; simp at h0
    obtain ⟨b, o, cs, e', ro, a1, a2, a3, a4⟩ := r.mem hne
    have hz := (r.low b o a1).2
    simp only
    rw [if_neg (by omega), if_neg h0, a1]
    simp only [a2, hz, Nat.mul_one]
    rw [if_pos (by omega), hl, a4, frzL_nums]
    refine ⟨[b], rfl, ?_⟩
    intro j hj
    simp at hj; subst hj
    exact f j ⟨o, a1⟩
theorem frz_int {H : Heap} {base : Nat} {v : V} {z : Int} (h : isI H base v z) : ∃ ids, frzV H 6 v = some (intW z, ids) ∧ ∀ j ∈ ids, base ≤ j := by
  obtain ⟨s, rfl, r, f⟩ := h
  obtain ⟨ids, e, hi⟩ := frz_row (d := 3) r f
  refine ⟨ids, ?_, hi⟩
  unfold frzV
  simp only [frzL, e]
  simp [frzV, intW, natW, digK_eq]
theorem frz_rat {H : Heap} {base : Nat} {v : V} {n : Int} {d : Nat} (h : isR H base v n d) : ∃ ids, frzV H 6 v = some (ratW n d, ids) ∧ ∀ j ∈ ids, base ≤ j := by
  obtain ⟨b, s, t, rfl, ⟨s', e, r, f⟩, r2, f2, _⟩ := h
  simp at e
  obtain ⟨rfl, rfl⟩ := e
  obtain ⟨ids, e, hi⟩ := frz_row (d := 3) r f
  obtain ⟨ids2, e2, hi2⟩ := frz_row (d := 3) r2 f2
  refine ⟨ids ++ ids2, ?_, fun j hj => (List.mem_append.1 hj).elim (hi j) (hi2 j)⟩
  unfold frzV
  simp only [frzL, e, e2]
  simp [frzV, ratW, natW, digK_eq]
theorem frz_intD {H : Heap} {base : Nat} {v : V} {z : Int} (h : isJ H (fun i => base ≤ i) v z) : ∃ ids, frzV H 6 v = some (intD z, ids) ∧ ∀ j ∈ ids, base ≤ j := by
  obtain ⟨s, rfl, r, f⟩ := h
  obtain ⟨ids, e, hi⟩ := frz_row (d := 3) r f
  refine ⟨ids, ?_, hi⟩
  unfold frzV
  simp only [frzL, e]
  simp [frzV, intD, natD, digK_eq]
theorem frz_ratD {H : Heap} {base : Nat} {v : V} {n : Int} {d : Nat} (h : isK H (fun i => base ≤ i) v n d) : ∃ ids, frzV H 6 v = some (ratD n d, ids) ∧ ∀ j ∈ ids, base ≤ j := by
  obtain ⟨σ, s, τ, t, rfl, ⟨s', e, r, f⟩, ⟨t', e', r2, f2⟩, _⟩ := h
  simp at e e'
  obtain ⟨rfl, rfl⟩ := e
  obtain ⟨rfl, rfl⟩ := e'
  rw [Int.natAbs_natCast] at r2
  obtain ⟨ids, e, hi⟩ := frz_row (d := 3) r f
  obtain ⟨ids2, e2, hi2⟩ := frz_row (d := 3) r2 f2
  refine ⟨ids ++ ids2, ?_, fun j hj => (List.mem_append.1 hj).elim (hi j) (hi2 j)⟩
  unfold frzV
  simp only [frzL, e, e2]
  simp [frzV, ratD, natD, digK_eq]
theorem frz_plain {H : Heap} {base : Nat} {v : V} (h : v.plain1 = true) : ∃ ids, frzV H 6 v = some (v, ids) ∧ ∀ j ∈ ids, base ≤ j := by
  refine ⟨[], ?_, by simp⟩
  unfold frzV
  cases v <;> simp_all [V.plain1]
theorem intW_free {z : Int} : (intW z).free = true := by simp only [intW, V.free, V.frees]; simp [natW, encN_free]
theorem ratW_free {n : Int} {d : Nat} : (ratW n d).free = true := by simp only [ratW, V.free, V.frees]; simp [natW, encN_free]
theorem intD_free {z : Int} : (intD z).free = true := by simp only [intD, V.free, V.frees]; simp [natD, encN_free]
theorem ratD_free {n : Int} {d : Nat} : (ratD n d).free = true := by simp only [ratD, V.free, V.frees]; simp [natD, encN_free]
def decI : V → Option Int
  | .agg [.bool s, m] => match decL .u32 4294967296 m with
    | some l => if digK 4294967296 (val 4294967296 l) = l ∧ (s = true → l ≠ []) then some (sgn s (val 4294967296 l)) else none
    | none => none
  | _ => none
def decR : V → Option (Int × Nat)
  | .agg [.bool s, m, e] => match decL .u32 4294967296 m, decL .u32 4294967296 e with
    | some l, some q => some (sgn s (val 4294967296 l), val 4294967296 q)
    | _, _ => none
  | _ => none
def decJ : V → Option Int
  | .agg [.int .i64 s, m] => match decL .i64 65536 m with
    | some l => let x : Int := s * val 65536 l
      if digK 65536 (val 65536 l) = l ∧ s = x.sign ∧ (s = 0 → l = []) then some x else none
    | none => none
  | _ => none
def decK : V → Option (Int × Nat)
  | .agg [.int .i64 s, m, .int .i64 t, e] => match decJ (.agg [.int .i64 s, m]), decJ (.agg [.int .i64 t, e]) with
    | some n, some d => if 0 < d then some (n, d.toNat) else none
    | _, _ => none
  | _ => none
theorem digK_lim {b x : Nat} (hb : 2 ≤ b) : Lim b (digK b x) := by rw [digK_eq hb]; exact dig_lim hb x
theorem val_digK {b x : Nat} (hb : 2 ≤ b) : val b (digK b x) = x := by rw [digK_eq hb]; exact val_dig hb x
theorem digK_nil {b x : Nat} (hb : 2 ≤ b) : digK b x = [] ↔ x = 0 := by rw [digK_eq hb]; exact dig_eq_nil hb
def szW (x : Nat) : Prop := (digK 4294967296 x).length < 1000000
def szD (x : Nat) : Prop := (digK 65536 x).length < 1000000
theorem decL_natW {x : Nat} (h : szW x) : decL .u32 4294967296 (natW x) = some (digK 4294967296 x) := decL_enc (digK_lim (by decide)) h
theorem decL_natD {x : Nat} (h : szD x) : decL .i64 65536 (natD x) = some (digK 65536 x) := decL_enc (digK_lim (by decide)) h
theorem sgn_dec (z : Int) : sgn (decide (z < 0)) z.natAbs = z := by
  unfold sgn; by_cases h : z < 0
  · rw [if_pos (by simpa using h)]; omega
  · rw [if_neg (by simpa using h)]; omega
theorem decI_intW {z : Int} (h : szW z.natAbs) : decI (intW z) = some z := by
  simp only [intW, decI, decL_natW h, val_digK (show 2 ≤ 4294967296 by decide)]
  rw [if_pos ⟨trivial, fun hz => by
    have hz' : z < 0 := by simpa using hz
    rw [Ne, digK_nil (by decide)]; omega⟩, sgn_dec]
theorem decR_ratW {n : Int} {d : Nat} (h : szW n.natAbs) (h' : szW d) : decR (ratW n d) = some (n, d) := by
  simp only [ratW, decR, decL_natW h, decL_natW h', val_digK (show 2 ≤ 4294967296 by decide), sgn_dec]
theorem decJ_intD {z : Int} (h : szD z.natAbs) : decJ (intD z) = some z := by
  simp only [intD, decJ, decL_natD h, val_digK (show 2 ≤ 65536 by decide)]
  have : z.sign * (z.natAbs : Int) = z := by rw [Int.sign_mul_natAbs]
  rw [this, if_pos ⟨trivial, rfl, fun hz => by rw [digK_nil (by decide)]; have := Int.sign_eq_zero_iff_zero.1 hz; omega⟩]
theorem decK_ratD {n : Int} {d : Nat} (h : szD n.natAbs) (h' : szD d) (hd : 0 < d) : decK (ratD n d) = some (n, d) := by
  have e1 := decJ_intD h
  have e2 := decJ_intD (z := (d : Int)) (by rw [Int.natAbs_natCast]; exact h')
  simp only [intD, Int.natAbs_natCast] at e1 e2
  simp only [ratD, decK, e1, e2]
  rw [if_pos (by omega)]; simp
theorem decI_is {base : Nat} {H : Heap} {v u : V} {z : Int} (h : decI v = some z) (t : Th base H v u) : isI H base u z ∧ (dig 4294967296 z.natAbs).length < 1000000 ∧ v.flat = true := by
  unfold decI at h
  split at h
  · rename_i s m
    split at h
    · rename_i l hl
      split at h
      · rename_i hc
        obtain ⟨h1, h2⟩ := hc
        simp at h; subst h
        simp only [Th, Ths] at t
        obtain ⟨_, rfl, _, _, rfl, rfl, u2, _, rfl, t2, rfl⟩ := t
        obtain ⟨s', rfl, r, f, hL, hm⟩ := decL_row hl t2
        rw [digK_eq (by decide)] at h1
        have ha : (sgn s (val 4294967296 l)).natAbs = val 4294967296 l := sgn_abs
        refine ⟨⟨s', ?_, by rw [ha, h1]; exact r, f⟩, by rw [ha, h1]; exact hm, ?_⟩
        · congr 3
          cases s with
          | false => simp [sgn]
          | true =>
            have := h2 rfl
            have h0 : val 4294967296 l ≠ 0 := by
              intro e; rw [e, dig_zero] at h1; exact this h1.symm
            simp [sgn]; omega
        · simp only [V.flat, V.flats, decL_flat hl]; rfl
      · cases h
    · cases h
  · cases h
theorem decR_is {base : Nat} {H : Heap} {v u : V} {n : Int} {d : Nat} (h : decR v = some (n, d)) (t : Th base H v u) : rawR H u n d 1000000 ∧ v.flat = true := by
  unfold decR at h
  split at h
  · rename_i s m e
    split at h
    · rename_i l q hl hq
      simp at h
      obtain ⟨rfl, rfl⟩ := h
      simp only [Th, Ths] at t
      obtain ⟨_, rfl, _, _, rfl, rfl, u2, _, rfl, t2, u3, _, rfl, t3, rfl⟩ := t
      obtain ⟨s', rfl, r, f, hL, hm⟩ := decL_row hl t2
      obtain ⟨s2, rfl, r2, f2, hL2, hm2⟩ := decL_row hq t3
      exact ⟨⟨_, s', s2, l, q, rfl, r, r2, hL, hL2, by omega, by omega, rfl, rfl⟩, by simp only [V.flat, V.flats, decL_flat hl, decL_flat hq]; rfl⟩
    · cases h
  · cases h
theorem decJ_is {base : Nat} {H : Heap} {v u : V} {z : Int} (h : decJ v = some z) (t : Th base H v u) : isJ H (fun i => base ≤ i) u z ∧ (dig 65536 z.natAbs).length < 1000000 ∧ v.flat = true := by
  unfold decJ at h
  split at h
  · rename_i s m
    split at h
    · rename_i l hl
      simp only at h
      split at h
      · rename_i hc
        obtain ⟨h1, h2, h3⟩ := hc
        simp at h
        simp only [Th, Ths] at t
        obtain ⟨_, rfl, _, _, rfl, rfl, u2, _, rfl, t2, rfl⟩ := t
        obtain ⟨s', rfl, r, f, hL, hm⟩ := decL_row hl t2
        rw [digK_eq (by decide)] at h1
        rw [h] at h2
        have ha : z.natAbs = val 65536 l := by
          have hs := sign_cases z
          rw [← h2] at hs
          rw [← h, Int.natAbs_mul, Int.natAbs_natCast]
          rcases hs with ⟨e, _⟩ | ⟨e, _⟩ | ⟨e, _⟩
          · rw [e]; simp
          · rw [h3 e]; simp [val_nil]
          · rw [e]; simp
        refine ⟨⟨s', by rw [h2], by rw [ha, h1]; exact r, f⟩, by rw [ha, h1]; exact hm, ?_⟩
        simp only [V.flat, V.flats, decL_flat hl]; rfl
      · cases h
    · cases h
  · cases h
theorem decK_is {base : Nat} {H : Heap} {v u : V} {n : Int} {d : Nat} (h : decK v = some (n, d)) (t : Th base H v u) : isK H (fun i => base ≤ i) u n d ∧ (dig 65536 n.natAbs).length < 1000000 ∧ (dig 65536 d).length < 1000000 ∧ v.flat = true := by
  unfold decK at h
  split at h
  · rename_i s m t' e
    split at h
    · rename_i n' d' hn hd
      split at h
      · rename_i hp
        simp at h
        obtain ⟨rfl, rfl⟩ := h
        simp only [Th, Ths] at t
        obtain ⟨_, rfl, _, _, rfl, rfl, u2, _, rfl, t2, _, _, rfl, rfl, u3, _, rfl, t3, rfl⟩ := t
        obtain ⟨a1, a2, a3⟩ := decJ_is (u := .agg [.int .i64 s, u2]) hn (by simp only [Th, Ths]; exact ⟨_, rfl, _, _, rfl, rfl, _, _, rfl, t2, rfl⟩)
        obtain ⟨b1, b2, b3⟩ := decJ_is (u := .agg [.int .i64 t', u3]) hd (by simp only [Th, Ths]; exact ⟨_, rfl, _, _, rfl, rfl, _, _, rfl, t3, rfl⟩)
        obtain ⟨σ, q, e1, _⟩ := a1.shape
        obtain ⟨τ, r, e2, _⟩ := b1.shape
        simp at e1 e2
        obtain ⟨rfl, rfl⟩ := e1
        obtain ⟨rfl, rfl⟩ := e2
        have hdn : (d'.toNat : Int) = d' := by omega
        have hdn2 : d'.toNat = d'.natAbs := by omega
        refine ⟨⟨_, _, _, _, rfl, a1, by rw [hdn]; exact b1, by omega⟩, a2, by rw [hdn2]; exact b2, ?_⟩
        simp only [V.flat, V.flats, Bool.and_eq_true] at a3 b3 ⊢
        exact ⟨trivial, a3.2.1, trivial, b3.2.1, trivial⟩
      · cases h
    · cases h
  · cases h
end Go.AM
end
section
set_option linter.unusedVariables false
set_option linter.unusedSimpArgs false
set_option maxRecDepth 1000000
namespace Go.AM
theorem look_mem {α : Type} {f : Nat} {t : α} : ∀ {l : List (Nat × α)}, l.lookup f = some t → (f, t) ∈ l
  | [], h => by cases h
  | (a, b) :: l, h => by
    rw [List.lookup_cons] at h
    split at h
    · rename_i he
      have : f = a := by simpa using he
      simp at h; subst h; subst this; exact List.mem_cons_self
    · exact List.mem_cons_of_mem _ (look_mem h)
theorem seat_mixed : P.follows .mixedOrders = true := by kernel_rfl
theorem seat_fns1 : tabList.all (fun p => okFun P p.1) = true := by kernel_rfl
theorem seat_fns : ∀ f tab, C.tabs f = some tab → okFun C.P f = true := fun f tab h => List.all_eq_true.1 seat_fns1 (f, tab) (look_mem h)
end Go.AM
end
section
set_option linter.unusedVariables false
set_option linter.unusedSimpArgs false
set_option linter.unusedSimpArgs false
set_option linter.unusedVariables false
namespace Go.AM
attribute [local congr] bnd_weak ite_weak
theorem r4_cmp {H : Heap} {P : Nat → Prop} {v w : V} {x y : Int} (hP : UpP H P) (h : isJ H P v x) (h' : isJ H P w y) (hm : (dig 65536 x.natAbs).length < 400000000) (hm' : (dig 65536 y.natAbs).length < 400000000) :
    Tot (fun n => f_ref04_Cmp n [v, w] H) fun v H' => Ext0 H H' ∧ v = .int .i64 (x - y).sign := by
  obtain ⟨σ, s, rfl, hσ, r, f⟩ := h.shape
  obtain ⟨τ, t, rfl, hτ, r', f'⟩ := h'.shape
  refine Tot.of fun Q hQ => ?_
  refine ref04_Cmp_tot ?_
  simp only [ref04_Cmp_b]
  repeat (first | refine Tot.pure (by simp (disch := first | omega | (simp only [hn_push, hn_set, hn_more] <;> omega) | fail) [ld1_get, ldN_get, stA_get, boxA, gz, gs, Heap.get_push_ne, Heap.get_push_eq, Heap.get_set_ne, Heap.get_set_eq, get_more, hn_push, hn_set, hn_more, ]; try exact rfl) ?_ | refine Tot.chk (by simp (disch := first | omega | (simp only [hn_push, hn_set, hn_more] <;> omega) | fail) [ld1_get, ldN_get, stA_get, boxA, gz, gs, Heap.get_push_ne, Heap.get_push_eq, Heap.get_set_ne, Heap.get_set_eq, get_more, hn_push, hn_set, hn_more, ]; done) ?_ | fail)
  refine Tot.bind (r4_sub (P := P) (fun i hi => hP i (by simp only [hn_push] at hi; omega)) (h.keep (by (repeat (first | exact KeepP.refl | refine KeepP.call ?_ (by assumption) | refine KeepP.push ?_ | refine KeepP.more ?_ | refine KeepP.set ?_ (by first | (right; first | omega | (simp only [hn_push, hn_set, hn_more] <;> omega) | fail) | (left; simp; done) | fail))))) (h'.keep (by (repeat (first | exact KeepP.refl | refine KeepP.call ?_ (by assumption) | refine KeepP.push ?_ | refine KeepP.more ?_ | refine KeepP.set ?_ (by first | (right; first | omega | (simp only [hn_push, hn_set, hn_more] <;> omega) | fail) | (left; simp; done) | fail))))) hm hm') ?_
  rintro v H1 ⟨c1, i1⟩
  have n1 := c1.n; try simp only [hn_push, hn_set, hn_more] at n1
  obtain ⟨b1, s1, rfl, hb, -⟩ := i1.shape
  subst hb
  dsimp only
  repeat (first | refine Tot.pure (by simp (disch := first | omega | (simp only [hn_push, hn_set, hn_more] <;> omega) | fail) [ld1_get, ldN_get, stA_get, boxA, gz, gs, Heap.get_push_ne, Heap.get_push_eq, Heap.get_set_ne, Heap.get_set_eq, get_more, hn_push, hn_set, hn_more, fd1]; try exact rfl) ?_ | refine Tot.chk (by simp (disch := first | omega | (simp only [hn_push, hn_set, hn_more] <;> omega) | fail) [ld1_get, ldN_get, stA_get, boxA, gz, gs, Heap.get_push_ne, Heap.get_push_eq, Heap.get_set_ne, Heap.get_set_eq, get_more, hn_push, hn_set, hn_more, fd1]; done) ?_ | fail)
  exact Tot.ret (hQ _ _ ⟨Keep.ext (by (repeat (first | exact Keep.refl | refine Keep.call ?_ (by assumption) | refine Keep.push ?_ | refine Keep.more ?_ | refine Keep.set ?_ (by first | omega | (simp only [hn_push, hn_set, hn_more] <;> omega) | fail)))), rfl⟩)
theorem r5_neg {H : Heap} {P : Nat → Prop} {v : V} {n : Int} {d : Nat} (hP : UpP H P) (h : isK H P v n d) :
    Tot (fun n => f_ref05_Neg n [v] H) fun v H' => Ext0 H H' ∧ isK H' P v (-n) d := by
  obtain ⟨σ, s, τ, t, rfl, a1, a2, hd⟩ := h
  refine Tot.of fun Q hQ => ?_
  refine ref05_Neg_tot ?_
  simp only [ref05_Neg_b]
  have hm : ∀ {v : V} {z : Int}, isJ H P v z → isJ H (fun i => P i ∧ i ≠ H.n + 1) v z := fun h => h.mono fun i hi hp => ⟨hp, by omega⟩
  repeat (first | refine Tot.pure (by simp (disch := first | omega | (simp only [hn_push, hn_set, hn_more] <;> omega) | fail) [ld1_get, ldN_get, stA_get, boxA, gz, gs, Heap.get_push_ne, Heap.get_push_eq, Heap.get_set_ne, Heap.get_set_eq, get_more, hn_push, hn_set, hn_more, ]; try exact rfl) ?_ | refine Tot.chk (by simp (disch := first | omega | (simp only [hn_push, hn_set, hn_more] <;> omega) | fail) [ld1_get, ldN_get, stA_get, boxA, gz, gs, Heap.get_push_ne, Heap.get_push_eq, Heap.get_set_ne, Heap.get_set_eq, get_more, hn_push, hn_set, hn_more, ]; done) ?_ | fail)
  refine Tot.bind (r4_neg ((hm a1).keep (by (repeat (first | exact KeepP.refl | refine KeepP.call ?_ (by assumption) | refine KeepP.push ?_ | refine KeepP.more ?_ | refine KeepP.set ?_ (by first | (right; first | omega | (simp only [hn_push, hn_set, hn_more] <;> omega) | fail) | (left; simp; done) | fail)))))) ?_
  rintro v H1 ⟨c1, i1⟩
  have n1 := c1.n; try simp only [hn_push, hn_set, hn_more] at n1
  obtain ⟨p1, q1, rfl, -⟩ := i1.shape
  dsimp only
  repeat (first | refine Tot.pure (by simp (disch := first | omega | (simp only [hn_push, hn_set, hn_more] <;> omega) | fail) [ld1_get, ldN_get, stA_get, boxA, gz, gs, Heap.get_push_ne, Heap.get_push_eq, Heap.get_set_ne, Heap.get_set_eq, get_more, hn_push, hn_set, hn_more, c1.g]; try exact rfl) ?_ | refine Tot.chk (by simp (disch := first | omega | (simp only [hn_push, hn_set, hn_more] <;> omega) | fail) [ld1_get, ldN_get, stA_get, boxA, gz, gs, Heap.get_push_ne, Heap.get_push_eq, Heap.get_set_ne, Heap.get_set_eq, get_more, hn_push, hn_set, hn_more, c1.g]; done) ?_ | fail)
  exact Tot.ret (hQ _ _ ⟨Keep.ext (by (repeat (first | exact Keep.refl | refine Keep.call ?_ (by assumption) | refine Keep.push ?_ | refine Keep.more ?_ | refine Keep.set ?_ (by first | omega | (simp only [hn_push, hn_set, hn_more] <;> omega) | fail)))), p1, q1, τ, t, rfl, (i1.keep (by (repeat (first | exact KeepP.refl | refine KeepP.call ?_ (by assumption) | refine KeepP.push ?_ | refine KeepP.more ?_ | refine KeepP.set ?_ (by first | (right; first | omega | (simp only [hn_push, hn_set, hn_more] <;> omega) | fail) | (left; simp; done) | fail))))).mono fun i _ hi => hi.1, ((hm a2).keep (by (repeat (first | exact KeepP.refl | refine KeepP.call ?_ (by assumption) | refine KeepP.push ?_ | refine KeepP.more ?_ | refine KeepP.set ?_ (by first | (right; first | omega | (simp only [hn_push, hn_set, hn_more] <;> omega) | fail) | (left; simp; done) | fail))))).mono fun i _ hi => hi.1, hd⟩)
theorem r5_sub {H : Heap} {P : Nat → Prop} {v w : V} {n m : Int} {d e : Nat} (hP : UpP H P) (h : isK H P v n d) (h' : isK H P w m e) (h1 : (dig 65536 n.natAbs).length < 10000000) (h2 : (dig 65536 m.natAbs).length < 10000000) (h3 : (dig 65536 d).length < 10000000) (h4 : (dig 65536 e).length < 10000000) :
    Tot (fun n => f_ref05_Sub n [v, w] H) fun v H' => Ext0 H H' ∧ isK H' P v (n * e - m * d) (d * e) := by
  have ha := h
  have hb := h'
  obtain ⟨σ, s, τ, t, rfl, -⟩ := h
  obtain ⟨σ', s', τ', t', rfl, -⟩ := h'
  refine Tot.of fun Q hQ => ?_
  refine ref05_Sub_tot ?_
  simp only [ref05_Sub_b]
  have hq : ∀ (G : Heap), H.n + 3 ≤ G.n → UpP G (fun i => P i ∧ i ≠ H.n + 1 + 1) := fun G hG i hi => ⟨hP i (by omega), by omega⟩
  have hm : ∀ {v : V} {n : Int} {d : Nat}, isK H P v n d → isK H (fun i => P i ∧ i ≠ H.n + 1 + 1) v n d := fun h => h.mono fun i hi hp => ⟨hp, by omega⟩
  repeat (first | refine Tot.pure (by simp (disch := first | omega | (simp only [hn_push, hn_set, hn_more] <;> omega) | fail) [ld1_get, ldN_get, stA_get, boxA, gz, gs, Heap.get_push_ne, Heap.get_push_eq, Heap.get_set_ne, Heap.get_set_eq, get_more, hn_push, hn_set, hn_more, ]; try exact rfl) ?_ | refine Tot.chk (by simp (disch := first | omega | (simp only [hn_push, hn_set, hn_more] <;> omega) | fail) [ld1_get, ldN_get, stA_get, boxA, gz, gs, Heap.get_push_ne, Heap.get_push_eq, Heap.get_set_ne, Heap.get_set_eq, get_more, hn_push, hn_set, hn_more, ]; done) ?_ | fail)
  refine Tot.bind (r5_neg (hq _ (by simp)) ((hm hb).keep (by (repeat (first | exact KeepP.refl | refine KeepP.call ?_ (by assumption) | refine KeepP.push ?_ | refine KeepP.more ?_ | refine KeepP.set ?_ (by first | (right; first | omega | (simp only [hn_push, hn_set, hn_more] <;> omega) | fail) | (left; simp; done) | fail)))))) ?_
  rintro v H1 ⟨c1, i1⟩
  have n1 := c1.n; try simp only [hn_push, hn_set, hn_more] at n1
  have i1' := i1
  obtain ⟨p1, q1, p2, q2, rfl, -⟩ := i1
  dsimp only
  repeat (first | refine Tot.pure (by simp (disch := first | omega | (simp only [hn_push, hn_set, hn_more] <;> omega) | fail) [ld1_get, ldN_get, stA_get, boxA, gz, gs, Heap.get_push_ne, Heap.get_push_eq, Heap.get_set_ne, Heap.get_set_eq, get_more, hn_push, hn_set, hn_more, c1.g]; try exact rfl) ?_ | refine Tot.chk (by simp (disch := first | omega | (simp only [hn_push, hn_set, hn_more] <;> omega) | fail) [ld1_get, ldN_get, stA_get, boxA, gz, gs, Heap.get_push_ne, Heap.get_push_eq, Heap.get_set_ne, Heap.get_set_eq, get_more, hn_push, hn_set, hn_more, c1.g]; done) ?_ | fail)
  refine Tot.bind (r5_add (hq _ (by omega)) ((hm ha).keep (by (repeat (first | exact KeepP.refl | refine KeepP.call ?_ (by assumption) | refine KeepP.push ?_ | refine KeepP.more ?_ | refine KeepP.set ?_ (by first | (right; first | omega | (simp only [hn_push, hn_set, hn_more] <;> omega) | fail) | (left; simp; done) | fail))))) i1' h1 (by rw [Int.natAbs_neg]; exact h2) h3 h4) ?_
  rintro v H2 ⟨c2, i2⟩
  have n2 := c2.n; try simp only [hn_push, hn_set, hn_more] at n2
  rw [Int.neg_mul, ← Int.sub_eq_add_neg] at i2
  have i2' := i2
  obtain ⟨p3, q3, p4, q4, rfl, -⟩ := i2
  dsimp only
  repeat (first | refine Tot.pure (by simp (disch := first | omega | (simp only [hn_push, hn_set, hn_more] <;> omega) | fail) [ld1_get, ldN_get, stA_get, boxA, gz, gs, Heap.get_push_ne, Heap.get_push_eq, Heap.get_set_ne, Heap.get_set_eq, get_more, hn_push, hn_set, hn_more, c1.g, c2.g]; try exact rfl) ?_ | refine Tot.chk (by simp (disch := first | omega | (simp only [hn_push, hn_set, hn_more] <;> omega) | fail) [ld1_get, ldN_get, stA_get, boxA, gz, gs, Heap.get_push_ne, Heap.get_push_eq, Heap.get_set_ne, Heap.get_set_eq, get_more, hn_push, hn_set, hn_more, c1.g, c2.g]; done) ?_ | fail)
  exact Tot.ret (hQ _ _ ⟨Keep.ext (by (repeat (first | exact Keep.refl | refine Keep.call ?_ (by assumption) | refine Keep.push ?_ | refine Keep.more ?_ | refine Keep.set ?_ (by first | omega | (simp only [hn_push, hn_set, hn_more] <;> omega) | fail)))), (i2'.keep (by (repeat (first | exact KeepP.refl | refine KeepP.call ?_ (by assumption) | refine KeepP.push ?_ | refine KeepP.more ?_ | refine KeepP.set ?_ (by first | (right; first | omega | (simp only [hn_push, hn_set, hn_more] <;> omega) | fail) | (left; simp; done) | fail))))).mono fun i _ hi => hi.1⟩)
theorem r5_cmp {H : Heap} {P : Nat → Prop} {v w : V} {n m : Int} {d e : Nat} (hP : UpP H P) (h : isK H P v n d) (h' : isK H P w m e) (h1 : (dig 65536 n.natAbs).length < 10000000) (h2 : (dig 65536 m.natAbs).length < 10000000) (h3 : (dig 65536 d).length < 10000000) (h4 : (dig 65536 e).length < 10000000) :
    Tot (fun n => f_ref05_Cmp n [v, w] H) fun v H' => Ext0 H H' ∧ v = .int .i64 (n * e - m * d).sign := by
  obtain ⟨σ, s, τ, t, rfl, a1, a2, hd⟩ := h
  obtain ⟨σ', s', τ', t', rfl, b1, b2, he⟩ := h'
  refine Tot.of fun Q hQ => ?_
  refine ref05_Cmp_tot ?_
  simp only [ref05_Cmp_b]
  have hq : ∀ (G : Heap), H.n ≤ G.n → UpP G P := fun G hG i hi => hP i (by omega)
  repeat (first | refine Tot.pure (by simp (disch := first | omega | (simp only [hn_push, hn_set, hn_more] <;> omega) | fail) [ld1_get, ldN_get, stA_get, boxA, gz, gs, Heap.get_push_ne, Heap.get_push_eq, Heap.get_set_ne, Heap.get_set_eq, get_more, hn_push, hn_set, hn_more, ]; try exact rfl) ?_ | refine Tot.chk (by simp (disch := first | omega | (simp only [hn_push, hn_set, hn_more] <;> omega) | fail) [ld1_get, ldN_get, stA_get, boxA, gz, gs, Heap.get_push_ne, Heap.get_push_eq, Heap.get_set_ne, Heap.get_set_eq, get_more, hn_push, hn_set, hn_more, ]; done) ?_ | fail)
  refine Tot.bind (r4_mul (hq _ (by simp; omega)) (a1.keep (by (repeat (first | exact KeepP.refl | refine KeepP.call ?_ (by assumption) | refine KeepP.push ?_ | refine KeepP.more ?_ | refine KeepP.set ?_ (by first | (right; first | omega | (simp only [hn_push, hn_set, hn_more] <;> omega) | fail) | (left; simp; done) | fail))))) (b2.keep (by (repeat (first | exact KeepP.refl | refine KeepP.call ?_ (by assumption) | refine KeepP.push ?_ | refine KeepP.more ?_ | refine KeepP.set ?_ (by first | (right; first | omega | (simp only [hn_push, hn_set, hn_more] <;> omega) | fail) | (left; simp; done) | fail))))) (by rw [Int.natAbs_natCast]; omega)) ?_
  rintro v H1 ⟨c1, i1⟩
  have n1 := c1.n; try simp only [hn_push, hn_set, hn_more] at n1
  obtain ⟨p1, q1, rfl, -⟩ := i1.shape
  dsimp only
  repeat (first | refine Tot.pure (by simp (disch := first | omega | (simp only [hn_push, hn_set, hn_more] <;> omega) | fail) [ld1_get, ldN_get, stA_get, boxA, gz, gs, Heap.get_push_ne, Heap.get_push_eq, Heap.get_set_ne, Heap.get_set_eq, get_more, hn_push, hn_set, hn_more, c1.g]; try exact rfl) ?_ | refine Tot.chk (by simp (disch := first | omega | (simp only [hn_push, hn_set, hn_more] <;> omega) | fail) [ld1_get, ldN_get, stA_get, boxA, gz, gs, Heap.get_push_ne, Heap.get_push_eq, Heap.get_set_ne, Heap.get_set_eq, get_more, hn_push, hn_set, hn_more, c1.g]; done) ?_ | fail)
  refine Tot.bind (r4_mul (hq _ (by omega)) (b1.keep (by (repeat (first | exact KeepP.refl | refine KeepP.call ?_ (by assumption) | refine KeepP.push ?_ | refine KeepP.more ?_ | refine KeepP.set ?_ (by first | (right; first | omega | (simp only [hn_push, hn_set, hn_more] <;> omega) | fail) | (left; simp; done) | fail))))) (a2.keep (by (repeat (first | exact KeepP.refl | refine KeepP.call ?_ (by assumption) | refine KeepP.push ?_ | refine KeepP.more ?_ | refine KeepP.set ?_ (by first | (right; first | omega | (simp only [hn_push, hn_set, hn_more] <;> omega) | fail) | (left; simp; done) | fail))))) (by rw [Int.natAbs_natCast]; omega)) ?_
  rintro v H2 ⟨c2, i2⟩
  have n2 := c2.n; try simp only [hn_push, hn_set, hn_more] at n2
  obtain ⟨p2, q2, rfl, -⟩ := i2.shape
  dsimp only
  have z1 := rsz_mul (x := n.natAbs) (y := e)
  have z2 := rsz_mul (x := m.natAbs) (y := d)
  rw [← Int.natAbs_natCast e, ← Int.natAbs_mul, Int.natAbs_natCast] at z1
  rw [← Int.natAbs_natCast d, ← Int.natAbs_mul, Int.natAbs_natCast] at z2
  refine Tot.bind (r4_cmp (hq _ (by omega)) (i1.keep (by (repeat (first | exact KeepP.refl | refine KeepP.call ?_ (by assumption) | refine KeepP.push ?_ | refine KeepP.more ?_ | refine KeepP.set ?_ (by first | (right; first | omega | (simp only [hn_push, hn_set, hn_more] <;> omega) | fail) | (left; simp; done) | fail))))) i2 (by omega) (by omega)) ?_
  rintro v H3 ⟨c3, rfl⟩
  exact Tot.ret (hQ _ _ ⟨Keep.ext (by (repeat (first | exact Keep.refl | refine Keep.call ?_ (by assumption) | refine Keep.push ?_ | refine Keep.more ?_ | refine Keep.set ?_ (by first | omega | (simp only [hn_push, hn_set, hn_more] <;> omega) | fail)))), rfl⟩)
end Go.AM
end
section
set_option linter.unusedVariables false
set_option linter.unusedSimpArgs false
set_option linter.unusedSimpArgs false
set_option linter.unusedVariables false
set_option maxRecDepth 1000000
namespace Go.AM
def Fz (base : Nat) (H : Heap) (v0 v : V) : Prop := ∃ ids, frzV H 6 v0 = some (v, ids) ∧ ∀ j ∈ ids, base ≤ j
theorem ext_of (ok : C.Ok) {f : FuncId} {dom : List V → Option V} {c : Nat → List V → Heap → Option R} (hc : ∀ n args H, c n args H = callA C n f args H)
    (h : ∀ args v, dom args = some v → V.flats args = true ∧ v.free = true ∧ ∀ base H args', base ≤ H.n → Ths base H args args' → Tot (fun n => c n args' H) fun v0 H0 => Ext0 H H0 ∧ Fz base H0 v0 v) :
    ExtSound C.P f (extF dom) := by
  refine extSound (C0 := C) ok ?_
  intro args v hd
  obtain ⟨h1, h2, h3⟩ := h args v hd
  refine ⟨h1, h2, fun base H args' hb ht => ?_⟩
  obtain ⟨v0, H0, ⟨ce, ids, hz, hi⟩, n0, hn⟩ := h3 base H args' hb ht
  have this : c n0 args' H = some (v0, H0) := hn n0 (Nat.le_refl _)
  rw [hc] at this
  exact ⟨n0, v0, H0, ids, this, ce.n, fun i hi => ce.g hi, hz, hi⟩
def dI (g : Int → Option V) : List V → Option V
  | [a] => match decI a with
    | some x => g x
    | none => none
  | _ => none
def dII (g : Int → Int → Option V) : List V → Option V
  | [a, b] => match decI a with
    | some x => match decI b with
      | some y => g x y
      | none => none
    | none => none
  | _ => none
def dJ (g : Int → Option V) : List V → Option V
  | [a] => match decJ a with
    | some x => g x
    | none => none
  | _ => none
def dJJ (g : Int → Int → Option V) : List V → Option V
  | [a, b] => match decJ a with
    | some x => match decJ b with
      | some y => g x y
      | none => none
    | none => none
  | _ => none
def dR (g : Int → Nat → Option V) : List V → Option V
  | [a] => match decR a with
    | some x => g x.1 x.2
    | none => none
  | _ => none
def dRR (g : Int → Nat → Int → Nat → Option V) : List V → Option V
  | [a, b] => match decR a with
    | some x => match decR b with
      | some y => g x.1 x.2 y.1 y.2
      | none => none
    | none => none
  | _ => none
def dK (g : Int → Nat → Option V) : List V → Option V
  | [a] => match decK a with
    | some x => g x.1 x.2
    | none => none
  | _ => none
def dKK (g : Int → Nat → Int → Nat → Option V) : List V → Option V
  | [a, b] => match decK a with
    | some x => match decK b with
      | some y => g x.1 x.2 y.1 y.2
      | none => none
    | none => none
  | _ => none
def dZ (g : Int → Option V) : List V → Option V
  | [.int .i64 n] => if -9223372036854775808 ≤ n ∧ n ≤ 9223372036854775807 then g n else none
  | _ => none
def dNN (g : Nat → Nat → Option V) : List V → Option V
  | [a, b] => match decL .u32 4294967296 a with
    | some l => match decL .u32 4294967296 b with
      | some q => g (val 4294967296 l) (val 4294967296 q)
      | none => none
    | none => none
  | _ => none
def decQ : V → Option Int
  | .agg [.bool s, m] => match decL .u32 4294967296 m with
    | some l => some (sgn s (val 4294967296 l))
    | none => none
  | _ => none
def dQ (g : Int → Option V) : List V → Option V
  | [a] => match decQ a with
    | some x => g x
    | none => none
  | _ => none
def dQN (g : Int → Nat → Option V) : List V → Option V
  | [a, b] => match decQ a with
    | some x => match decL .u32 4294967296 b with
      | some q => g x (val 4294967296 q)
      | none => none
    | none => none
  | _ => none
theorem flats1 {a : V} (h : a.flat = true) : V.flats [a] = true := by simp [V.flats, h]
theorem flats2 {a b : V} (h : a.flat = true) (h' : b.flat = true) : V.flats [a, b] = true := by simp [V.flats, h, h']
theorem ths1 {base : Nat} {H : Heap} {a : V} {us : List V} (h : Ths base H [a] us) : ∃ u, us = [u] ∧ Th base H a u := by
  simp only [Ths] at h
  obtain ⟨u, _, rfl, t, rfl⟩ := h
  exact ⟨u, rfl, t⟩
theorem ths2 {base : Nat} {H : Heap} {a b : V} {us : List V} (h : Ths base H [a, b] us) : ∃ u w, us = [u, w] ∧ Th base H a u ∧ Th base H b w := by
  simp only [Ths] at h
  obtain ⟨u, _, rfl, t, w, _, rfl, t', rfl⟩ := h
  exact ⟨u, w, rfl, t, t'⟩
theorem decQ_is {base : Nat} {H : Heap} {v u : V} {z : Int} (h : decQ v = some z) (t : Th base H v u) :
    ∃ b s l, u = .agg [.bool b, .slice s] ∧ Row H .u32 s l ∧ (∀ i, s.has i → base ≤ i) ∧ Lim 4294967296 l ∧ l.length < 1000000 ∧ z = sgn b (val 4294967296 l) := by
  unfold decQ at h
  split at h
  · rename_i s m
    split at h
    · rename_i l hl
      simp at h; subst h
      simp only [Th, Ths] at t
      obtain ⟨_, rfl, _, _, rfl, rfl, u2, _, rfl, t2, rfl⟩ := t
      obtain ⟨s', rfl, r, f, hL, hm⟩ := decL_row hl t2
      exact ⟨s, s', l, rfl, r, f, hL, hm, rfl⟩
    · cases h
  · cases h
theorem decQ_flat {v : V} {z : Int} (h : decQ v = some z) : v.flat = true := by
  unfold decQ at h
  split at h
  · split at h
    · rename_i l hl
      simp only [V.flat, V.flats, decL_flat hl]; rfl
    · cases h
  · cases h
theorem decI_flat {v : V} {z : Int} (h : decI v = some z) : v.flat = true := by
  unfold decI at h
  split at h
  · split at h
    · rename_i l hl
      simp only [V.flat, V.flats, decL_flat hl]; rfl
    · cases h
  · cases h
theorem decJ_flat {v : V} {z : Int} (h : decJ v = some z) : v.flat = true := by
  unfold decJ at h
  split at h
  · split at h
    · rename_i l hl
      simp only [V.flat, V.flats, decL_flat hl]; rfl
    · cases h
  · cases h
theorem decR_flat {v : V} {z : Int × Nat} (h : decR v = some z) : v.flat = true := by
  unfold decR at h
  split at h
  · split at h
    · rename_i l q hl hq
      simp only [V.flat, V.flats, decL_flat hl, decL_flat hq]; rfl
    · cases h
  · cases h
theorem decK_flat {v : V} {z : Int × Nat} (h : decK v = some z) : v.flat = true := by
  unfold decK at h
  split at h
  · split at h
    · rename_i n d hn hd
      have a := decJ_flat hn
      have b := decJ_flat hd
      simp only [V.flat, V.flats, Bool.and_eq_true] at a b ⊢
      exact ⟨trivial, a.2.1, trivial, b.2.1, trivial⟩
    · cases h
  · cases h
section
variable {f : FuncId} {c : Nat → List V → Heap → Option R}
theorem ext_I (ok : C.Ok) {g : Int → Option V} (hc : ∀ n args H, c n args H = callA C n f args H)
    (h : ∀ x v, g x = some v → v.free = true ∧ ∀ base H a, base ≤ H.n → isI H base a x → (dig 4294967296 x.natAbs).length < 1000000 → Tot (fun n => c n [a] H) fun v0 H0 => Ext0 H H0 ∧ Fz base H0 v0 v) : ExtSound C.P f (extF (dI g)) := by
  refine ext_of ok hc ?_
  intro args v hd
  unfold dI at hd
  split at hd
  · split at hd
    · rename_i a x hx
      obtain ⟨h1, h2⟩ := h _ _ hd
      refine ⟨flats1 (decI_flat hx), h1, fun base H args' hb ht => ?_⟩
      obtain ⟨u, rfl, t⟩ := ths1 ht
      obtain ⟨k1, k2, _⟩ := decI_is hx t
      exact h2 base H u hb k1 k2
    · cases hd
  · cases hd
theorem ext_II (ok : C.Ok) {g : Int → Int → Option V} (hc : ∀ n args H, c n args H = callA C n f args H)
    (h : ∀ x y v, g x y = some v → v.free = true ∧ ∀ base H a b, base ≤ H.n → isI H base a x → isI H base b y → (dig 4294967296 x.natAbs).length < 1000000 → (dig 4294967296 y.natAbs).length < 1000000 → Tot (fun n => c n [a, b] H) fun v0 H0 => Ext0 H H0 ∧ Fz base H0 v0 v) : ExtSound C.P f (extF (dII g)) := by
  refine ext_of ok hc ?_
  intro args v hd
  unfold dII at hd
  split at hd
  · split at hd
    · rename_i a b x hx
      split at hd
      · rename_i y hy
        obtain ⟨h1, h2⟩ := h _ _ _ hd
        refine ⟨flats2 (decI_flat hx) (decI_flat hy), h1, fun base H args' hb ht => ?_⟩
        obtain ⟨u, w, rfl, t, t'⟩ := ths2 ht
        obtain ⟨k1, k2, _⟩ := decI_is hx t
        obtain ⟨l1, l2, _⟩ := decI_is hy t'
        exact h2 base H u w hb k1 l1 k2 l2
      · cases hd
    · cases hd
  · cases hd
theorem ext_J (ok : C.Ok) {g : Int → Option V} (hc : ∀ n args H, c n args H = callA C n f args H)
    (h : ∀ x v, g x = some v → v.free = true ∧ ∀ base H a, base ≤ H.n → isJ H (fun i => base ≤ i) a x → (dig 65536 x.natAbs).length < 1000000 → Tot (fun n => c n [a] H) fun v0 H0 => Ext0 H H0 ∧ Fz base H0 v0 v) : ExtSound C.P f (extF (dJ g)) := by
  refine ext_of ok hc ?_
  intro args v hd
  unfold dJ at hd
  split at hd
  · split at hd
    · rename_i a x hx
      obtain ⟨h1, h2⟩ := h _ _ hd
      refine ⟨flats1 (decJ_flat hx), h1, fun base H args' hb ht => ?_⟩
      obtain ⟨u, rfl, t⟩ := ths1 ht
      obtain ⟨k1, k2, _⟩ := decJ_is hx t
      exact h2 base H u hb k1 k2
    · cases hd
  · cases hd
theorem ext_JJ (ok : C.Ok) {g : Int → Int → Option V} (hc : ∀ n args H, c n args H = callA C n f args H)
    (h : ∀ x y v, g x y = some v → v.free = true ∧ ∀ base H a b, base ≤ H.n → isJ H (fun i => base ≤ i) a x → isJ H (fun i => base ≤ i) b y → (dig 65536 x.natAbs).length < 1000000 → (dig 65536 y.natAbs).length < 1000000 → Tot (fun n => c n [a, b] H) fun v0 H0 => Ext0 H H0 ∧ Fz base H0 v0 v) : ExtSound C.P f (extF (dJJ g)) := by
  refine ext_of ok hc ?_
  intro args v hd
  unfold dJJ at hd
  split at hd
  · split at hd
    · rename_i a b x hx
      split at hd
      · rename_i y hy
        obtain ⟨h1, h2⟩ := h _ _ _ hd
        refine ⟨flats2 (decJ_flat hx) (decJ_flat hy), h1, fun base H args' hb ht => ?_⟩
        obtain ⟨u, w, rfl, t, t'⟩ := ths2 ht
        obtain ⟨k1, k2, _⟩ := decJ_is hx t
        obtain ⟨l1, l2, _⟩ := decJ_is hy t'
        exact h2 base H u w hb k1 l1 k2 l2
      · cases hd
    · cases hd
  · cases hd
theorem ext_R (ok : C.Ok) {g : Int → Nat → Option V} (hc : ∀ n args H, c n args H = callA C n f args H)
    (h : ∀ x d v, g x d = some v → v.free = true ∧ ∀ base H a, base ≤ H.n → rawR H a x d 1000000 → Tot (fun n => c n [a] H) fun v0 H0 => Ext0 H H0 ∧ Fz base H0 v0 v) : ExtSound C.P f (extF (dR g)) := by
  refine ext_of ok hc ?_
  intro args v hd
  unfold dR at hd
  split at hd
  · split at hd
    · rename_i a x hx
      obtain ⟨h1, h2⟩ := h _ _ _ hd
      refine ⟨flats1 (decR_flat hx), h1, fun base H args' hb ht => ?_⟩
      obtain ⟨u, rfl, t⟩ := ths1 ht
      obtain ⟨k1, _⟩ := decR_is (n := x.1) (d := x.2) hx t
      exact h2 base H u hb k1
    · cases hd
  · cases hd
theorem ext_RR (ok : C.Ok) {g : Int → Nat → Int → Nat → Option V} (hc : ∀ n args H, c n args H = callA C n f args H)
    (h : ∀ x d y e v, g x d y e = some v → v.free = true ∧ ∀ base H a b, base ≤ H.n → rawR H a x d 1000000 → rawR H b y e 1000000 → Tot (fun n => c n [a, b] H) fun v0 H0 => Ext0 H H0 ∧ Fz base H0 v0 v) : ExtSound C.P f (extF (dRR g)) := by
  refine ext_of ok hc ?_
  intro args v hd
  unfold dRR at hd
  split at hd
  · split at hd
    · rename_i a b x hx
      split at hd
      · rename_i y hy
        obtain ⟨h1, h2⟩ := h _ _ _ _ _ hd
        refine ⟨flats2 (decR_flat hx) (decR_flat hy), h1, fun base H args' hb ht => ?_⟩
        obtain ⟨u, w, rfl, t, t'⟩ := ths2 ht
        obtain ⟨k1, _⟩ := decR_is (n := x.1) (d := x.2) hx t
        obtain ⟨l1, _⟩ := decR_is (n := y.1) (d := y.2) hy t'
        exact h2 base H u w hb k1 l1
      · cases hd
    · cases hd
  · cases hd
theorem ext_K (ok : C.Ok) {g : Int → Nat → Option V} (hc : ∀ n args H, c n args H = callA C n f args H)
    (h : ∀ x d v, g x d = some v → v.free = true ∧ ∀ base H a, base ≤ H.n → isK H (fun i => base ≤ i) a x d → (dig 65536 x.natAbs).length < 1000000 → (dig 65536 d).length < 1000000 → Tot (fun n => c n [a] H) fun v0 H0 => Ext0 H H0 ∧ Fz base H0 v0 v) : ExtSound C.P f (extF (dK g)) := by
  refine ext_of ok hc ?_
  intro args v hd
  unfold dK at hd
  split at hd
  · split at hd
    · rename_i a x hx
      obtain ⟨h1, h2⟩ := h _ _ _ hd
      refine ⟨flats1 (decK_flat hx), h1, fun base H args' hb ht => ?_⟩
      obtain ⟨u, rfl, t⟩ := ths1 ht
      obtain ⟨k1, k2, k3, _⟩ := decK_is (n := x.1) (d := x.2) hx t
      exact h2 base H u hb k1 k2 k3
    · cases hd
  · cases hd
theorem ext_KK (ok : C.Ok) {g : Int → Nat → Int → Nat → Option V} (hc : ∀ n args H, c n args H = callA C n f args H)
    (h : ∀ x d y e v, g x d y e = some v → v.free = true ∧ ∀ base H a b, base ≤ H.n → isK H (fun i => base ≤ i) a x d → isK H (fun i => base ≤ i) b y e → (dig 65536 x.natAbs).length < 1000000 → (dig 65536 d).length < 1000000 → (dig 65536 y.natAbs).length < 1000000 → (dig 65536 e).length < 1000000 →
      Tot (fun n => c n [a, b] H) fun v0 H0 => Ext0 H H0 ∧ Fz base H0 v0 v) : ExtSound C.P f (extF (dKK g)) := by
  refine ext_of ok hc ?_
  intro args v hd
  unfold dKK at hd
  split at hd
  · split at hd
    · rename_i a b x hx
      split at hd
      · rename_i y hy
        obtain ⟨h1, h2⟩ := h _ _ _ _ _ hd
        refine ⟨flats2 (decK_flat hx) (decK_flat hy), h1, fun base H args' hb ht => ?_⟩
        obtain ⟨u, w, rfl, t, t'⟩ := ths2 ht
        obtain ⟨k1, k2, k3, _⟩ := decK_is (n := x.1) (d := x.2) hx t
        obtain ⟨l1, l2, l3, _⟩ := decK_is (n := y.1) (d := y.2) hy t'
        exact h2 base H u w hb k1 l1 k2 k3 l2 l3
      · cases hd
    · cases hd
  · cases hd
theorem ext_Z (ok : C.Ok) {g : Int → Option V} (hc : ∀ n args H, c n args H = callA C n f args H)
    (h : ∀ x v, g x = some v → v.free = true ∧ ∀ base H, base ≤ H.n → -9223372036854775808 ≤ x ∧ x ≤ 9223372036854775807 → Tot (fun n => c n [.int .i64 x] H) fun v0 H0 => Ext0 H H0 ∧ Fz base H0 v0 v) : ExtSound C.P f (extF (dZ g)) := by
  refine ext_of ok hc ?_
  intro args v hd
  unfold dZ at hd
  split at hd
  · split at hd
    · rename_i x hx
      obtain ⟨h1, h2⟩ := h _ _ hd
      refine ⟨by simp [V.flats, V.flat], h1, fun base H args' hb ht => ?_⟩
      obtain ⟨u, rfl, t⟩ := ths1 ht
      simp only [Th] at t
      subst t
      exact h2 base H hb hx
    · cases hd
  · cases hd
theorem ext_Q (ok : C.Ok) {g : Int → Option V} (hc : ∀ n args H, c n args H = callA C n f args H)
    (h : ∀ x v, g x = some v → v.free = true ∧ ∀ base H b s l, base ≤ H.n → Row H .u32 s l → Lim 4294967296 l → l.length < 1000000 → x = sgn b (val 4294967296 l) → Tot (fun n => c n [.agg [.bool b, .slice s]] H) fun v0 H0 => Ext0 H H0 ∧ Fz base H0 v0 v) : ExtSound C.P f (extF (dQ g)) := by
  refine ext_of ok hc ?_
  intro args v hd
  unfold dQ at hd
  split at hd
  · split at hd
    · rename_i a x hx
      obtain ⟨h1, h2⟩ := h _ _ hd
      refine ⟨flats1 (decQ_flat hx), h1, fun base H args' hb ht => ?_⟩
      obtain ⟨u, rfl, t⟩ := ths1 ht
      obtain ⟨b, s, l, rfl, r, f, hL, hm, e⟩ := decQ_is hx t
      exact h2 base H b s l hb r hL hm e
    · cases hd
  · cases hd
theorem ext_QN (ok : C.Ok) {g : Int → Nat → Option V} (hc : ∀ n args H, c n args H = callA C n f args H)
    (h : ∀ x y v, g x y = some v → v.free = true ∧ ∀ base H b s l t q, base ≤ H.n → Row H .u32 s l → Row H .u32 t q → Lim 4294967296 l → Lim 4294967296 q → l.length < 1000000 → q.length < 1000000 → x = sgn b (val 4294967296 l) → y = val 4294967296 q →
      Tot (fun n => c n [.agg [.bool b, .slice s], .slice t] H) fun v0 H0 => Ext0 H H0 ∧ Fz base H0 v0 v) : ExtSound C.P f (extF (dQN g)) := by
  refine ext_of ok hc ?_
  intro args v hd
  unfold dQN at hd
  split at hd
  · split at hd
    · rename_i a b' x hx
      split at hd
      · rename_i q hq
        obtain ⟨h1, h2⟩ := h _ _ _ hd
        refine ⟨flats2 (decQ_flat hx) (decL_flat hq), h1, fun base H args' hb ht => ?_⟩
        obtain ⟨u, w, rfl, t, t'⟩ := ths2 ht
        obtain ⟨b, s, l, rfl, r, f, hL, hm, e⟩ := decQ_is hx t
        obtain ⟨s2, rfl, r2, f2, hL2, hm2⟩ := decL_row hq t'
        exact h2 base H b s l s2 q hb r r2 hL hL2 hm hm2 e rfl
      · cases hd
    · cases hd
  · cases hd
theorem ext_NN (ok : C.Ok) {g : Nat → Nat → Option V} (hc : ∀ n args H, c n args H = callA C n f args H)
    (h : ∀ x y v, g x y = some v → v.free = true ∧ ∀ base H s l t q, base ≤ H.n → Row H .u32 s l → Row H .u32 t q → Lim 4294967296 l → Lim 4294967296 q → l.length < 1000000 → q.length < 1000000 → x = val 4294967296 l → y = val 4294967296 q →
      Tot (fun n => c n [.slice s, .slice t] H) fun v0 H0 => Ext0 H H0 ∧ Fz base H0 v0 v) : ExtSound C.P f (extF (dNN g)) := by
  refine ext_of ok hc ?_
  intro args v hd
  unfold dNN at hd
  split at hd
  · split at hd
    · rename_i a b' l hl
      split at hd
      · rename_i q hq
        obtain ⟨h1, h2⟩ := h _ _ _ hd
        refine ⟨flats2 (decL_flat hl) (decL_flat hq), h1, fun base H args' hb ht => ?_⟩
        obtain ⟨u, w, rfl, t, t'⟩ := ths2 ht
        obtain ⟨s, rfl, r, f, hL, hm⟩ := decL_row hl t
        obtain ⟨s2, rfl, r2, f2, hL2, hm2⟩ := decL_row hq t'
        exact h2 base H s l s2 q hb r r2 hL hL2 hm hm2 rfl rfl
      · cases hd
    · cases hd
  · cases hd
end
def dN (g : Nat → Option V) : List V → Option V
  | [a] => match decL .u32 4294967296 a with
    | some l => g (val 4294967296 l)
    | none => none
  | _ => none
theorem ext_N {f : FuncId} {c : Nat → List V → Heap → Option R} (ok : C.Ok) {g : Nat → Option V} (hc : ∀ n args H, c n args H = callA C n f args H)
    (h : ∀ x v, g x = some v → v.free = true ∧ ∀ base H s l, base ≤ H.n → Row H .u32 s l → Lim 4294967296 l → l.length < 1000000 → x = val 4294967296 l →
      Tot (fun n => c n [.slice s] H) fun v0 H0 => Ext0 H H0 ∧ Fz base H0 v0 v) : ExtSound C.P f (extF (dN g)) := by
  refine ext_of ok hc ?_
  intro args v hd
  unfold dN at hd
  split at hd
  · split at hd
    · rename_i a l hl
      obtain ⟨h1, h2⟩ := h _ _ hd
      refine ⟨flats1 (decL_flat hl), h1, fun base H args' hb ht => ?_⟩
      obtain ⟨u, rfl, t⟩ := ths1 ht
      obtain ⟨s, rfl, r, f, hL, hm⟩ := decL_row hl t
      exact h2 base H s l hb r hL hm rfl
    · cases hd
  · cases hd
theorem natW_free {x : Nat} : (natW x).free = true := encN_free
theorem fz_row {base : Nat} {H : Heap} {s : Sl} {x : Nat} (r : Row H .u32 s (dig 4294967296 x)) (f : Fr base s) : Fz base H (.slice s) (natW x) := by
  obtain ⟨ids, e, hi⟩ := frz_row (d := 4) r f
  exact ⟨ids, by rw [e]; simp [natW, digK_eq], hi⟩
theorem Fr.ge {base n : Nat} {s : Sl} (f : Fr n s) (h : base ≤ n) : Fr base s := fun i hi => Nat.le_trans h (f i hi)
end Go.AM
end
section
set_option linter.unusedVariables false
set_option linter.unusedSimpArgs false
set_option linter.unusedSimpArgs false
set_option linter.unusedVariables false
set_option maxRecDepth 1000000
namespace Go.AM
theorem base_ok : C.Ok := ⟨seat_mixed, seat_fns, fun f g h => by cases h⟩
theorem tot_int {c : Nat → Option R} {H : Heap} {base : Nat} {z : Int} (hb : base ≤ H.n) (h : Tot c fun v H' => Ext0 H H' ∧ isI H' H.n v z) : Tot c fun v0 H0 => Ext0 H H0 ∧ Fz base H0 v0 (intW z) :=
  h.mono fun v H' ⟨a, b⟩ => ⟨a, frz_int (b.mono hb)⟩
theorem tot_rat {c : Nat → Option R} {H : Heap} {base : Nat} {n : Int} {d : Nat} (hb : base ≤ H.n) (h : Tot c fun v H' => Ext0 H H' ∧ isR H' H.n v n d) : Tot c fun v0 H0 => Ext0 H H0 ∧ Fz base H0 v0 (ratW n d) :=
  h.mono fun v H' ⟨a, b⟩ => ⟨a, frz_rat (b.mono hb)⟩
theorem tot_intD {c : Nat → Option R} {H : Heap} {base : Nat} {z : Int} (h : Tot c fun v H' => Ext0 H H' ∧ isJ H' (fun i => base ≤ i) v z) : Tot c fun v0 H0 => Ext0 H H0 ∧ Fz base H0 v0 (intD z) :=
  h.mono fun v H' ⟨a, b⟩ => ⟨a, frz_intD b⟩
theorem tot_ratD {c : Nat → Option R} {H : Heap} {base : Nat} {n : Int} {d : Nat} (h : Tot c fun v H' => Ext0 H H' ∧ isK H' (fun i => base ≤ i) v n d) : Tot c fun v0 H0 => Ext0 H H0 ∧ Fz base H0 v0 (ratD n d) :=
  h.mono fun v H' ⟨a, b⟩ => ⟨a, frz_ratD b⟩
theorem tot_plain {c : Nat → Option R} {H : Heap} {base : Nat} {u : V} (hp : u.plain1 = true) (h : Tot c fun v H' => Ext0 H H' ∧ v = u) : Tot c fun v0 H0 => Ext0 H H0 ∧ Fz base H0 v0 u :=
  h.mono fun v H' ⟨a, b⟩ => ⟨a, by rw [b]; exact frz_plain hp⟩
theorem upP {base : Nat} {H : Heap} (h : base ≤ H.n) : UpP H fun i => base ≤ i := fun i hi => Nat.le_trans h hi
def g_whole_Of (z : Int) : Option V := some (intW z)
theorem xs_whole_Of : ExtSound C.P i_whole_Of (extF (dZ g_whole_Of)) := ext_Z (c := f_whole_Of) base_ok (fun n a H => by unfold f_whole_Of; rfl) fun x v h => by
  cases h; exact ⟨intW_free, fun base H hb hx => tot_int hb (whole_Of_spec hx)⟩
def g_whole_Norm (z : Int) : Option V := some (intW z)
theorem xs_whole_Norm : ExtSound C.P i_whole_Norm (extF (dQ g_whole_Norm)) := ext_Q (c := f_whole_Norm) base_ok (fun n a H => by unfold f_whole_Norm; rfl) fun x v h => by
  cases h; exact ⟨intW_free, fun base H b s l hb r hL hm e => by subst e; exact tot_int hb (whole_Norm_spec r (by omega) hL)⟩
def g_whole_Neg (z : Int) : Option V := some (intW (-z))
theorem xs_whole_Neg : ExtSound C.P i_whole_Neg (extF (dI g_whole_Neg)) := ext_I (c := f_whole_Neg) base_ok (fun n a H => by unfold f_whole_Neg; rfl) fun x v h => by
  cases h; exact ⟨intW_free, fun base H a hb k l => tot_int hb (whole_Neg_spec k (by omega))⟩
def g_whole_Sign (z : Int) : Option V := some (.int .i64 z.sign)
theorem xs_whole_Sign : ExtSound C.P i_whole_Sign (extF (dI g_whole_Sign)) := ext_I (c := f_whole_Sign) base_ok (fun n a H => by unfold f_whole_Sign; rfl) fun x v h => by
  cases h; exact ⟨rfl, fun base H a hb k l => tot_plain rfl (whole_Sign_spec k (by omega))⟩
def g_whole_Add (x y : Int) : Option V := some (intW (x + y))
theorem xs_whole_Add : ExtSound C.P i_whole_Add (extF (dII g_whole_Add)) := ext_II (c := f_whole_Add) base_ok (fun n a H => by unfold f_whole_Add; rfl) fun x y v h => by
  cases h; exact ⟨intW_free, fun base H a b hb k k' l l' => tot_int hb (whole_Add_spec k k' (by omega) (by omega))⟩
def g_whole_Mul (x y : Int) : Option V := some (intW (x * y))
theorem xs_whole_Mul : ExtSound C.P i_whole_Mul (extF (dII g_whole_Mul)) := ext_II (c := f_whole_Mul) base_ok (fun n a H => by unfold f_whole_Mul; rfl) fun x y v h => by
  cases h; exact ⟨intW_free, fun base H a b hb k k' l l' => tot_int hb (whole_Mul_spec k k' (by omega))⟩
def g_nat_Mul (x y : Nat) : Option V := some (natW (x * y))
theorem xs_nat_Mul : ExtSound C.P i_nat_Mul (extF (dNN g_nat_Mul)) := ext_NN (c := f_nat_Mul) base_ok (fun n a H => by unfold f_nat_Mul; rfl) fun x y v h => by
  cases h; exact ⟨natW_free, fun base H s l t q hb r r' hL hL' hm hm' e e' => (nat_Mul_spec r r' (by omega) hL hL').mono fun v H' ⟨a, s1, e1, r1, f1⟩ => ⟨a, by subst e e' e1; exact fz_row r1 (f1.ge hb)⟩⟩
def g_nat_Trim (x : Nat) : Option V := some (natW x)
theorem xs_nat_Trim : ExtSound C.P i_nat_Trim (extF (dN g_nat_Trim)) := ext_N (c := f_nat_Trim) base_ok (fun n a H => by unfold f_nat_Trim; rfl) fun x v h => by
  cases h; exact ⟨natW_free, fun base H s l hb r hL hm e => (nat_Trim_spec r (by omega) hL).mono fun v H' ⟨a, s1, e1, r1, f1⟩ => ⟨a, by subst e e1; exact fz_row r1.row (Fr.ge f1 hb)⟩⟩
def g_rat_norm (n : Int) (d : Nat) : Option V := some (ratW (lowN n d) (lowD n d))
theorem xs_rat_norm : ExtSound C.P i_rat_norm (extF (dR g_rat_norm)) := ext_R (c := f_rat_norm) base_ok (fun n a H => by unfold f_rat_norm; rfl) fun x d v h => by
  cases h; exact ⟨ratW_free, fun base H a hb k => tot_rat hb (rat_norm_spec k (by omega))⟩
theorem xs_rat_lowest : ExtSound C.P i_rat_lowest (extF (dQN g_rat_norm)) := ext_QN (c := f_rat_lowest) base_ok (fun n a H => by unfold f_rat_lowest; rfl) fun x y v h => by
  cases h; exact ⟨ratW_free, fun base H b s l t q hb r r' hL hL' hm hm' e e' => by subst e e'; exact tot_rat hb (rat_lowest_spec r r' (by omega) (by omega) hL hL')⟩
def g_rat_Mul (n : Int) (d : Nat) (m : Int) (e : Nat) : Option V := some (ratW (lowN (lowN n d * lowN m e) (lowD n d * lowD m e)) (lowD (lowN n d * lowN m e) (lowD n d * lowD m e)))
theorem xs_rat_Mul : ExtSound C.P i_rat_Mul (extF (dRR g_rat_Mul)) := ext_RR (c := f_rat_Mul) base_ok (fun n a H => by unfold f_rat_Mul; rfl) fun x d y e v h => by
  cases h; exact ⟨ratW_free, fun base H a b hb k k' => tot_rat hb (rat_Mul_spec k k' (by omega))⟩
def g_rat_Make (n d : Int) : Option V := if 0 < d then some (.tuple [ratW (lowN n d.toNat) (lowD n d.toNat), .int .i64 0]) else none
theorem fz_pair {base : Nat} {H : Heap} {v u w : V} (h : ∃ ids, frzV H 5 v = some (u, ids) ∧ ∀ j ∈ ids, base ≤ j) (hp : w.plain1 = true) : Fz base H (.tuple [v, w]) (.tuple [u, w]) := by
  obtain ⟨ids, e, hi⟩ := h
  refine ⟨ids, ?_, hi⟩
  have hw : frzV H 5 w = some (w, []) := by unfold frzV; cases w <;> simp_all [V.plain1]
  unfold frzV
  simp only [frzL, e, hw]
  simp
theorem frz_rat5 {H : Heap} {base : Nat} {v : V} {n : Int} {d : Nat} (h : isR H base v n d) : ∃ ids, frzV H 5 v = some (ratW n d, ids) ∧ ∀ j ∈ ids, base ≤ j := by
  obtain ⟨b, s, t, rfl, ⟨s', e, r, f⟩, r2, f2, _⟩ := h
  simp at e
  obtain ⟨rfl, rfl⟩ := e
  obtain ⟨ids, e, hi⟩ := frz_row (d := 2) r f
  obtain ⟨ids2, e2, hi2⟩ := frz_row (d := 2) r2 f2
  refine ⟨ids ++ ids2, ?_, fun j hj => (List.mem_append.1 hj).elim (hi j) (hi2 j)⟩
  unfold frzV
  simp only [frzL, e, e2]
  simp [frzV, ratW, natW, digK_eq]
theorem xs_rat_Make : ExtSound C.P i_rat_Make (extF (dII g_rat_Make)) := ext_II (c := f_rat_Make) base_ok (fun n a H => by unfold f_rat_Make; rfl) fun x y v h => by
  unfold g_rat_Make at h
  split at h
  · rename_i hy
    cases h
    refine ⟨by simp [V.free, V.frees, ratW_free], fun base H a b hb k k' l l' => ?_⟩
    obtain ⟨e, rfl⟩ : ∃ e : Nat, y = (e : Int) := ⟨y.toNat, by omega⟩
    simp only [Int.toNat_natCast]
    refine (rat_Make_spec k k' (by omega) (by omega) (by simpa using Nat.lt_trans l' (by decide))).mono ?_
    rintro v H' ⟨a, v1, rfl, r⟩
    exact ⟨a, fz_pair (frz_rat5 (r.mono hb)) rfl⟩
  · cases h
def decT (x : Nat) : List UInt8 := if x = 0 then [48] else (lets (digK 10 x)).reverse.map UInt8.ofNat
theorem decT_eq (x : Nat) : decT x = dec x := by unfold decT dec; rw [digK_eq (by decide)]
def dD (g : Nat → Option V) : List V → Option V
  | [a] => match decL .i64 65536 a with
    | some l => if digK 65536 (val 65536 l) = l then g (val 65536 l) else none
    | none => none
  | _ => none
theorem ext_D {f : FuncId} {c : Nat → List V → Heap → Option R} (ok : C.Ok) {g : Nat → Option V} (hc : ∀ n args H, c n args H = callA C n f args H)
    (h : ∀ x v, g x = some v → v.free = true ∧ ∀ base H s, base ≤ H.n → Row H .i64 s (dig 65536 x) → (dig 65536 x).length < 1000000 →
      Tot (fun n => c n [.slice s] H) fun v0 H0 => Ext0 H H0 ∧ Fz base H0 v0 v) : ExtSound C.P f (extF (dD g)) := by
  refine ext_of ok hc ?_
  intro args v hd
  unfold dD at hd
  split at hd
  · split at hd
    · rename_i a l hl
      split at hd
      · rename_i he
        obtain ⟨h1, h2⟩ := h _ _ hd
        refine ⟨flats1 (decL_flat hl), h1, fun base H args' hb ht => ?_⟩
        obtain ⟨u, rfl, t⟩ := ths1 ht
        obtain ⟨s, rfl, r, f, hL, hm⟩ := decL_row hl t
        rw [digK_eq (by decide)] at he
        exact h2 base H s hb (by rw [he]; exact r) (by rw [he]; exact hm)
      · cases hd
    · cases hd
  · cases hd
def g_r3_Show (x : Nat) : Option V := some (.str (decT x))
theorem xs_r3_Show : ExtSound C.P i_ref03_Show (extF (dD g_r3_Show)) := ext_D (c := f_ref03_Show) base_ok (fun n a H => by unfold f_ref03_Show; rfl) fun x v h => by
  cases h; exact ⟨rfl, fun base H s hb r hm => tot_plain rfl (by rw [decT_eq]; exact r_show r (by omega))⟩
def g_r4_Long (z : Int) : Option V := some (intD z)
theorem xs_r4_Long : ExtSound C.P i_ref04_Long (extF (dZ g_r4_Long)) := ext_Z (c := f_ref04_Long) base_ok (fun n a H => by unfold f_ref04_Long; rfl) fun x v h => by
  cases h; exact ⟨intD_free, fun base H hb hx => tot_intD (r4_long (upP hb) hx)⟩
theorem xs_r4_Of : ExtSound C.P i_ref04_Of (extF (dQ g_r4_Long)) := ext_Q (c := f_ref04_Of) base_ok (fun n a H => by unfold f_ref04_Of; rfl) fun x v h => by
  cases h; exact ⟨intD_free, fun base H b s l hb r hL hm e => by subst e; exact tot_intD (r4_of (upP hb) r (by omega) hL)⟩
def g_r4_Neg (z : Int) : Option V := some (intD (-z))
theorem xs_r4_Neg : ExtSound C.P i_ref04_Neg (extF (dJ g_r4_Neg)) := ext_J (c := f_ref04_Neg) base_ok (fun n a H => by unfold f_ref04_Neg; rfl) fun x v h => by
  cases h; exact ⟨intD_free, fun base H a hb k l => tot_intD (r4_neg k)⟩
def g_r4_Add (x y : Int) : Option V := some (intD (x + y))
theorem xs_r4_Add : ExtSound C.P i_ref04_Add (extF (dJJ g_r4_Add)) := ext_JJ (c := f_ref04_Add) base_ok (fun n a H => by unfold f_ref04_Add; rfl) fun x y v h => by
  cases h; exact ⟨intD_free, fun base H a b hb k k' l l' => tot_intD (r4_add (upP hb) k k' (by omega) (by omega))⟩
def g_r4_Sub (x y : Int) : Option V := some (intD (x - y))
theorem xs_r4_Sub : ExtSound C.P i_ref04_Sub (extF (dJJ g_r4_Sub)) := ext_JJ (c := f_ref04_Sub) base_ok (fun n a H => by unfold f_ref04_Sub; rfl) fun x y v h => by
  cases h; exact ⟨intD_free, fun base H a b hb k k' l l' => tot_intD (r4_sub (upP hb) k k' (by omega) (by omega))⟩
def g_r4_Mul (x y : Int) : Option V := some (intD (x * y))
theorem xs_r4_Mul : ExtSound C.P i_ref04_Mul (extF (dJJ g_r4_Mul)) := ext_JJ (c := f_ref04_Mul) base_ok (fun n a H => by unfold f_ref04_Mul; rfl) fun x y v h => by
  cases h; exact ⟨intD_free, fun base H a b hb k k' l l' => tot_intD (r4_mul (upP hb) k k' (by omega))⟩
def g_r4_Cmp (x y : Int) : Option V := some (.int .i64 (x - y).sign)
theorem xs_r4_Cmp : ExtSound C.P i_ref04_Cmp (extF (dJJ g_r4_Cmp)) := ext_JJ (c := f_ref04_Cmp) base_ok (fun n a H => by unfold f_ref04_Cmp; rfl) fun x y v h => by
  cases h; exact ⟨rfl, fun base H a b hb k k' l l' => tot_plain rfl (r4_cmp (upP hb) k k' (by omega) (by omega))⟩
def g_r5_Long (z : Int) : Option V := some (ratD z 1)
theorem xs_r5_Long : ExtSound C.P i_ref05_Long (extF (dZ g_r5_Long)) := ext_Z (c := f_ref05_Long) base_ok (fun n a H => by unfold f_ref05_Long; rfl) fun x v h => by
  cases h; exact ⟨ratD_free, fun base H hb hx => tot_ratD (r5_long (upP hb) hx)⟩
def g_r5_Of (n : Int) (d : Nat) : Option V := some (ratD (if d = 0 then 0 else n) (if d = 0 then 1 else d))
theorem xs_r5_Of : ExtSound C.P i_ref05_Of (extF (dR g_r5_Of)) := ext_R (c := f_ref05_Of) base_ok (fun n a H => by unfold f_ref05_Of; rfl) fun x d v h => by
  cases h; exact ⟨ratD_free, fun base H a hb k => tot_ratD (r5_of (upP hb) k (by omega))⟩
def g_r5_Neg (n : Int) (d : Nat) : Option V := some (ratD (-n) d)
theorem xs_r5_Neg : ExtSound C.P i_ref05_Neg (extF (dK g_r5_Neg)) := ext_K (c := f_ref05_Neg) base_ok (fun n a H => by unfold f_ref05_Neg; rfl) fun x d v h => by
  cases h; exact ⟨ratD_free, fun base H a hb k l l' => tot_ratD (r5_neg (upP hb) k)⟩
def g_r5_Low (n : Int) (d : Nat) : Option V := some (ratD (lowN n d) (lowD n d))
theorem xs_r5_Low : ExtSound C.P i_ref05_Low (extF (dK g_r5_Low)) := ext_K (c := f_ref05_Low) base_ok (fun n a H => by unfold f_ref05_Low; rfl) fun x d v h => by
  cases h; exact ⟨ratD_free, fun base H a hb k l l' => tot_ratD (r5_low (upP hb) k (by omega) (by omega))⟩
def g_r5_Add (n : Int) (d : Nat) (m : Int) (e : Nat) : Option V := some (ratD (n * e + m * d) (d * e))
theorem xs_r5_Add : ExtSound C.P i_ref05_Add (extF (dKK g_r5_Add)) := ext_KK (c := f_ref05_Add) base_ok (fun n a H => by unfold f_ref05_Add; rfl) fun x d y e v h => by
  cases h; exact ⟨ratD_free, fun base H a b hb k k' l1 l2 l3 l4 => tot_ratD (r5_add (upP hb) k k' (by omega) (by omega) (by omega) (by omega))⟩
def g_r5_Sub (n : Int) (d : Nat) (m : Int) (e : Nat) : Option V := some (ratD (n * e - m * d) (d * e))
theorem xs_r5_Sub : ExtSound C.P i_ref05_Sub (extF (dKK g_r5_Sub)) := ext_KK (c := f_ref05_Sub) base_ok (fun n a H => by unfold f_ref05_Sub; rfl) fun x d y e v h => by
  cases h; exact ⟨ratD_free, fun base H a b hb k k' l1 l2 l3 l4 => tot_ratD (r5_sub (upP hb) k k' (by omega) (by omega) (by omega) (by omega))⟩
def g_r5_Mul (n : Int) (d : Nat) (m : Int) (e : Nat) : Option V := some (ratD (n * m) (d * e))
theorem xs_r5_Mul : ExtSound C.P i_ref05_Mul (extF (dKK g_r5_Mul)) := ext_KK (c := f_ref05_Mul) base_ok (fun n a H => by unfold f_ref05_Mul; rfl) fun x d y e v h => by
  cases h; exact ⟨ratD_free, fun base H a b hb k k' l1 l2 l3 l4 => tot_ratD (r5_mul (upP hb) k k' (by omega) (by omega))⟩
def g_r5_Cmp (n : Int) (d : Nat) (m : Int) (e : Nat) : Option V := some (.int .i64 (n * e - m * d).sign)
theorem xs_r5_Cmp : ExtSound C.P i_ref05_Cmp (extF (dKK g_r5_Cmp)) := ext_KK (c := f_ref05_Cmp) base_ok (fun n a H => by unfold f_ref05_Cmp; rfl) fun x d y e v h => by
  cases h; exact ⟨rfl, fun base H a b hb k k' l1 l2 l3 l4 => tot_plain rfl (r5_cmp (upP hb) k k' (by omega) (by omega) (by omega) (by omega))⟩
end Go.AM
end
section
set_option linter.unusedVariables false
set_option linter.unusedSimpArgs false
namespace Go.AM
def V.fro1 : V → Bool
  | .slice _ | .agg _ | .tuple _ => false
  | _ => true
def V.fro : V → Bool
  | .agg cs => cs.all V.fro1
  | v => v.fro1
theorem frzV_fro1 {H : Heap} {d : Nat} {v : V} (h : v.fro1 = true) : frzV H (d + 1) v = some (v, []) := by
  unfold frzV; cases v <;> simp_all [V.fro1]
theorem frzL_fro1 {H : Heap} {d : Nat} : ∀ {vs : List V}, vs.all V.fro1 = true → frzL (frzV H (d + 1)) vs = some (vs, [])
  | [], _ => rfl
  | v :: vs, h => by
    simp only [List.all_cons, Bool.and_eq_true] at h
    simp only [frzL, frzV_fro1 h.1, frzL_fro1 h.2]; rfl
theorem frzV_fro {H : Heap} {d : Nat} {v : V} (h : v.fro = true) : frzV H (d + 2) v = some (v, []) := by
  unfold V.fro at h
  split at h
  · unfold frzV; simp only [frzL_fro1 h]
  · exact frzV_fro1 h
theorem frzL_fro {H : Heap} {d : Nat} : ∀ {vs : List V}, vs.all V.fro = true → frzL (frzV H (d + 2)) vs = some (vs, [])
  | [], _ => rfl
  | v :: vs, h => by
    simp only [List.all_cons, Bool.and_eq_true] at h
    simp only [frzL, frzV_fro h.1, frzL_fro h.2]; rfl
theorem frzAs_fro {H : Heap} {vs : List V} (h : vs.all V.fro = true) : frzAs vs H = some (vs, H) := by
  unfold frzAs; rw [frzL_fro (d := 4) h]; rfl
theorem frzR_fro {H : Heap} {v : V} (h : v.fro = true) : frzR v H = some (v, H) := by
  unfold frzR; rw [frzV_fro (d := 4) h]; rfl
theorem Tot.frz {v v' : V} {H H' : Heap} {Q : V → Heap → Prop} (h : frzR v H = some (v', H')) (q : Q v' H') : Tot (fun _ => frzR v H) Q := ⟨v', H', q, 0, fun _ _ => h⟩
theorem Tot.rf {v : V} {H : Heap} {Q : V → Heap → Prop} (h : v.fro = true) (q : Q v H) : Tot (fun _ => frzR v H) Q := Tot.frz (frzR_fro h) q
theorem Tot.fnA {f g : Nat → Option R} {k : Nat → List V → Heap → Option R} {args : List V} {H : Heap} {Q : V → Heap → Prop} (hf : args.all V.fro = true) (he : ∀ n, f (n + 1) = inA true args H (k n)) (hk : ∀ n, k n args H = g n) (h : Tot g Q) : Tot f Q := by
  refine Tot.fn (fun n => ?_) h
  rw [he, ← hk]
  unfold inA
  rw [if_pos rfl, frzAs_fro hf]
theorem Tot.call {f : Nat → List V → Heap → Option R} {k : Nat → List V → Heap → Option R} (he : ∀ n args H, f (n + 1) args H = inA true args H (k n)) {args args' : List V} {H H' : Heap} {Q : V → Heap → Prop}
    (h1 : frzAs args H = some (args', H')) (h2 : args'.all V.fro = true) (h : Tot (fun n => f n args' H') Q) : Tot (fun n => f n args H) Q := by
  obtain ⟨v, G, q, n0, hn⟩ := h
  refine ⟨v, G, q, n0 + 1, fun n hle => ?_⟩
  obtain ⟨m, rfl⟩ : ∃ m, n = m + 1 := ⟨n - 1, by omega⟩
  have := hn (m + 1) (by omega)
  simp only [he] at this ⊢
  unfold inA at this ⊢
  rw [if_pos rfl, frzAs_fro h2] at this
  rw [if_pos rfl, h1]
  exact this
abbrev E0 : Heap := ⟨0, .nil⟩
theorem Tot.pu {f g : Nat → Option R} {k : Nat → List V → Option R} {args : List V} {H : Heap} {Q : V → Heap → Prop} (hf : args.all V.fro = true) (hg : V.frees args = true) (he : ∀ n, f (n + 1) = pureA args H (k n)) (hk : ∀ n, k n args = g n)
    (h : Tot g fun v _ => v.free = true ∧ Q v H) : Tot f Q := by
  obtain ⟨v, H', ⟨h1, h2⟩, n0, hn⟩ := h
  refine ⟨v, H, h2, n0 + 1, fun n hle => ?_⟩
  obtain ⟨m, rfl⟩ : ∃ m, n = m + 1 := ⟨n - 1, by omega⟩
  rw [he]
  unfold pureA
  rw [frzAs_fro hf]
  simp only [hg, if_true, hk, hn m (by omega), h1]
end Go.AM
end
section
set_option linter.unusedVariables false
set_option linter.unusedSimpArgs false
set_option linter.unusedSimpArgs false
set_option linter.unusedVariables false
namespace Go.AM
theorem low_mk {n : Int} {d : Nat} : lowN n d = (mkRat n d).num ∧ lowD n d = (mkRat n d).den := by
  unfold lowN lowD
  by_cases h : d = 0
  · subst h; simp
  · rw [if_neg h, if_neg h]
    have e : mkRat n d = Rat.normalize n d h := by rw [Rat.normalize_eq_mkRat]
    rw [e, Rat.num_normalize, Rat.den_normalize]
    refine ⟨?_, rfl⟩
    have hg : ((n.natAbs.gcd d : Nat) : Int) ∣ n := Int.ofNat_dvd_left.2 (Nat.gcd_dvd_left _ _)
    obtain ⟨k, hk⟩ := hg
    have hg0 : 0 < n.natAbs.gcd d := Nat.gcd_pos_of_pos_right _ (by omega)
    generalize hG : n.natAbs.gcd d = G at *
    have hn : n.natAbs = G * k.natAbs := by rw [hk, Int.natAbs_mul, Int.natAbs_natCast]
    rw [hn, Nat.mul_div_cancel_left _ hg0]
    conv => rhs; rw [hk, Int.mul_ediv_cancel_left _ (by omega)]
    have hlt : (n < 0) ↔ k < 0 := by
      rw [hk]
      constructor
      · intro h
        exact Int.neg_of_mul_neg_left (by rw [Int.mul_comm]; exact h) (by omega)
      · intro h
        exact Int.mul_neg_of_pos_of_neg (by omega) h
    rw [show decide (n < 0) = decide (k < 0) from by simp [hlt]]
    exact sgn_dec k
def ratQ (q : Rat) : V := ratW q.num q.den
def Bq (k : Nat) (q : Rat) : Prop := q.num.natAbs < 2 ^ k ∧ q.den < 2 ^ k
theorem Bq.mono {k m : Nat} {q : Rat} (h : Bq k q) (hm : k ≤ m) : Bq m q :=
  ⟨Nat.lt_of_lt_of_le h.1 (Nat.pow_le_pow_right (by decide) hm), Nat.lt_of_lt_of_le h.2 (Nat.pow_le_pow_right (by decide) hm)⟩
theorem mk_le (n : Int) (d : Nat) : (mkRat n d).num.natAbs ≤ n.natAbs ∧ (mkRat n d).den ≤ max d 1 := by
  rw [← low_mk.1, ← low_mk.2]; exact ⟨lowN_le, lowD_le⟩
theorem Bq.mk {k : Nat} {n : Int} {d : Nat} (h : n.natAbs < 2 ^ k) (h' : d < 2 ^ k) (hk : 0 < k) : Bq k (mkRat n d) := by
  have := mk_le n d
  have h2 : 1 < 2 ^ k := Nat.one_lt_two_pow (by omega)
  exact ⟨by omega, by omega⟩
theorem lt_mul2 {a b k m : Nat} (h : a < 2 ^ k) (h' : b < 2 ^ m) : a * b < 2 ^ (k + m) := by
  rw [Nat.pow_add]; exact Nat.mul_lt_mul'' h h'
theorem Bq.add {k m : Nat} {p q : Rat} (h : Bq k p) (h' : Bq m q) : Bq (k + m + 1) (p + q) := by
  rw [Rat.add_def']
  have a := lt_mul2 h.1 h'.2
  have b := lt_mul2 h'.1 h.2
  have c := lt_mul2 h.2 h'.2
  have e : 2 ^ (k + m + 1) = 2 ^ (k + m) + 2 ^ (k + m) := by rw [Nat.pow_succ]; omega
  have e2 : m + k = k + m := Nat.add_comm _ _
  rw [e2] at b
  refine Bq.mk ?_ (by omega) (by omega)
  have t := Int.natAbs_add_le (p.num * q.den) (q.num * p.den)
  rw [Int.natAbs_mul, Int.natAbs_mul, Int.natAbs_natCast, Int.natAbs_natCast] at t
  omega
theorem Bq.neg {k : Nat} {p : Rat} (h : Bq k p) : Bq k (-p) := by
  unfold Bq; rw [Rat.neg_num, Rat.neg_den, Int.natAbs_neg]; exact h
theorem Bq.sub {k m : Nat} {p q : Rat} (h : Bq k p) (h' : Bq m q) : Bq (k + m + 1) (p - q) := by
  rw [Rat.sub_eq_add_neg]; exact h.add h'.neg
theorem Bq.mul {k m : Nat} {p q : Rat} (h : Bq k p) (h' : Bq m q) (h0 : 0 < k) : Bq (k + m) (p * q) := by
  rw [Rat.mul_def']
  exact Bq.mk (by rw [Int.natAbs_mul]; exact lt_mul2 h.1 h'.1) (lt_mul2 h.2 h'.2) (by omega)
theorem dig_len2 {b k x : Nat} (hb : 2 ≤ b) (h : x < 2 ^ k) : (dig b x).length ≤ k :=
  dig_len_le hb (Nat.lt_of_lt_of_le h (Nat.pow_le_pow_left hb k))
theorem szW_of {x k : Nat} (h : x < 2 ^ k) (hk : k < 1000000) : szW x := by
  unfold szW; rw [digK_eq (by decide)]; exact Nat.lt_of_le_of_lt (dig_len2 (by decide) h) hk
theorem szD_of {x k : Nat} (h : x < 2 ^ k) (hk : k < 1000000) : szD x := by
  unfold szD; rw [digK_eq (by decide)]; exact Nat.lt_of_le_of_lt (dig_len2 (by decide) h) hk
theorem encN_fro1 {k : IntKind} {l : List Nat} : (encN k l).fro1 = true := by unfold encN; split <;> rfl
theorem natW_fro1 {x : Nat} : (natW x).fro1 = true := encN_fro1
theorem natD_fro1 {x : Nat} : (natD x).fro1 = true := encN_fro1
theorem natW_fro {x : Nat} : (natW x).fro = true := by unfold natW encN; split <;> rfl
theorem natD_fro {x : Nat} : (natD x).fro = true := by unfold natD encN; split <;> rfl
theorem intW_fro {z : Int} : (intW z).fro = true := by
  have h1 := fun x => natW_fro1 (x := x)
  have h2 := fun x => natD_fro1 (x := x)
  unfold intW V.fro
  simp only [List.all_cons, List.all_nil, h1, h2]
  rfl
theorem ratW_fro {n : Int} {d : Nat} : (ratW n d).fro = true := by
  have h1 := fun x => natW_fro1 (x := x)
  have h2 := fun x => natD_fro1 (x := x)
  unfold ratW V.fro
  simp only [List.all_cons, List.all_nil, h1, h2]
  rfl
theorem intD_fro {z : Int} : (intD z).fro = true := by
  have h1 := fun x => natW_fro1 (x := x)
  have h2 := fun x => natD_fro1 (x := x)
  unfold intD V.fro
  simp only [List.all_cons, List.all_nil, h1, h2]
  rfl
theorem ratD_fro {n : Int} {d : Nat} : (ratD n d).fro = true := by
  have h1 := fun x => natW_fro1 (x := x)
  have h2 := fun x => natD_fro1 (x := x)
  unfold ratD V.fro
  simp only [List.all_cons, List.all_nil, h1, h2]
  rfl
theorem encN_one {k : IntKind} {l : List Nat} : (encN k l).one = true := by unfold encN; split <;> rfl
theorem natW_one {x : Nat} : (natW x).one = true := encN_one
theorem natD_one {x : Nat} : (natD x).one = true := encN_one
theorem encN_cells {k : IntKind} {l : List Nat} : (encN k l).cells = [encN k l] := by unfold encN; split <;> rfl
theorem natW_cells {x : Nat} : (natW x).cells = [natW x] := encN_cells
theorem natD_cells {x : Nat} : (natD x).cells = [natD x] := encN_cells
theorem natD_free {x : Nat} : (natD x).free = true := encN_free
theorem ext_tot {dom : List V → Option V} {args : List V} {H : Heap} {v : V} {Q : V → Heap → Prop} (hf : args.all V.fro = true) (hd : dom args = some v) (q : Q v H) : Tot (fun _ => extF dom args H) Q := by
  refine ⟨v, H, q, 0, fun _ _ => ?_⟩
  unfold extF; rw [frzAs_fro hf]; simp only [hd]
end Go.AM
end
section
set_option linter.unusedVariables false
set_option linter.unusedSimpArgs false
namespace Go.AM
def extAdd64 (args : List V) (H : Heap) : Option R := match args with
  | [.int .u64 x, .int .u64 y, .int .u64 c] => if 0 ≤ x ∧ 0 ≤ y ∧ 0 ≤ c ∧ c ≤ 1 then some (.tuple [.int .u64 ((x + y + c) % 18446744073709551616), .int .u64 ((x + y + c) / 18446744073709551616)], H) else none
  | _ => none
def extSub64 (args : List V) (H : Heap) : Option R := match args with
  | [.int .u64 x, .int .u64 y, .int .u64 c] => if 0 ≤ x ∧ 0 ≤ y ∧ 0 ≤ c ∧ c ≤ 1 ∧ y ≤ 18446744073709551615 then some (.tuple [.int .u64 ((x - y - c) % 18446744073709551616), .int .u64 (if x < y + c then 1 else 0)], H) else none
  | _ => none
theorem extAdd64_frame : ExtFrame extAdd64 := by
  intro args H v H' X G h e
  unfold extAdd64 at h ⊢
  split at h
  · split at h
    · rename_i hc
      simp at h
      obtain ⟨rfl, rfl⟩ := h
      simp only [if_pos hc]
      exact ⟨G, rfl, e⟩
    · cases h
  · cases h
theorem extSub64_frame : ExtFrame extSub64 := by
  intro args H v H' X G h e
  unfold extSub64 at h ⊢
  split at h
  · split at h
    · rename_i hc
      simp at h
      obtain ⟨rfl, rfl⟩ := h
      simp only [if_pos hc]
      exact ⟨G, rfl, e⟩
    · cases h
  · cases h
def sub64E : Array Value → Sem Value := fun args => do
  let (x, y, b) ← Extern.MathBitsCarry.three "Sub64" args
  pure (Extern.MathBitsCarry.pair ((x + Extern.MathBitsCarry.m64 - y - b) % Extern.MathBitsCarry.m64) (if x < y + b then 1 else 0))
theorem three_args {μ : Mu} {x y c : Int} {xs : Array Value} (h : VRels μ [.int .u64 x, .int .u64 y, .int .u64 c] xs.toList) : xs = #[.int .u64 x, .int .u64 y, .int .u64 c] := by
  simp only [VRels, VRel] at h
  obtain ⟨_, _, e, rfl, _, _, rfl, rfl, _, _, rfl, rfl, rfl⟩ := h
  apply Array.ext'
  simpa using e
theorem xs_add64 {P : Program} {f : FuncId} {fn : Func} (hf : P.funcs[f]? = some fn) (hname : (fn.name == "runtime.NumGoroutine") = false) (hb : fn.body.isNone = true) (hn : Extern.findNext fn = none) (he : Extern.find fn = some add64Entry) : ExtSound P f extAdd64 := by
  intro args H v H' h B n0 w0 w μ xs hr _ hv
  unfold extAdd64 at h
  split at h
  · rename_i x y c
    split at h
    · rename_i hc
      obtain ⟨h1, h2, h3, h4⟩ := hc
      simp at h
      obtain ⟨rfl, rfl⟩ := h
      rw [three_args hv, run_callFunc_extern hf hname hb hn he, run_add64 x y c h1 h2 h3 h4]
      refine ⟨μ, Step.refl hr, ?_⟩
      simp only [VRel]
      exact ⟨_, rfl, by simp [VRels, VRel]⟩
    · cases h
  · cases h
theorem run_sub64E {P : Program} (x y b : Nat) (hb : b ≤ 1) (w : World) :
    (sub64E #[.int .u64 x, .int .u64 y, .int .u64 b]).run P w =
      .ok (.tuple #[.int .u64 (((x + 18446744073709551616 - y - b) % 18446744073709551616 : Nat) : Int), .int .u64 ((if x < y + b then 1 else 0 : Nat) : Int)]) w := by
  have : b = 0 ∨ b = 1 := by omega
  rcases this with rfl | rfl <;> rfl
theorem xs_sub64 {P : Program} {f : FuncId} {fn : Func} (hf : P.funcs[f]? = some fn) (hname : (fn.name == "runtime.NumGoroutine") = false) (hb : fn.body.isNone = true) (hn : Extern.findNext fn = none) (he : Extern.find fn = some sub64E) : ExtSound P f extSub64 := by
  intro args H v H' h B n0 w0 w μ xs hr _ hv
  unfold extSub64 at h
  split at h
  · rename_i x y c
    split at h
    · rename_i hc
      obtain ⟨h1, h2, h3, h4, h5⟩ := hc
      simp at h
      obtain ⟨rfl, rfl⟩ := h
      obtain ⟨X, rfl⟩ := Int.eq_ofNat_of_zero_le h1
      obtain ⟨Y, rfl⟩ := Int.eq_ofNat_of_zero_le h2
      obtain ⟨Z, rfl⟩ := Int.eq_ofNat_of_zero_le h3
      rw [three_args hv, run_callFunc_extern hf hname hb hn he, run_sub64E X Y Z (by omega)]
      refine ⟨μ, Step.refl hr, ?_⟩
      simp only [VRel]
      refine ⟨_, rfl, ?_⟩
      simp only [VRels, VRel]
      refine ⟨_, _, rfl, ?_, _, _, rfl, ?_, rfl⟩
      · congr 1; omega
      · congr 1
        by_cases h : X < Y + Z
        · rw [if_pos h, if_pos (by omega)]; rfl
        · rw [if_neg h, if_neg (by omega)]; rfl
    · cases h
  · cases h
end Go.AM
end
section
set_option linter.unusedVariables false
set_option linter.unusedSimpArgs false
namespace Go.AM.N
abbrev ty_bool : Nat := 4
abbrev ty_api_Int : Nat := 26
abbrev ty_api_Rat : Nat := 28
abbrev ty_api_Spot : Nat := 30
abbrev ty_ref04_Int : Nat := 38
abbrev ty_ref05_Rat : Nat := 40
abbrev ty_ref09_Spot : Nat := 45
abbrev ty_uint32 : Nat := 57
@[simp] theorem eqlA_ty_bool (a b : Bool) : eqlA P ty_bool (.bool a) (.bool b) = some (.bool (a == b)) := by kernel_rfl
def tabList : List (Nat × List (Nat × List Nat)) := [(3, []),
 (4, []),
 (5, []),
 (6, [(3, [0]), (5, [0, 3, 4])]),
 (7, [(4, [1, 2, 3, 4]), (6, [1, 2, 3, 4])]),
 (8, []),
 (9, []),
 (10, [(3, [0, 3, 4, 5, 6])]),
 (11, [(3, [0, 3, 4])]),
 (12, []),
 (14, [(5, [0, 2, 4, 5, 6, 7]), (10, [2, 4, 5, 6])]),
 (18, [(3, [0, 2, 3, 4])]),
 (22, []),
 (23, []),
 (24, []),
 (26, []),
 (27, [(5, [0, 5, 6])]),
 (28, [(5, [0, 3, 4, 5, 13, 14])]),
 (29, []),
 (33, []),
 (34, []),
 (42, []),
 (45, [(3, [0, 3, 4])]),
 (46, []),
 (47, []),
 (48, []),
 (49, []),
 (66, []),
 (68, []),
 (70, [(3, [2, 3, 7, 8, 9])]),
 (81, []),
 (83, []),
 (99, [])]
def tabs (f : FuncId) : Option (List (Nat × List Nat)) := tabList.lookup f
noncomputable def extList : List (Nat × (List V → Heap → Option R)) := [((13 : Nat), (extC (.bool true) : List V → Heap → Option R)),
 ((15 : Nat), (extF (dKK g_r5_Sub) : List V → Heap → Option R)),
 ((16 : Nat), (extF (dKK g_r5_Mul) : List V → Heap → Option R)),
 ((17 : Nat), (extF (dZ g_r5_Long) : List V → Heap → Option R)),
 ((19 : Nat), (extF (dKK g_r5_Add) : List V → Heap → Option R)),
 ((20 : Nat), (extF (dKK g_r5_Cmp) : List V → Heap → Option R)),
 ((21 : Nat), (extF (dR g_r5_Of) : List V → Heap → Option R)),
 ((25 : Nat), (extF (dK g_r5_Low) : List V → Heap → Option R)),
 ((35 : Nat), (extF (dK g_r5_Neg) : List V → Heap → Option R)),
 ((36 : Nat), (extF (dJJ g_r4_Mul) : List V → Heap → Option R)),
 ((37 : Nat), (extF (dZ g_r4_Long) : List V → Heap → Option R)),
 ((38 : Nat), (extF (dJJ g_r4_Add) : List V → Heap → Option R)),
 ((39 : Nat), (extF (dJJ g_r4_Cmp) : List V → Heap → Option R)),
 ((41 : Nat), (extF (dQ g_r4_Long) : List V → Heap → Option R)),
 ((56 : Nat), (extF (dJ g_r4_Neg) : List V → Heap → Option R)),
 ((62 : Nat), (extF (dJJ g_r4_Sub) : List V → Heap → Option R)),
 ((65 : Nat), (extF (dZ g_whole_Of) : List V → Heap → Option R)),
 ((67 : Nat), (extF (dR g_rat_norm) : List V → Heap → Option R)),
 ((69 : Nat), (extF (dRR g_rat_Mul) : List V → Heap → Option R)),
 ((76 : Nat), (extF (dD g_r3_Show) : List V → Heap → Option R)),
 ((79 : Nat), (extF (dQN g_rat_norm) : List V → Heap → Option R)),
 ((80 : Nat), (extF (dII g_whole_Add) : List V → Heap → Option R)),
 ((82 : Nat), (extF (dNN g_nat_Mul) : List V → Heap → Option R)),
 ((84 : Nat), (extF (dII g_whole_Mul) : List V → Heap → Option R)),
 ((92 : Nat), (extF (dN g_nat_Trim) : List V → Heap → Option R)),
 ((95 : Nat), (extF (dQ g_whole_Norm) : List V → Heap → Option R)),
 ((100 : Nat), (extF (dI g_whole_Neg) : List V → Heap → Option R)),
 ((133 : Nat), (extF (dII g_rat_Make) : List V → Heap → Option R)),
 ((153 : Nat), (extF (dI g_whole_Sign) : List V → Heap → Option R)),
 ((186 : Nat), (extSub64 : List V → Heap → Option R)),
 ((187 : Nat), (extAdd64 : List V → Heap → Option R))]
noncomputable def ext (f : FuncId) : Option (List V → Heap → Option R) := extList.lookup f
def faL : List Nat := []
def frL : List Nat := [6, 7, 9, 10, 11, 12, 14, 18, 22, 24, 28, 29, 33, 34, 42, 45, 46, 47, 48, 49, 66, 68, 70, 81, 83, 99]
def puL : List Nat := [3, 4, 5, 6, 7, 8, 9, 10, 11, 12, 14, 18, 22, 23, 24, 26, 27, 28, 29, 33, 34, 42, 45, 46, 47, 48, 49, 66, 68, 70, 81, 83, 99]
def pu (f : FuncId) : Bool := puL.contains f
def fa (f : FuncId) : Bool := faL.contains f
def fr (f : FuncId) : Bool := frL.contains f
noncomputable def C : Cfg := { P, tabs, ext, fa, fr, pu }
abbrev i_law42_lives : Nat := 13
abbrev i_ref05_Sub : Nat := 15
abbrev i_ref05_Mul : Nat := 16
abbrev i_ref05_Long : Nat := 17
abbrev i_ref05_Add : Nat := 19
abbrev i_ref05_Cmp : Nat := 20
abbrev i_ref05_Of : Nat := 21
abbrev i_ref05_Low : Nat := 25
abbrev i_energy_moment : Nat := 28
abbrev i_ref05_Neg : Nat := 35
abbrev i_ref04_Mul : Nat := 36
abbrev i_ref04_Long : Nat := 37
abbrev i_ref04_Add : Nat := 38
abbrev i_ref04_Cmp : Nat := 39
abbrev i_ref04_Of : Nat := 41
abbrev i_rat_Of : Nat := 46
abbrev i_rat_Add : Nat := 47
abbrev i_energy_part : Nat := 48
abbrev i_energy_seen : Nat := 49
abbrev i_ref04_Neg : Nat := 56
abbrev i_ref04_Sub : Nat := 62
abbrev i_whole_Of : Nat := 65
abbrev i_rat_add : Nat := 66
abbrev i_rat_norm : Nat := 67
abbrev i_rat_Sub : Nat := 68
abbrev i_rat_Mul : Nat := 69
abbrev i_energy_sum : Nat := 70
abbrev i_ref03_Show : Nat := 76
abbrev i_rat_lowest : Nat := 79
abbrev i_whole_Add : Nat := 80
abbrev i_rat_cross : Nat := 81
abbrev i_nat_Mul : Nat := 82
abbrev i_rat_neg : Nat := 83
abbrev i_whole_Mul : Nat := 84
abbrev i_nat_Trim : Nat := 92
abbrev i_whole_Norm : Nat := 95
abbrev i_rat_plain : Nat := 99
abbrev i_whole_Neg : Nat := 100
abbrev i_rat_Make : Nat := 133
abbrev i_whole_Sign : Nat := 153
abbrev i_math_bits_Sub64 : Nat := 186
abbrev i_math_bits_Add64 : Nat := 187
@[irreducible] noncomputable def f_law42_EnergyMoments (n : Nat) (args : List V) (H : Heap) : Option R := callA C n 3 args H
@[irreducible] noncomputable def f_law42_few (n : Nat) (args : List V) (H : Heap) : Option R := callA C n 6 args H
@[irreducible] noncomputable def f_law42_short (n : Nat) (args : List V) (H : Heap) : Option R := callA C n 7 args H
@[irreducible] noncomputable def f_ref05_Same (n : Nat) (args : List V) (H : Heap) : Option R := callA C n 8 args H
@[irreducible] noncomputable def f_energy_Moment (n : Nat) (args : List V) (H : Heap) : Option R := callA C n 9 args H
@[irreducible] noncomputable def f_ref42_Moment (n : Nat) (args : List V) (H : Heap) : Option R := callA C n 10 args H
@[irreducible] noncomputable def f_ref20_All (n : Nat) (args : List V) (H : Heap) : Option R := callA C n 11 args H
@[irreducible] noncomputable def f_ref20_Of (n : Nat) (args : List V) (H : Heap) : Option R := callA C n 12 args H
@[irreducible] noncomputable def f_law42_lives (n : Nat) (args : List V) (H : Heap) : Option R := callA C n 13 args H
@[irreducible] noncomputable def f_ref05_Sub (n : Nat) (args : List V) (H : Heap) : Option R := callA C n 15 args H
@[irreducible] noncomputable def f_ref05_Mul (n : Nat) (args : List V) (H : Heap) : Option R := callA C n 16 args H
@[irreducible] noncomputable def f_ref05_Long (n : Nat) (args : List V) (H : Heap) : Option R := callA C n 17 args H
@[irreducible] noncomputable def f_ref05_Add (n : Nat) (args : List V) (H : Heap) : Option R := callA C n 19 args H
@[irreducible] noncomputable def f_ref05_Cmp (n : Nat) (args : List V) (H : Heap) : Option R := callA C n 20 args H
@[irreducible] noncomputable def f_ref05_Of (n : Nat) (args : List V) (H : Heap) : Option R := callA C n 21 args H
@[irreducible] noncomputable def f_ref05_Div (n : Nat) (args : List V) (H : Heap) : Option R := callA C n 22 args H
@[irreducible] noncomputable def f_ref05_Low (n : Nat) (args : List V) (H : Heap) : Option R := callA C n 25 args H
@[irreducible] noncomputable def f_ref04_Same (n : Nat) (args : List V) (H : Heap) : Option R := callA C n 26 args H
@[irreducible] noncomputable def f_ref03_Same (n : Nat) (args : List V) (H : Heap) : Option R := callA C n 27 args H
@[irreducible] noncomputable def f_energy_moment (n : Nat) (args : List V) (H : Heap) : Option R := callA C n 28 args H
@[irreducible] noncomputable def f_ref42_Tri (n : Nat) (args : List V) (H : Heap) : Option R := callA C n 29 args H
@[irreducible] noncomputable def f_ref20_Tri (n : Nat) (args : List V) (H : Heap) : Option R := callA C n 33 args H
@[irreducible] noncomputable def f_ref20_mean (n : Nat) (args : List V) (H : Heap) : Option R := callA C n 34 args H
@[irreducible] noncomputable def f_ref05_Neg (n : Nat) (args : List V) (H : Heap) : Option R := callA C n 35 args H
@[irreducible] noncomputable def f_ref04_Mul (n : Nat) (args : List V) (H : Heap) : Option R := callA C n 36 args H
@[irreducible] noncomputable def f_ref04_Long (n : Nat) (args : List V) (H : Heap) : Option R := callA C n 37 args H
@[irreducible] noncomputable def f_ref04_Add (n : Nat) (args : List V) (H : Heap) : Option R := callA C n 38 args H
@[irreducible] noncomputable def f_ref04_Cmp (n : Nat) (args : List V) (H : Heap) : Option R := callA C n 39 args H
@[irreducible] noncomputable def f_ref04_Of (n : Nat) (args : List V) (H : Heap) : Option R := callA C n 41 args H
@[irreducible] noncomputable def f_ref03_Nat (n : Nat) (args : List V) (H : Heap) : Option R := callA C n 45 args H
@[irreducible] noncomputable def f_rat_Of (n : Nat) (args : List V) (H : Heap) : Option R := callA C n 46 args H
@[irreducible] noncomputable def f_rat_Add (n : Nat) (args : List V) (H : Heap) : Option R := callA C n 47 args H
@[irreducible] noncomputable def f_energy_part (n : Nat) (args : List V) (H : Heap) : Option R := callA C n 48 args H
@[irreducible] noncomputable def f_energy_seen (n : Nat) (args : List V) (H : Heap) : Option R := callA C n 49 args H
@[irreducible] noncomputable def f_ref04_Neg (n : Nat) (args : List V) (H : Heap) : Option R := callA C n 56 args H
@[irreducible] noncomputable def f_ref04_Sub (n : Nat) (args : List V) (H : Heap) : Option R := callA C n 62 args H
@[irreducible] noncomputable def f_whole_Of (n : Nat) (args : List V) (H : Heap) : Option R := callA C n 65 args H
@[irreducible] noncomputable def f_rat_add (n : Nat) (args : List V) (H : Heap) : Option R := callA C n 66 args H
@[irreducible] noncomputable def f_rat_norm (n : Nat) (args : List V) (H : Heap) : Option R := callA C n 67 args H
@[irreducible] noncomputable def f_rat_Sub (n : Nat) (args : List V) (H : Heap) : Option R := callA C n 68 args H
@[irreducible] noncomputable def f_rat_Mul (n : Nat) (args : List V) (H : Heap) : Option R := callA C n 69 args H
@[irreducible] noncomputable def f_energy_sum (n : Nat) (args : List V) (H : Heap) : Option R := callA C n 70 args H
@[irreducible] noncomputable def f_ref03_Show (n : Nat) (args : List V) (H : Heap) : Option R := callA C n 76 args H
@[irreducible] noncomputable def f_rat_lowest (n : Nat) (args : List V) (H : Heap) : Option R := callA C n 79 args H
@[irreducible] noncomputable def f_whole_Add (n : Nat) (args : List V) (H : Heap) : Option R := callA C n 80 args H
@[irreducible] noncomputable def f_rat_cross (n : Nat) (args : List V) (H : Heap) : Option R := callA C n 81 args H
@[irreducible] noncomputable def f_nat_Mul (n : Nat) (args : List V) (H : Heap) : Option R := callA C n 82 args H
@[irreducible] noncomputable def f_rat_neg (n : Nat) (args : List V) (H : Heap) : Option R := callA C n 83 args H
@[irreducible] noncomputable def f_whole_Mul (n : Nat) (args : List V) (H : Heap) : Option R := callA C n 84 args H
@[irreducible] noncomputable def f_nat_Trim (n : Nat) (args : List V) (H : Heap) : Option R := callA C n 92 args H
@[irreducible] noncomputable def f_whole_Norm (n : Nat) (args : List V) (H : Heap) : Option R := callA C n 95 args H
@[irreducible] noncomputable def f_rat_plain (n : Nat) (args : List V) (H : Heap) : Option R := callA C n 99 args H
@[irreducible] noncomputable def f_whole_Neg (n : Nat) (args : List V) (H : Heap) : Option R := callA C n 100 args H
@[irreducible] noncomputable def f_rat_Make (n : Nat) (args : List V) (H : Heap) : Option R := callA C n 133 args H
@[irreducible] noncomputable def f_whole_Sign (n : Nat) (args : List V) (H : Heap) : Option R := callA C n 153 args H
@[irreducible] noncomputable def f_math_bits_Sub64 (n : Nat) (args : List V) (H : Heap) : Option R := callA C n 186 args H
@[irreducible] noncomputable def f_math_bits_Add64 (n : Nat) (args : List V) (H : Heap) : Option R := callA C n 187 args H
theorem law42_lives_ext {H : Heap} {args : List V} {Q : V → Heap → Prop} (h : Tot (fun _ => (extC (.bool true) : List V → Heap → Option R) args H) Q) : Tot (fun n => f_law42_lives n args H) Q := Tot.fn (fun n => by unfold f_law42_lives; kernel_rfl) h
theorem ref05_Sub_ext {H : Heap} {args : List V} {Q : V → Heap → Prop} (h : Tot (fun _ => (extF (dKK g_r5_Sub) : List V → Heap → Option R) args H) Q) : Tot (fun n => f_ref05_Sub n args H) Q := Tot.fn (fun n => by unfold f_ref05_Sub; kernel_rfl) h
theorem ref05_Mul_ext {H : Heap} {args : List V} {Q : V → Heap → Prop} (h : Tot (fun _ => (extF (dKK g_r5_Mul) : List V → Heap → Option R) args H) Q) : Tot (fun n => f_ref05_Mul n args H) Q := Tot.fn (fun n => by unfold f_ref05_Mul; kernel_rfl) h
theorem ref05_Long_ext {H : Heap} {args : List V} {Q : V → Heap → Prop} (h : Tot (fun _ => (extF (dZ g_r5_Long) : List V → Heap → Option R) args H) Q) : Tot (fun n => f_ref05_Long n args H) Q := Tot.fn (fun n => by unfold f_ref05_Long; kernel_rfl) h
theorem ref05_Add_ext {H : Heap} {args : List V} {Q : V → Heap → Prop} (h : Tot (fun _ => (extF (dKK g_r5_Add) : List V → Heap → Option R) args H) Q) : Tot (fun n => f_ref05_Add n args H) Q := Tot.fn (fun n => by unfold f_ref05_Add; kernel_rfl) h
theorem ref05_Cmp_ext {H : Heap} {args : List V} {Q : V → Heap → Prop} (h : Tot (fun _ => (extF (dKK g_r5_Cmp) : List V → Heap → Option R) args H) Q) : Tot (fun n => f_ref05_Cmp n args H) Q := Tot.fn (fun n => by unfold f_ref05_Cmp; kernel_rfl) h
theorem ref05_Of_ext {H : Heap} {args : List V} {Q : V → Heap → Prop} (h : Tot (fun _ => (extF (dR g_r5_Of) : List V → Heap → Option R) args H) Q) : Tot (fun n => f_ref05_Of n args H) Q := Tot.fn (fun n => by unfold f_ref05_Of; kernel_rfl) h
theorem ref05_Low_ext {H : Heap} {args : List V} {Q : V → Heap → Prop} (h : Tot (fun _ => (extF (dK g_r5_Low) : List V → Heap → Option R) args H) Q) : Tot (fun n => f_ref05_Low n args H) Q := Tot.fn (fun n => by unfold f_ref05_Low; kernel_rfl) h
theorem ref05_Neg_ext {H : Heap} {args : List V} {Q : V → Heap → Prop} (h : Tot (fun _ => (extF (dK g_r5_Neg) : List V → Heap → Option R) args H) Q) : Tot (fun n => f_ref05_Neg n args H) Q := Tot.fn (fun n => by unfold f_ref05_Neg; kernel_rfl) h
theorem ref04_Mul_ext {H : Heap} {args : List V} {Q : V → Heap → Prop} (h : Tot (fun _ => (extF (dJJ g_r4_Mul) : List V → Heap → Option R) args H) Q) : Tot (fun n => f_ref04_Mul n args H) Q := Tot.fn (fun n => by unfold f_ref04_Mul; kernel_rfl) h
theorem ref04_Long_ext {H : Heap} {args : List V} {Q : V → Heap → Prop} (h : Tot (fun _ => (extF (dZ g_r4_Long) : List V → Heap → Option R) args H) Q) : Tot (fun n => f_ref04_Long n args H) Q := Tot.fn (fun n => by unfold f_ref04_Long; kernel_rfl) h
theorem ref04_Add_ext {H : Heap} {args : List V} {Q : V → Heap → Prop} (h : Tot (fun _ => (extF (dJJ g_r4_Add) : List V → Heap → Option R) args H) Q) : Tot (fun n => f_ref04_Add n args H) Q := Tot.fn (fun n => by unfold f_ref04_Add; kernel_rfl) h
theorem ref04_Cmp_ext {H : Heap} {args : List V} {Q : V → Heap → Prop} (h : Tot (fun _ => (extF (dJJ g_r4_Cmp) : List V → Heap → Option R) args H) Q) : Tot (fun n => f_ref04_Cmp n args H) Q := Tot.fn (fun n => by unfold f_ref04_Cmp; kernel_rfl) h
theorem ref04_Of_ext {H : Heap} {args : List V} {Q : V → Heap → Prop} (h : Tot (fun _ => (extF (dQ g_r4_Long) : List V → Heap → Option R) args H) Q) : Tot (fun n => f_ref04_Of n args H) Q := Tot.fn (fun n => by unfold f_ref04_Of; kernel_rfl) h
theorem ref04_Neg_ext {H : Heap} {args : List V} {Q : V → Heap → Prop} (h : Tot (fun _ => (extF (dJ g_r4_Neg) : List V → Heap → Option R) args H) Q) : Tot (fun n => f_ref04_Neg n args H) Q := Tot.fn (fun n => by unfold f_ref04_Neg; kernel_rfl) h
theorem ref04_Sub_ext {H : Heap} {args : List V} {Q : V → Heap → Prop} (h : Tot (fun _ => (extF (dJJ g_r4_Sub) : List V → Heap → Option R) args H) Q) : Tot (fun n => f_ref04_Sub n args H) Q := Tot.fn (fun n => by unfold f_ref04_Sub; kernel_rfl) h
theorem whole_Of_ext {H : Heap} {args : List V} {Q : V → Heap → Prop} (h : Tot (fun _ => (extF (dZ g_whole_Of) : List V → Heap → Option R) args H) Q) : Tot (fun n => f_whole_Of n args H) Q := Tot.fn (fun n => by unfold f_whole_Of; kernel_rfl) h
theorem rat_norm_ext {H : Heap} {args : List V} {Q : V → Heap → Prop} (h : Tot (fun _ => (extF (dR g_rat_norm) : List V → Heap → Option R) args H) Q) : Tot (fun n => f_rat_norm n args H) Q := Tot.fn (fun n => by unfold f_rat_norm; kernel_rfl) h
theorem rat_Mul_ext {H : Heap} {args : List V} {Q : V → Heap → Prop} (h : Tot (fun _ => (extF (dRR g_rat_Mul) : List V → Heap → Option R) args H) Q) : Tot (fun n => f_rat_Mul n args H) Q := Tot.fn (fun n => by unfold f_rat_Mul; kernel_rfl) h
theorem ref03_Show_ext {H : Heap} {args : List V} {Q : V → Heap → Prop} (h : Tot (fun _ => (extF (dD g_r3_Show) : List V → Heap → Option R) args H) Q) : Tot (fun n => f_ref03_Show n args H) Q := Tot.fn (fun n => by unfold f_ref03_Show; kernel_rfl) h
theorem rat_lowest_ext {H : Heap} {args : List V} {Q : V → Heap → Prop} (h : Tot (fun _ => (extF (dQN g_rat_norm) : List V → Heap → Option R) args H) Q) : Tot (fun n => f_rat_lowest n args H) Q := Tot.fn (fun n => by unfold f_rat_lowest; kernel_rfl) h
theorem whole_Add_ext {H : Heap} {args : List V} {Q : V → Heap → Prop} (h : Tot (fun _ => (extF (dII g_whole_Add) : List V → Heap → Option R) args H) Q) : Tot (fun n => f_whole_Add n args H) Q := Tot.fn (fun n => by unfold f_whole_Add; kernel_rfl) h
theorem nat_Mul_ext {H : Heap} {args : List V} {Q : V → Heap → Prop} (h : Tot (fun _ => (extF (dNN g_nat_Mul) : List V → Heap → Option R) args H) Q) : Tot (fun n => f_nat_Mul n args H) Q := Tot.fn (fun n => by unfold f_nat_Mul; kernel_rfl) h
theorem whole_Mul_ext {H : Heap} {args : List V} {Q : V → Heap → Prop} (h : Tot (fun _ => (extF (dII g_whole_Mul) : List V → Heap → Option R) args H) Q) : Tot (fun n => f_whole_Mul n args H) Q := Tot.fn (fun n => by unfold f_whole_Mul; kernel_rfl) h
theorem nat_Trim_ext {H : Heap} {args : List V} {Q : V → Heap → Prop} (h : Tot (fun _ => (extF (dN g_nat_Trim) : List V → Heap → Option R) args H) Q) : Tot (fun n => f_nat_Trim n args H) Q := Tot.fn (fun n => by unfold f_nat_Trim; kernel_rfl) h
theorem whole_Norm_ext {H : Heap} {args : List V} {Q : V → Heap → Prop} (h : Tot (fun _ => (extF (dQ g_whole_Norm) : List V → Heap → Option R) args H) Q) : Tot (fun n => f_whole_Norm n args H) Q := Tot.fn (fun n => by unfold f_whole_Norm; kernel_rfl) h
theorem whole_Neg_ext {H : Heap} {args : List V} {Q : V → Heap → Prop} (h : Tot (fun _ => (extF (dI g_whole_Neg) : List V → Heap → Option R) args H) Q) : Tot (fun n => f_whole_Neg n args H) Q := Tot.fn (fun n => by unfold f_whole_Neg; kernel_rfl) h
theorem rat_Make_ext {H : Heap} {args : List V} {Q : V → Heap → Prop} (h : Tot (fun _ => (extF (dII g_rat_Make) : List V → Heap → Option R) args H) Q) : Tot (fun n => f_rat_Make n args H) Q := Tot.fn (fun n => by unfold f_rat_Make; kernel_rfl) h
theorem whole_Sign_ext {H : Heap} {args : List V} {Q : V → Heap → Prop} (h : Tot (fun _ => (extF (dI g_whole_Sign) : List V → Heap → Option R) args H) Q) : Tot (fun n => f_whole_Sign n args H) Q := Tot.fn (fun n => by unfold f_whole_Sign; kernel_rfl) h
theorem math_bits_Sub64_ext {H : Heap} {args : List V} {Q : V → Heap → Prop} (h : Tot (fun _ => (extSub64 : List V → Heap → Option R) args H) Q) : Tot (fun n => f_math_bits_Sub64 n args H) Q := Tot.fn (fun n => by unfold f_math_bits_Sub64; kernel_rfl) h
theorem math_bits_Add64_ext {H : Heap} {args : List V} {Q : V → Heap → Prop} (h : Tot (fun _ => (extAdd64 : List V → Heap → Option R) args H) Q) : Tot (fun n => f_math_bits_Add64 n args H) Q := Tot.fn (fun n => by unfold f_math_bits_Add64; kernel_rfl) h
end Go.AM.N
end
section
set_option linter.unusedVariables false
set_option linter.unusedSimpArgs false
set_option maxRecDepth 1000000
set_option linter.unusedVariables false
namespace Go.AM.N
@[simp] noncomputable def law42_EnergyMoments_b (bd : B2) (n : Nat) (v0 v1 : V) (H : Heap) : Option R :=
 (bd (boxA ty_api_Spot v1) fun o1 =>
 (bd (f_law42_few n [v0] (H.push o1)) fun r2 =>
 (bd (faA 0 (.ptr (some (H.n, 0)))) fun t7_3 =>
 (bd (ldN 3 t7_3 (r2.2.more 0)) fun t8_4 =>
 (bd (f_law42_short n [t8_4] (r2.2.more 0)) fun r5 =>
 (bd (faA 3 (.ptr (some (H.n, 0)))) fun t10_6 =>
 (bd (ldN 3 t10_6 r5.2) fun t11_7 =>
 (bd (chk (ldN 3 t10_6 (r2.2.more 0)) t11_7) fun _ =>
 (bd (f_law42_short n [t11_7] r5.2) fun r8 =>
 (bd (flA [(0, 3), (3, 3)] [(.bool false), (.slice ⟨none, 0, 0, false⟩), (.slice ⟨none, 0, 0, false⟩), (.bool false), (.slice ⟨none, 0, 0, false⟩), (.slice ⟨none, 0, 0, false⟩)] [(0, r5.1), (1, r8.1)]) fun t13_9 =>
 (bd (stA 6 (.ptr (some (H.n, 0))) t13_9 r8.2) fun H10 =>
 (bd (ldN 6 (.ptr (some (H.n, 0))) (H10.more 0)) fun t15_11 =>
 (bd (f_energy_Moment n [r2.1, t15_11] (H10.more 0)) fun r12 =>
 (bd (f_ref20_All n [r2.1] r12.2) fun r13 =>
 (bd (ldN 6 (.ptr (some (H.n, 0))) r13.2) fun t19_14 =>
 (bd (chk (ldN 6 (.ptr (some (H.n, 0))) r12.2) t19_14) fun _ =>
 (bd (chk (ldN 6 (.ptr (some (H.n, 0))) (H10.more 0)) t19_14) fun _ =>
 (bd (f_ref20_Of n [t19_14] r13.2) fun r15 =>
 (bd (f_ref42_Moment n [r13.1, r15.1] r15.2) fun r16 =>
 (bd (f_ref05_Same n [r12.1, r16.1] r16.2) fun r17 =>
 (bd (asB r17.1) fun b18 =>
 if b18 = true then
 (bd (f_law42_lives n [] r17.2) fun r19 =>
 (some (r19.1, r19.2)))
 else
 (some ((.bool false), r17.2)))))))))))))))))))))))
theorem law42_EnergyMoments_in (n : Nat) (a : List V) (H : Heap) : f_law42_EnergyMoments (n + 1) a H = pureA a H (fun a => E C n 3 [] (argsA 0 a) ⟨0, .nil⟩ (kR C 3)) := by unfold f_law42_EnergyMoments; kernel_rfl
theorem law42_EnergyMoments_tot {v0 v1 : V} {H : Heap} {Q : V → Heap → Prop} (hf : List.all [v0, v1] V.fro = true) (hg : V.frees [v0, v1] = true) (h : Tot (fun n => law42_EnergyMoments_b @bnd n v0 v1 E0) fun v _ => v.free = true ∧ Q v H) : Tot (fun n => f_law42_EnergyMoments n [v0, v1] H) Q := Tot.pu (k := fun n a => E C n 3 [] (argsA 0 a) ⟨0, .nil⟩ (kR C 3)) hf hg (fun n => law42_EnergyMoments_in n _ _) (fun n => bd_bnd (fun bd => law42_EnergyMoments_b bd n v0 v1 E0) (by kernel_rfl)) h
@[irreducible] noncomputable def law42_few.p0 (n : Nat) (v0 : V) (H : Heap) : Option R := E C n 6 [1, 1] [(0, v0)] H (kR C 6)
@[irreducible] noncomputable def law42_few.l1 (n m0 : Nat) (v0 v3 v4 : V) (H : Heap) : Option R := Lp C n 6 [1, 1, 1, 0, 1, 0, 0] m0 [(0, v0), (3, v3), (4, v4)] H (kB 0 (kC C n 6 [1, 1, 1, 1] (kR C 6)))
@[simp] noncomputable def law42_few.p0_b (bd : B2) (n : Nat) (v0 : V) (H : Heap) : Option R :=
 (bd (bSl 6 ty_api_Spot [(.bool false), (.slice ⟨none, 0, 0, false⟩), (.slice ⟨none, 0, 0, false⟩), (.bool false), (.slice ⟨none, 0, 0, false⟩), (.slice ⟨none, 0, 0, false⟩)] 0 []) fun o1 =>
 (law42_few.l1 n n v0 (.slice ⟨some (H.n, 0), 0, 6, false⟩) (.int .i64 0) (H.push o1)))
theorem law42_few.p0_tot {v0 : V} {H : Heap} {Q : V → Heap → Prop} (h : Tot (fun n => law42_few.p0_b @bnd n v0 H) Q) : Tot (fun n => law42_few.p0 n v0 H) Q := Tot.eq (fun n => bd_bnd (fun bd => law42_few.p0_b bd n v0 H) (by kernel_rfl)) h
@[simp] noncomputable def law42_few.l1_b (bd : B2) (n m0 : Nat) (v0 v3 v4 : V) (H : Heap) : Option R :=
 (bd (lenSl v0) fun t13_1 =>
 (bd (arA .lss v4 t13_1) fun t14_2 =>
 (bd (asB t14_2) fun b3 =>
 if b3 = true then
 (bd (idxS 6 v0 v4) fun t20_4 =>
 (bd (faA 0 t20_4) fun t21_5 =>
 (bd (ldN 3 t21_5 (H.more 1)) fun t22_6 =>
 (bd (f_law42_short n [t22_6] (H.more 1)) fun r7 =>
 (bd (idxS 6 v0 v4) fun t26_8 =>
 (bd (faA 3 t26_8) fun t27_9 =>
 (bd (ldN 3 t27_9 r7.2) fun t28_10 =>
 (bd (chk (ldN 3 t27_9 (H.more 1)) t28_10) fun _ =>
 (bd (f_law42_short n [t28_10] r7.2) fun r11 =>
 (bd (flA [(0, 3), (3, 3)] [(.bool false), (.slice ⟨none, 0, 0, false⟩), (.slice ⟨none, 0, 0, false⟩), (.bool false), (.slice ⟨none, 0, 0, false⟩), (.slice ⟨none, 0, 0, false⟩)] [(0, r7.1), (1, r11.1)]) fun t30_12 =>
 (bd (bSl 6 ty_api_Spot [(.bool false), (.slice ⟨none, 0, 0, false⟩), (.slice ⟨none, 0, 0, false⟩), (.bool false), (.slice ⟨none, 0, 0, false⟩), (.slice ⟨none, 0, 0, false⟩)] 1 [(0, t30_12)]) fun o13 =>
 (bd (appA 6 112 ty_api_Spot v3 (.slice ⟨some ((H.n + 0), 0), 1, 6, false⟩) (r11.2.set (H.n + 0) o13)) fun p14 =>
 (bd (arA .add v4 (.int .i64 1)) fun t16_15 =>
 (law42_few.l1 n m0 v0 p14.1 t16_15 p14.2))))))))))))))
 else
 (frzR v3 H))))
theorem law42_few.l1_tot {m0 : Nat → Nat} {v0 v3 v4 : V} {H : Heap} {Q : V → Heap → Prop} (hb : Big m0) (h : ∀ m0', Big m0' → Tot (fun n => law42_few.l1_b @bnd n (m0' n) v0 v3 v4 H) Q) : Tot (fun n => law42_few.l1 n (m0 n) v0 v3 v4 H) Q :=
  Tot.loop (f := fun n k => law42_few.l1 n k v0 v3 v4 H) (g := fun n k => law42_few.l1_b @bnd n k v0 v3 v4 H) hb (fun n k => bd_bnd (fun bd => law42_few.l1_b bd n k v0 v3 v4 H) (by kernel_rfl)) h
@[simp] noncomputable def law42_few_b (bd : B2) (n : Nat) (v0 : V) (H : Heap) : Option R :=
 (bd (lenSl v0) fun t6_1 =>
 (bd (arA .gtr t6_1 (.int .i64 6)) fun t7_2 =>
 (bd (asB t7_2) fun b3 =>
 if b3 = true then
 (bd (slSl 6 v0 none (some (.int .i64 6))) fun t9_4 =>
 (law42_few.p0 n t9_4 H))
 else
 (law42_few.p0 n v0 H))))
theorem law42_few_in (n : Nat) (a : List V) (H : Heap) : f_law42_few (n + 1) a H = pureA a H (fun a => E C n 6 [] (argsA 0 a) ⟨0, .nil⟩ (kR C 6)) := by unfold f_law42_few; kernel_rfl
theorem law42_few_tot {v0 : V} {H : Heap} {Q : V → Heap → Prop} (hf : List.all [v0] V.fro = true) (hg : V.frees [v0] = true) (h : Tot (fun n => law42_few_b @bnd n v0 E0) fun v _ => v.free = true ∧ Q v H) : Tot (fun n => f_law42_few n [v0] H) Q := Tot.pu (k := fun n a => E C n 6 [] (argsA 0 a) ⟨0, .nil⟩ (kR C 6)) hf hg (fun n => law42_few_in n _ _) (fun n => bd_bnd (fun bd => law42_few_b bd n v0 E0) (by kernel_rfl)) h
@[irreducible] noncomputable def law42_short.p0 (n : Nat) (v1 v2 v3 v4 : V) (H : Heap) : Option R := E C n 7 [1, 1, 1] [(1, v1), (2, v2), (3, v3), (4, v4)] H (kR C 7)
@[irreducible] noncomputable def law42_short.p1 (n : Nat) (v1 v2 v3 v4 : V) (H : Heap) : Option R := E C n 7 [1, 1, 1, 1] [(1, v1), (2, v2), (3, v3), (4, v4)] H (kR C 7)
@[simp] noncomputable def law42_short.p0_b (bd : B2) (n : Nat) (v1 v2 v3 v4 : V) (H : Heap) : Option R :=
 (bd (lenSl v4) fun t16_1 =>
 (bd (arA .gtr t16_1 (.int .i64 1)) fun t17_2 =>
 (bd (asB t17_2) fun b3 =>
 if b3 = true then
 (bd (slSl 1 v4 none (some (.int .i64 1))) fun t19_4 =>
 (law42_short.p1 n v1 v2 v3 t19_4 H))
 else
 (law42_short.p1 n v1 v2 v3 v4 H))))
theorem law42_short.p0_tot {v1 v2 v3 v4 : V} {H : Heap} {Q : V → Heap → Prop} (h : Tot (fun n => law42_short.p0_b @bnd n v1 v2 v3 v4 H) Q) : Tot (fun n => law42_short.p0 n v1 v2 v3 v4 H) Q := Tot.eq (fun n => bd_bnd (fun bd => law42_short.p0_b bd n v1 v2 v3 v4 H) (by kernel_rfl)) h
@[simp] noncomputable def law42_short.p1_b (bd : B2) (n : Nat) (v1 v2 v3 v4 : V) (H : Heap) : Option R :=
 (bd (bSl 1 ty_uint32 [(.int .u32 0)] 0 []) fun o1 =>
 (bd (appA 1 4 ty_uint32 (.slice ⟨some ((H.n + 0), 0), 0, 1, false⟩) v3 ((H.more 2).set (H.n + 0) o1)) fun p2 =>
 (bd (bSl 1 ty_uint32 [(.int .u32 0)] 0 []) fun o3 =>
 (bd (appA 1 4 ty_uint32 (.slice ⟨some ((H.n + 1), 0), 0, 1, false⟩) v4 (p2.2.set (H.n + 1) o3)) fun p4 =>
 (bd (faA 0 v1) fun t20_5 =>
 (bd (faA 0 t20_5) fun t21_6 =>
 (bd (ld1 t21_6 p4.2) fun t22_7 =>
 (bd (chk (ld1 t21_6 p2.2) t22_7) fun _ =>
 (bd (chk (ld1 t21_6 (H.more 2)) t22_7) fun _ =>
 (bd (flA [(0, 1), (1, 1)] [(.bool false), (.slice ⟨none, 0, 0, false⟩)] [(0, t22_7), (1, p2.1)]) fun t26_8 =>
 (bd (flA [(0, 2), (2, 1)] [(.bool false), (.slice ⟨none, 0, 0, false⟩), (.slice ⟨none, 0, 0, false⟩)] [(0, t26_8), (1, p4.1)]) fun t30_9 =>
 (bd (stA 3 v2 t30_9 p4.2) fun H10 =>
 (bd (ldN 3 v2 H10) fun t11 =>
 (frzR t11 H10))))))))))))))
theorem law42_short.p1_tot {v1 v2 v3 v4 : V} {H : Heap} {Q : V → Heap → Prop} (h : Tot (fun n => law42_short.p1_b @bnd n v1 v2 v3 v4 H) Q) : Tot (fun n => law42_short.p1 n v1 v2 v3 v4 H) Q := Tot.eq (fun n => bd_bnd (fun bd => law42_short.p1_b bd n v1 v2 v3 v4 H) (by kernel_rfl)) h
@[simp] noncomputable def law42_short_b (bd : B2) (n : Nat) (v0 : V) (H : Heap) : Option R :=
 (bd (boxA ty_api_Rat v0) fun o1 =>
 (bd (faA 0 (.ptr (some (H.n, 0)))) fun t5_2 =>
 (bd (faA 1 t5_2) fun t6_3 =>
 (bd (ld1 t6_3 (((H.push o1).push (.cells [(.bool false), (.slice ⟨none, 0, 0, false⟩), (.slice ⟨none, 0, 0, false⟩)] ty_api_Rat false)).more 0)) fun t7_4 =>
 (bd (faA 2 (.ptr (some (H.n, 0)))) fun t8_5 =>
 (bd (ld1 t8_5 (((H.push o1).push (.cells [(.bool false), (.slice ⟨none, 0, 0, false⟩), (.slice ⟨none, 0, 0, false⟩)] ty_api_Rat false)).more 0)) fun t9_6 =>
 (bd (lenSl t7_4) fun t11_7 =>
 (bd (arA .gtr t11_7 (.int .i64 2)) fun t12_8 =>
 (bd (asB t12_8) fun b9 =>
 if b9 = true then
 (bd (slSl 1 t7_4 none (some (.int .i64 2))) fun t14_10 =>
 (law42_short.p0 n (.ptr (some (H.n, 0))) (.ptr (some ((H.push o1).n, 0))) t14_10 t9_6 (((H.push o1).push (.cells [(.bool false), (.slice ⟨none, 0, 0, false⟩), (.slice ⟨none, 0, 0, false⟩)] ty_api_Rat false)).more 0)))
 else
 (law42_short.p0 n (.ptr (some (H.n, 0))) (.ptr (some ((H.push o1).n, 0))) t7_4 t9_6 (((H.push o1).push (.cells [(.bool false), (.slice ⟨none, 0, 0, false⟩), (.slice ⟨none, 0, 0, false⟩)] ty_api_Rat false)).more 0)))))))))))
theorem law42_short_in (n : Nat) (a : List V) (H : Heap) : f_law42_short (n + 1) a H = pureA a H (fun a => E C n 7 [] (argsA 0 a) ⟨0, .nil⟩ (kR C 7)) := by unfold f_law42_short; kernel_rfl
theorem law42_short_tot {v0 : V} {H : Heap} {Q : V → Heap → Prop} (hf : List.all [v0] V.fro = true) (hg : V.frees [v0] = true) (h : Tot (fun n => law42_short_b @bnd n v0 E0) fun v _ => v.free = true ∧ Q v H) : Tot (fun n => f_law42_short n [v0] H) Q := Tot.pu (k := fun n a => E C n 7 [] (argsA 0 a) ⟨0, .nil⟩ (kR C 7)) hf hg (fun n => law42_short_in n _ _) (fun n => bd_bnd (fun bd => law42_short_b bd n v0 E0) (by kernel_rfl)) h
@[simp] noncomputable def ref05_Same_b (bd : B2) (n : Nat) (v0 v1 : V) (H : Heap) : Option R :=
 (bd (boxA ty_api_Rat v0) fun o1 =>
 (bd (boxA ty_ref05_Rat v1) fun o2 =>
 (bd (ldN 4 (.ptr (some ((H.push o1).n, 0))) ((H.push o1).push o2)) fun t6_3 =>
 (bd (f_ref05_Low n [t6_3] ((H.push o1).push o2)) fun r4 =>
 (bd (stA 4 (.ptr (some (r4.2.n, 0))) r4.1 (r4.2.push (.cells [(.int .i64 0), (.slice ⟨none, 0, 0, false⟩), (.int .i64 0), (.slice ⟨none, 0, 0, false⟩)] ty_ref05_Rat false))) fun H5 =>
 (bd (faA 0 (.ptr (some (H.n, 0)))) fun t8_6 =>
 (bd (ldN 2 t8_6 H5) fun t9_7 =>
 (bd (faA 0 (.ptr (some (r4.2.n, 0)))) fun t10_8 =>
 (bd (ldN 2 t10_8 H5) fun t11_9 =>
 (bd (f_ref04_Same n [t9_7, t11_9] H5) fun r10 =>
 (bd (asB r10.1) fun b11 =>
 if b11 = true then
 (bd (faA 2 (.ptr (some (H.n, 0)))) fun t14_12 =>
 (bd (ld1 t14_12 r10.2) fun t15_13 =>
 (bd (faA 2 (.ptr (some (r4.2.n, 0)))) fun t16_14 =>
 (bd (faA 1 t16_14) fun t17_15 =>
 (bd (ld1 t17_15 r10.2) fun t18_16 =>
 (bd (f_ref03_Same n [t15_13, t18_16] r10.2) fun r17 =>
 (some (r17.1, r17.2))))))))
 else
 (some ((.bool false), r10.2)))))))))))))
theorem ref05_Same_in (n : Nat) (a : List V) (H : Heap) : f_ref05_Same (n + 1) a H = pureA a H (fun a => E C n 8 [] (argsA 0 a) ⟨0, .nil⟩ (kR C 8)) := by unfold f_ref05_Same; kernel_rfl
theorem ref05_Same_tot {v0 v1 : V} {H : Heap} {Q : V → Heap → Prop} (hf : List.all [v0, v1] V.fro = true) (hg : V.frees [v0, v1] = true) (h : Tot (fun n => ref05_Same_b @bnd n v0 v1 E0) fun v _ => v.free = true ∧ Q v H) : Tot (fun n => f_ref05_Same n [v0, v1] H) Q := Tot.pu (k := fun n a => E C n 8 [] (argsA 0 a) ⟨0, .nil⟩ (kR C 8)) hf hg (fun n => ref05_Same_in n _ _) (fun n => bd_bnd (fun bd => ref05_Same_b bd n v0 v1 E0) (by kernel_rfl)) h
@[simp] noncomputable def energy_Moment_b (bd : B2) (n : Nat) (v0 v1 : V) (H : Heap) : Option R :=
 (bd (boxA ty_api_Spot v1) fun o1 =>
 (bd (ldN 6 (.ptr (some (H.n, 0))) ((H.push o1).push (.cells [(.bool false), (.slice ⟨none, 0, 0, false⟩), (.slice ⟨none, 0, 0, false⟩)] ty_api_Rat false))) fun t6_2 =>
 (bd (f_energy_moment n [v0, t6_2] ((H.push o1).push (.cells [(.bool false), (.slice ⟨none, 0, 0, false⟩), (.slice ⟨none, 0, 0, false⟩)] ty_api_Rat false))) fun r3 =>
 (bd (stA 3 (.ptr (some ((H.push o1).n, 0))) r3.1 r3.2) fun H4 =>
 (bd (ldN 3 (.ptr (some ((H.push o1).n, 0))) H4) fun t5 =>
 (frzR t5 H4))))))
theorem energy_Moment_in (n : Nat) (a : List V) (H : Heap) : f_energy_Moment (n + 1) a H = pureA a H (fun a => E C n 9 [] (argsA 0 a) ⟨0, .nil⟩ (kR C 9)) := by unfold f_energy_Moment; kernel_rfl
theorem energy_Moment_tot {v0 v1 : V} {H : Heap} {Q : V → Heap → Prop} (hf : List.all [v0, v1] V.fro = true) (hg : V.frees [v0, v1] = true) (h : Tot (fun n => energy_Moment_b @bnd n v0 v1 E0) fun v _ => v.free = true ∧ Q v H) : Tot (fun n => f_energy_Moment n [v0, v1] H) Q := Tot.pu (k := fun n a => E C n 9 [] (argsA 0 a) ⟨0, .nil⟩ (kR C 9)) hf hg (fun n => energy_Moment_in n _ _) (fun n => bd_bnd (fun bd => energy_Moment_b bd n v0 v1 E0) (by kernel_rfl)) h
@[irreducible] noncomputable def ref42_Moment.l0 (n m0 : Nat) (v0 v3 v4 v5 v6 : V) (H : Heap) : Option R := Lp C n 10 [1, 1, 0, 1, 0, 0] m0 [(0, v0), (3, v3), (4, v4), (5, v5), (6, v6)] H (kB 0 (kC C n 10 [1, 1, 1] (kR C 10)))
@[simp] noncomputable def ref42_Moment.l0_b (bd : B2) (n m0 : Nat) (v0 v3 v4 v5 v6 : V) (H : Heap) : Option R :=
 (bd (lenSl v0) fun t10_1 =>
 (bd (arA .lss v6 t10_1) fun t11_2 =>
 (bd (asB t11_2) fun b3 =>
 if b3 = true then
 (bd (lenSl v0) fun t14_4 =>
 (bd (arA .gtr t14_4 (.int .i64 2)) fun t15_5 =>
 (bd (asB t15_5) fun b6 =>
 if b6 = true then
 (bd (ldN 8 v3 (H.more 0)) fun t20_7 =>
 (bd (idxS 8 v0 v6) fun t23_8 =>
 (bd (ldN 8 t23_8 (H.more 0)) fun t24_9 =>
 (bd (arA .add v6 (.int .i64 1)) fun t27_10 =>
 (bd (lenSl v0) fun t29_11 =>
 (bd (arA .rem t27_10 t29_11) fun t30_12 =>
 (bd (idxS 8 v0 t30_12) fun t31_13 =>
 (bd (ldN 8 t31_13 (H.more 0)) fun t32_14 =>
 (bd (f_ref42_Tri n [t20_7, t24_9, t32_14] (H.more 0)) fun r15 =>
 (bd (ldN 4 v5 r15.2) fun t19_16 =>
 (bd (chk (ldN 4 v5 (H.more 0)) t19_16) fun _ =>
 (bd (f_ref05_Add n [t19_16, r15.1] r15.2) fun r17 =>
 (bd (f_ref05_Low n [r17.1] r17.2) fun r18 =>
 (bd (stA 4 v5 r18.1 r18.2) fun H19 =>
 (bd (arA .add v6 (.int .i64 1)) fun t18_20 =>
 (ref42_Moment.l0 n m0 v0 v3 v4 v5 t18_20 H19))))))))))))))))
 else
 (bd (ldN 4 v5 H) fun t36_21 =>
 (bd (stA 4 v4 t36_21 H) fun H22 =>
 (bd (ldN 4 v4 H22) fun t23 =>
 (frzR t23 H22)))))))
 else
 (bd (ldN 4 v5 H) fun t36_24 =>
 (bd (stA 4 v4 t36_24 H) fun H25 =>
 (bd (ldN 4 v4 H25) fun t26 =>
 (frzR t26 H25)))))))
theorem ref42_Moment.l0_tot {m0 : Nat → Nat} {v0 v3 v4 v5 v6 : V} {H : Heap} {Q : V → Heap → Prop} (hb : Big m0) (h : ∀ m0', Big m0' → Tot (fun n => ref42_Moment.l0_b @bnd n (m0' n) v0 v3 v4 v5 v6 H) Q) : Tot (fun n => ref42_Moment.l0 n (m0 n) v0 v3 v4 v5 v6 H) Q :=
  Tot.loop (f := fun n k => ref42_Moment.l0 n k v0 v3 v4 v5 v6 H) (g := fun n k => ref42_Moment.l0_b @bnd n k v0 v3 v4 v5 v6 H) hb (fun n k => bd_bnd (fun bd => ref42_Moment.l0_b bd n k v0 v3 v4 v5 v6 H) (by kernel_rfl)) h
@[simp] noncomputable def ref42_Moment_b (bd : B2) (n : Nat) (v0 v1 : V) (H : Heap) : Option R :=
 (bd (boxA ty_ref09_Spot v1) fun o1 =>
 (bd (f_ref05_Long n [(.int .i64 0)] ((H.push o1).push (.cells [(.int .i64 0), (.slice ⟨none, 0, 0, false⟩), (.int .i64 0), (.slice ⟨none, 0, 0, false⟩)] ty_ref05_Rat false))) fun r2 =>
 (bd (stA 4 (.ptr (some (r2.2.n, 0))) r2.1 (r2.2.push (.cells [(.int .i64 0), (.slice ⟨none, 0, 0, false⟩), (.int .i64 0), (.slice ⟨none, 0, 0, false⟩)] ty_ref05_Rat false))) fun H3 =>
 (ref42_Moment.l0 n n v0 (.ptr (some (H.n, 0))) (.ptr (some ((H.push o1).n, 0))) (.ptr (some (r2.2.n, 0))) (.int .i64 0) H3))))
theorem ref42_Moment_in (n : Nat) (a : List V) (H : Heap) : f_ref42_Moment (n + 1) a H = pureA a H (fun a => E C n 10 [] (argsA 0 a) ⟨0, .nil⟩ (kR C 10)) := by unfold f_ref42_Moment; kernel_rfl
theorem ref42_Moment_tot {v0 v1 : V} {H : Heap} {Q : V → Heap → Prop} (hf : List.all [v0, v1] V.fro = true) (hg : V.frees [v0, v1] = true) (h : Tot (fun n => ref42_Moment_b @bnd n v0 v1 E0) fun v _ => v.free = true ∧ Q v H) : Tot (fun n => f_ref42_Moment n [v0, v1] H) Q := Tot.pu (k := fun n a => E C n 10 [] (argsA 0 a) ⟨0, .nil⟩ (kR C 10)) hf hg (fun n => ref42_Moment_in n _ _) (fun n => bd_bnd (fun bd => ref42_Moment_b bd n v0 v1 E0) (by kernel_rfl)) h
@[irreducible] noncomputable def ref20_All.l0 (n m0 : Nat) (v0 v3 v4 : V) (H : Heap) : Option R := Lp C n 11 [1, 1, 0, 1, 0, 0] m0 [(0, v0), (3, v3), (4, v4)] H (kB 0 (kC C n 11 [1, 1, 1] (kR C 11)))
@[simp] noncomputable def ref20_All.l0_b (bd : B2) (n m0 : Nat) (v0 v3 v4 : V) (H : Heap) : Option R :=
 (bd (lenSl v0) fun t8_1 =>
 (bd (arA .lss v4 t8_1) fun t9_2 =>
 (bd (asB t9_2) fun b3 =>
 if b3 = true then
 (bd (idxS 6 v0 v4) fun t15_4 =>
 (bd (ldN 6 t15_4 H) fun t16_5 =>
 (bd (f_ref20_Of n [t16_5] H) fun r6 =>
 (bd (bSl 8 ty_ref09_Spot [(.int .i64 0), (.slice ⟨none, 0, 0, false⟩), (.int .i64 0), (.slice ⟨none, 0, 0, false⟩), (.int .i64 0), (.slice ⟨none, 0, 0, false⟩), (.int .i64 0), (.slice ⟨none, 0, 0, false⟩)] 1 [(0, r6.1)]) fun o7 =>
 (bd (appA 8 128 ty_ref09_Spot v3 (.slice ⟨some (r6.2.n, 0), 1, 8, false⟩) (r6.2.push o7)) fun p8 =>
 (bd (arA .add v4 (.int .i64 1)) fun t11_9 =>
 (ref20_All.l0 n m0 v0 p8.1 t11_9 p8.2)))))))
 else
 (frzR v3 H))))
theorem ref20_All.l0_tot {m0 : Nat → Nat} {v0 v3 v4 : V} {H : Heap} {Q : V → Heap → Prop} (hb : Big m0) (h : ∀ m0', Big m0' → Tot (fun n => ref20_All.l0_b @bnd n (m0' n) v0 v3 v4 H) Q) : Tot (fun n => ref20_All.l0 n (m0 n) v0 v3 v4 H) Q :=
  Tot.loop (f := fun n k => ref20_All.l0 n k v0 v3 v4 H) (g := fun n k => ref20_All.l0_b @bnd n k v0 v3 v4 H) hb (fun n k => bd_bnd (fun bd => ref20_All.l0_b bd n k v0 v3 v4 H) (by kernel_rfl)) h
@[simp] noncomputable def ref20_All_b (bd : B2) (n : Nat) (v0 : V) (H : Heap) : Option R :=
 (bd (bSl 8 ty_ref09_Spot [(.int .i64 0), (.slice ⟨none, 0, 0, false⟩), (.int .i64 0), (.slice ⟨none, 0, 0, false⟩), (.int .i64 0), (.slice ⟨none, 0, 0, false⟩), (.int .i64 0), (.slice ⟨none, 0, 0, false⟩)] 0 []) fun o1 =>
 (ref20_All.l0 n n v0 (.slice ⟨some (H.n, 0), 0, 8, false⟩) (.int .i64 0) (H.push o1)))
theorem ref20_All_in (n : Nat) (a : List V) (H : Heap) : f_ref20_All (n + 1) a H = pureA a H (fun a => E C n 11 [] (argsA 0 a) ⟨0, .nil⟩ (kR C 11)) := by unfold f_ref20_All; kernel_rfl
theorem ref20_All_tot {v0 : V} {H : Heap} {Q : V → Heap → Prop} (hf : List.all [v0] V.fro = true) (hg : V.frees [v0] = true) (h : Tot (fun n => ref20_All_b @bnd n v0 E0) fun v _ => v.free = true ∧ Q v H) : Tot (fun n => f_ref20_All n [v0] H) Q := Tot.pu (k := fun n a => E C n 11 [] (argsA 0 a) ⟨0, .nil⟩ (kR C 11)) hf hg (fun n => ref20_All_in n _ _) (fun n => bd_bnd (fun bd => ref20_All_b bd n v0 E0) (by kernel_rfl)) h
end Go.AM.N
end
section
set_option linter.unusedVariables false
set_option linter.unusedSimpArgs false
set_option maxRecDepth 1000000
set_option linter.unusedVariables false
namespace Go.AM.N
@[simp] noncomputable def ref20_Of_b (bd : B2) (n : Nat) (v0 : V) (H : Heap) : Option R :=
 (bd (boxA ty_api_Spot v0) fun o1 =>
 (bd (faA 0 (.ptr (some (H.n, 0)))) fun t3_2 =>
 (bd (ldN 3 t3_2 (((H.push o1).push (.cells [(.int .i64 0), (.slice ⟨none, 0, 0, false⟩), (.int .i64 0), (.slice ⟨none, 0, 0, false⟩), (.int .i64 0), (.slice ⟨none, 0, 0, false⟩), (.int .i64 0), (.slice ⟨none, 0, 0, false⟩)] ty_ref09_Spot false)).more 0)) fun t4_3 =>
 (bd (f_ref05_Of n [t4_3] (((H.push o1).push (.cells [(.int .i64 0), (.slice ⟨none, 0, 0, false⟩), (.int .i64 0), (.slice ⟨none, 0, 0, false⟩), (.int .i64 0), (.slice ⟨none, 0, 0, false⟩), (.int .i64 0), (.slice ⟨none, 0, 0, false⟩)] ty_ref09_Spot false)).more 0)) fun r4 =>
 (bd (f_ref05_Low n [r4.1] r4.2) fun r5 =>
 (bd (faA 3 (.ptr (some (H.n, 0)))) fun t7_6 =>
 (bd (ldN 3 t7_6 r5.2) fun t8_7 =>
 (bd (chk (ldN 3 t7_6 r4.2) t8_7) fun _ =>
 (bd (chk (ldN 3 t7_6 (((H.push o1).push (.cells [(.int .i64 0), (.slice ⟨none, 0, 0, false⟩), (.int .i64 0), (.slice ⟨none, 0, 0, false⟩), (.int .i64 0), (.slice ⟨none, 0, 0, false⟩), (.int .i64 0), (.slice ⟨none, 0, 0, false⟩)] ty_ref09_Spot false)).more 0)) t8_7) fun _ =>
 (bd (f_ref05_Of n [t8_7] r5.2) fun r8 =>
 (bd (f_ref05_Low n [r8.1] r8.2) fun r9 =>
 (bd (flA [(0, 4), (4, 4)] [(.int .i64 0), (.slice ⟨none, 0, 0, false⟩), (.int .i64 0), (.slice ⟨none, 0, 0, false⟩), (.int .i64 0), (.slice ⟨none, 0, 0, false⟩), (.int .i64 0), (.slice ⟨none, 0, 0, false⟩)] [(0, r5.1), (1, r9.1)]) fun t11_10 =>
 (bd (stA 8 (.ptr (some ((H.push o1).n, 0))) t11_10 r9.2) fun H11 =>
 (bd (ldN 8 (.ptr (some ((H.push o1).n, 0))) H11) fun t12 =>
 (frzR t12 H11)))))))))))))))
theorem ref20_Of_in (n : Nat) (a : List V) (H : Heap) : f_ref20_Of (n + 1) a H = pureA a H (fun a => E C n 12 [] (argsA 0 a) ⟨0, .nil⟩ (kR C 12)) := by unfold f_ref20_Of; kernel_rfl
theorem ref20_Of_tot {v0 : V} {H : Heap} {Q : V → Heap → Prop} (hf : List.all [v0] V.fro = true) (hg : V.frees [v0] = true) (h : Tot (fun n => ref20_Of_b @bnd n v0 E0) fun v _ => v.free = true ∧ Q v H) : Tot (fun n => f_ref20_Of n [v0] H) Q := Tot.pu (k := fun n a => E C n 12 [] (argsA 0 a) ⟨0, .nil⟩ (kR C 12)) hf hg (fun n => ref20_Of_in n _ _) (fun n => bd_bnd (fun bd => ref20_Of_b bd n v0 E0) (by kernel_rfl)) h
@[irreducible] noncomputable def ref20_Centroid.l0 (n m0 : Nat) (v0 v2 v4 v5 v6 v7 : V) (H : Heap) : Option R := Lp C n 14 [1, 1, 1, 0, 1, 0, 0] m0 [(0, v0), (2, v2), (4, v4), (5, v5), (6, v6), (7, v7)] H (kB 0 (kC C n 14 [1, 1, 1, 1] (kR C 14)))
@[irreducible] noncomputable def ref20_Centroid.p1 (n : Nat) (v2 v4 v5 v6 : V) (H : Heap) : Option R := E C n 14 [1, 1, 1, 1] [(2, v2), (4, v4), (5, v5), (6, v6)] H (kR C 14)
@[simp] noncomputable def ref20_Centroid.l0_b (bd : B2) (n m0 : Nat) (v0 v2 v4 v5 v6 v7 : V) (H : Heap) : Option R :=
 (bd (arA .add v7 (.int .i64 1)) fun t19_1 =>
 (bd (lenSl v0) fun t21_2 =>
 (bd (arA .lss t19_1 t21_2) fun t22_3 =>
 (bd (asB t22_3) fun b4 =>
 if b4 = true then
 (bd (idxS 8 v0 (.int .i64 0)) fun t26_5 =>
 (bd (ldN 8 t26_5 (H.more 1)) fun t27_6 =>
 (bd (idxS 8 v0 v7) fun t30_7 =>
 (bd (ldN 8 t30_7 (H.more 1)) fun t31_8 =>
 (bd (arA .add v7 (.int .i64 1)) fun t34_9 =>
 (bd (idxS 8 v0 t34_9) fun t35_10 =>
 (bd (ldN 8 t35_10 (H.more 1)) fun t36_11 =>
 (bd (f_ref20_Tri n [t27_6, t31_8, t36_11] (H.more 1)) fun r12 =>
 (bd (stA 4 (.ptr (some ((H.n + 0), 0))) r12.1 (r12.2.set (H.n + 0) (.cells [(.int .i64 0), (.slice ⟨none, 0, 0, false⟩), (.int .i64 0), (.slice ⟨none, 0, 0, false⟩)] ty_ref05_Rat false))) fun H13 =>
 (bd (idxS 8 v0 (.int .i64 0)) fun t41_14 =>
 (bd (faA 0 t41_14) fun t42_15 =>
 (bd (ldN 4 t42_15 (H13.more 0)) fun t43_16 =>
 (bd (idxS 8 v0 v7) fun t46_17 =>
 (bd (faA 0 t46_17) fun t47_18 =>
 (bd (ldN 4 t47_18 (H13.more 0)) fun t48_19 =>
 (bd (arA .add v7 (.int .i64 1)) fun t51_20 =>
 (bd (idxS 8 v0 t51_20) fun t52_21 =>
 (bd (faA 0 t52_21) fun t53_22 =>
 (bd (ldN 4 t53_22 (H13.more 0)) fun t54_23 =>
 (bd (f_ref20_mean n [t43_16, t48_19, t54_23] (H13.more 0)) fun r24 =>
 (bd (ldN 4 (.ptr (some ((H.n + 0), 0))) r24.2) fun t39_25 =>
 (bd (chk (ldN 4 (.ptr (some ((H.n + 0), 0))) (H13.more 0)) t39_25) fun _ =>
 (bd (f_ref05_Mul n [t39_25, r24.1] r24.2) fun r26 =>
 (bd (ldN 4 v5 r26.2) fun t38_27 =>
 (bd (chk (ldN 4 v5 r24.2) t38_27) fun _ =>
 (bd (chk (ldN 4 v5 (H13.more 0)) t38_27) fun _ =>
 (bd (f_ref05_Add n [t38_27, r26.1] r26.2) fun r28 =>
 (bd (f_ref05_Low n [r28.1] r28.2) fun r29 =>
 (bd (stA 4 v5 r29.1 r29.2) fun H30 =>
 (bd (idxS 8 v0 (.int .i64 0)) fun t62_31 =>
 (bd (faA 4 t62_31) fun t63_32 =>
 (bd (ldN 4 t63_32 (H30.more 0)) fun t64_33 =>
 (bd (idxS 8 v0 v7) fun t67_34 =>
 (bd (faA 4 t67_34) fun t68_35 =>
 (bd (ldN 4 t68_35 (H30.more 0)) fun t69_36 =>
 (bd (arA .add v7 (.int .i64 1)) fun t72_37 =>
 (bd (idxS 8 v0 t72_37) fun t73_38 =>
 (bd (faA 4 t73_38) fun t74_39 =>
 (bd (ldN 4 t74_39 (H30.more 0)) fun t75_40 =>
 (bd (f_ref20_mean n [t64_33, t69_36, t75_40] (H30.more 0)) fun r41 =>
 (bd (ldN 4 (.ptr (some ((H.n + 0), 0))) r41.2) fun t60_42 =>
 (bd (chk (ldN 4 (.ptr (some ((H.n + 0), 0))) (H30.more 0)) t60_42) fun _ =>
 (bd (f_ref05_Mul n [t60_42, r41.1] r41.2) fun r43 =>
 (bd (ldN 4 v6 r43.2) fun t59_44 =>
 (bd (chk (ldN 4 v6 r41.2) t59_44) fun _ =>
 (bd (chk (ldN 4 v6 (H30.more 0)) t59_44) fun _ =>
 (bd (f_ref05_Add n [t59_44, r43.1] r43.2) fun r45 =>
 (bd (f_ref05_Low n [r45.1] r45.2) fun r46 =>
 (bd (stA 4 v6 r46.1 r46.2) fun H47 =>
 (bd (arA .add v7 (.int .i64 1)) fun t24_48 =>
 (ref20_Centroid.l0 n m0 v0 v2 v4 v5 v6 t24_48 H47)))))))))))))))))))))))))))))))))))))))))))))))))))
 else
 (ref20_Centroid.p1 n v2 v4 v5 v6 H)))))
theorem ref20_Centroid.l0_tot {m0 : Nat → Nat} {v0 v2 v4 v5 v6 v7 : V} {H : Heap} {Q : V → Heap → Prop} (hb : Big m0) (h : ∀ m0', Big m0' → Tot (fun n => ref20_Centroid.l0_b @bnd n (m0' n) v0 v2 v4 v5 v6 v7 H) Q) : Tot (fun n => ref20_Centroid.l0 n (m0 n) v0 v2 v4 v5 v6 v7 H) Q :=
  Tot.loop (f := fun n k => ref20_Centroid.l0 n k v0 v2 v4 v5 v6 v7 H) (g := fun n k => ref20_Centroid.l0_b @bnd n k v0 v2 v4 v5 v6 v7 H) hb (fun n k => bd_bnd (fun bd => ref20_Centroid.l0_b bd n k v0 v2 v4 v5 v6 v7 H) (by kernel_rfl)) h
@[simp] noncomputable def ref20_Centroid.p1_b (bd : B2) (n : Nat) (v2 v4 v5 v6 : V) (H : Heap) : Option R :=
 (bd (ldN 4 v5 (H.more 0)) fun t80_1 =>
 (bd (ldN 4 v4 (H.more 0)) fun t81_2 =>
 (bd (f_ref05_Div n [t80_1, t81_2] (H.more 0)) fun r3 =>
 (bd (f_ref05_Low n [r3.1] r3.2) fun r4 =>
 (bd (ldN 4 v6 r4.2) fun t84_5 =>
 (bd (chk (ldN 4 v6 r3.2) t84_5) fun _ =>
 (bd (chk (ldN 4 v6 (H.more 0)) t84_5) fun _ =>
 (bd (ldN 4 v4 r4.2) fun t85_6 =>
 (bd (chk (ldN 4 v4 r3.2) t85_6) fun _ =>
 (bd (chk (ldN 4 v4 (H.more 0)) t85_6) fun _ =>
 (bd (f_ref05_Div n [t84_5, t85_6] r4.2) fun r7 =>
 (bd (f_ref05_Low n [r7.1] r7.2) fun r8 =>
 (bd (flA [(0, 4), (4, 4)] [(.int .i64 0), (.slice ⟨none, 0, 0, false⟩), (.int .i64 0), (.slice ⟨none, 0, 0, false⟩), (.int .i64 0), (.slice ⟨none, 0, 0, false⟩), (.int .i64 0), (.slice ⟨none, 0, 0, false⟩)] [(0, r4.1), (1, r8.1)]) fun t88_9 =>
 (bd (stA 8 v2 t88_9 r8.2) fun H10 =>
 (bd (ldN 8 v2 H10) fun t11 =>
 (frzR (.tuple [t11, (.bool true)]) H10))))))))))))))))
theorem ref20_Centroid.p1_tot {v2 v4 v5 v6 : V} {H : Heap} {Q : V → Heap → Prop} (h : Tot (fun n => ref20_Centroid.p1_b @bnd n v2 v4 v5 v6 H) Q) : Tot (fun n => ref20_Centroid.p1 n v2 v4 v5 v6 H) Q := Tot.eq (fun n => bd_bnd (fun bd => ref20_Centroid.p1_b bd n v2 v4 v5 v6 H) (by kernel_rfl)) h
@[irreducible] noncomputable def ref20_Area.l0 (n m0 : Nat) (v0 v2 v3 v4 : V) (H : Heap) : Option R := Lp C n 18 [1, 1, 0, 1, 0, 0] m0 [(0, v0), (2, v2), (3, v3), (4, v4)] H (kB 0 (kC C n 18 [1, 1, 1] (kR C 18)))
@[simp] noncomputable def ref20_Area.l0_b (bd : B2) (n m0 : Nat) (v0 v2 v3 v4 : V) (H : Heap) : Option R :=
 (bd (arA .add v4 (.int .i64 1)) fun t7_1 =>
 (bd (lenSl v0) fun t9_2 =>
 (bd (arA .lss t7_1 t9_2) fun t10_3 =>
 (bd (asB t10_3) fun b4 =>
 if b4 = true then
 (bd (idxS 8 v0 (.int .i64 0)) fun t15_5 =>
 (bd (ldN 8 t15_5 (H.more 0)) fun t16_6 =>
 (bd (idxS 8 v0 v4) fun t19_7 =>
 (bd (ldN 8 t19_7 (H.more 0)) fun t20_8 =>
 (bd (arA .add v4 (.int .i64 1)) fun t23_9 =>
 (bd (idxS 8 v0 t23_9) fun t24_10 =>
 (bd (ldN 8 t24_10 (H.more 0)) fun t25_11 =>
 (bd (f_ref20_Tri n [t16_6, t20_8, t25_11] (H.more 0)) fun r12 =>
 (bd (ldN 4 v3 r12.2) fun t13_13 =>
 (bd (chk (ldN 4 v3 (H.more 0)) t13_13) fun _ =>
 (bd (f_ref05_Add n [t13_13, r12.1] r12.2) fun r14 =>
 (bd (f_ref05_Low n [r14.1] r14.2) fun r15 =>
 (bd (stA 4 v3 r15.1 r15.2) fun H16 =>
 (bd (arA .add v4 (.int .i64 1)) fun t12_17 =>
 (ref20_Area.l0 n m0 v0 v2 v3 t12_17 H16)))))))))))))))
 else
 (bd (ldN 4 v3 H) fun t29_18 =>
 (bd (stA 4 v2 t29_18 H) fun H19 =>
 (bd (ldN 4 v2 H19) fun t20 =>
 (frzR t20 H19))))))))
theorem ref20_Area.l0_tot {m0 : Nat → Nat} {v0 v2 v3 v4 : V} {H : Heap} {Q : V → Heap → Prop} (hb : Big m0) (h : ∀ m0', Big m0' → Tot (fun n => ref20_Area.l0_b @bnd n (m0' n) v0 v2 v3 v4 H) Q) : Tot (fun n => ref20_Area.l0 n (m0 n) v0 v2 v3 v4 H) Q :=
  Tot.loop (f := fun n k => ref20_Area.l0 n k v0 v2 v3 v4 H) (g := fun n k => ref20_Area.l0_b @bnd n k v0 v2 v3 v4 H) hb (fun n k => bd_bnd (fun bd => ref20_Area.l0_b bd n k v0 v2 v3 v4 H) (by kernel_rfl)) h
@[simp] noncomputable def ref04_Same_b (bd : B2) (n : Nat) (v0 v1 : V) (H : Heap) : Option R :=
 (bd (boxA ty_api_Int v0) fun o1 =>
 (bd (boxA ty_ref04_Int v1) fun o2 =>
 (bd (faA 1 (.ptr (some (H.n, 0)))) fun t5_3 =>
 (bd (ld1 t5_3 ((H.push o1).push o2)) fun t6_4 =>
 (bd (faA 1 (.ptr (some ((H.push o1).n, 0)))) fun t7_5 =>
 (bd (ld1 t7_5 ((H.push o1).push o2)) fun t8_6 =>
 (bd (f_ref03_Same n [t6_4, t8_6] ((H.push o1).push o2)) fun r7 =>
 (bd (asB r7.1) fun b8 =>
 if b8 = true then
 (bd (faA 0 (.ptr (some (H.n, 0)))) fun t11_9 =>
 (bd (ld1 t11_9 r7.2) fun t12_10 =>
 (bd (faA 0 (.ptr (some ((H.push o1).n, 0)))) fun t13_11 =>
 (bd (ld1 t13_11 r7.2) fun t14_12 =>
 (bd (arA .lss t14_12 (.int .i64 0)) fun t15_13 =>
 (bd (eqlA P ty_bool t12_10 t15_13) fun t16_14 =>
 (some (t16_14, r7.2))))))))
 else
 (some ((.bool false), r7.2))))))))))
theorem ref04_Same_in (n : Nat) (a : List V) (H : Heap) : f_ref04_Same (n + 1) a H = pureA a H (fun a => E C n 26 [] (argsA 0 a) ⟨0, .nil⟩ (kR C 26)) := by unfold f_ref04_Same; kernel_rfl
theorem ref04_Same_tot {v0 v1 : V} {H : Heap} {Q : V → Heap → Prop} (hf : List.all [v0, v1] V.fro = true) (hg : V.frees [v0, v1] = true) (h : Tot (fun n => ref04_Same_b @bnd n v0 v1 E0) fun v _ => v.free = true ∧ Q v H) : Tot (fun n => f_ref04_Same n [v0, v1] H) Q := Tot.pu (k := fun n a => E C n 26 [] (argsA 0 a) ⟨0, .nil⟩ (kR C 26)) hf hg (fun n => ref04_Same_in n _ _) (fun n => bd_bnd (fun bd => ref04_Same_b bd n v0 v1 E0) (by kernel_rfl)) h
@[irreducible] noncomputable def ref03_Same.l0 (n m0 : Nat) (v0 v5 v6 : V) (H : Heap) : Option R := Lp C n 27 [1, 1, 1, 0, 1, 0, 0] m0 [(0, v0), (5, v5), (6, v6)] H (kB 0 (kC C n 27 [1, 1, 1, 1] (kR C 27)))
@[simp] noncomputable def ref03_Same.l0_b (bd : B2) (n m0 : Nat) (v0 v5 v6 : V) (H : Heap) : Option R :=
 (bd (lenSl v0) fun t16_1 =>
 (bd (arA .lss v6 t16_1) fun t17_2 =>
 (bd (asB t17_2) fun b3 =>
 if b3 = true then
 (bd (idxS 1 v0 v6) fun t22_4 =>
 (bd (ld1 t22_4 (H.more 0)) fun t23_5 =>
 (bd (idxS 1 v5 v6) fun t26_6 =>
 (bd (ld1 t26_6 (H.more 0)) fun t27_7 =>
 (bd (arA .neq t23_5 t27_7) fun t28_8 =>
 (bd (asB t28_8) fun b9 =>
 if b9 = true then
 (some ((.bool false), (H.more 0)))
 else
 (bd (arA .add v6 (.int .i64 1)) fun t19_10 =>
 (ref03_Same.l0 n m0 v0 v5 t19_10 (H.more 0)))))))))
 else
 (some ((.bool true), H)))))
theorem ref03_Same.l0_tot {m0 : Nat → Nat} {v0 v5 v6 : V} {H : Heap} {Q : V → Heap → Prop} (hb : Big m0) (h : ∀ m0', Big m0' → Tot (fun n => ref03_Same.l0_b @bnd n (m0' n) v0 v5 v6 H) Q) : Tot (fun n => ref03_Same.l0 n (m0 n) v0 v5 v6 H) Q :=
  Tot.loop (f := fun n k => ref03_Same.l0 n k v0 v5 v6 H) (g := fun n k => ref03_Same.l0_b @bnd n k v0 v5 v6 H) hb (fun n k => bd_bnd (fun bd => ref03_Same.l0_b bd n k v0 v5 v6 H) (by kernel_rfl)) h
@[simp] noncomputable def ref03_Same_b (bd : B2) (n : Nat) (v0 v1 : V) (H : Heap) : Option R :=
 (bd (f_ref03_Nat n [v1] H) fun r1 =>
 (bd (lenSl v0) fun t10_2 =>
 (bd (lenSl r1.1) fun t12_3 =>
 (bd (arA .neq t10_2 t12_3) fun t13_4 =>
 (bd (asB t13_4) fun b5 =>
 if b5 = true then
 (some ((.bool false), r1.2))
 else
 (ref03_Same.l0 n n v0 r1.1 (.int .i64 0) r1.2))))))
theorem ref03_Same_in (n : Nat) (a : List V) (H : Heap) : f_ref03_Same (n + 1) a H = pureA a H (fun a => E C n 27 [] (argsA 0 a) ⟨0, .nil⟩ (kR C 27)) := by unfold f_ref03_Same; kernel_rfl
theorem ref03_Same_tot {v0 v1 : V} {H : Heap} {Q : V → Heap → Prop} (hf : List.all [v0, v1] V.fro = true) (hg : V.frees [v0, v1] = true) (h : Tot (fun n => ref03_Same_b @bnd n v0 v1 E0) fun v _ => v.free = true ∧ Q v H) : Tot (fun n => f_ref03_Same n [v0, v1] H) Q := Tot.pu (k := fun n a => E C n 27 [] (argsA 0 a) ⟨0, .nil⟩ (kR C 27)) hf hg (fun n => ref03_Same_in n _ _) (fun n => bd_bnd (fun bd => ref03_Same_b bd n v0 v1 E0) (by kernel_rfl)) h
@[irreducible] noncomputable def energy_moment.l0 (n m0 : Nat) (v0 v3 v4 v5 v13 v14 : V) (H : Heap) : Option R := Lp C n 28 [1, 1, 1, 0, 1, 0, 0] m0 [(0, v0), (3, v3), (4, v4), (5, v5), (13, v13), (14, v14)] H (kB 0 (kC C n 28 [1, 1, 1, 1] (kR C 28)))
@[simp] noncomputable def energy_moment.l0_b (bd : B2) (n m0 : Nat) (v0 v3 v4 v5 v13 v14 : V) (H : Heap) : Option R :=
 (bd (arA .lss v14 v13) fun t15_1 =>
 (bd (asB t15_1) fun b2 =>
 if b2 = true then
 (bd (idxS 6 v0 v14) fun t20_3 =>
 (bd (ldN 6 t20_3 (H.more 0)) fun t21_4 =>
 (bd (ldN 6 v3 (H.more 0)) fun t22_5 =>
 (bd (f_energy_seen n [t21_4, t22_5] (H.more 0)) fun r6 =>
 (bd (arA .add v14 (.int .i64 1)) fun t26_7 =>
 (bd (lenSl v0) fun t28_8 =>
 (bd (arA .rem t26_7 t28_8) fun t29_9 =>
 (bd (idxS 6 v0 t29_9) fun t30_10 =>
 (bd (ldN 6 t30_10 r6.2) fun t31_11 =>
 (bd (chk (ldN 6 t30_10 (H.more 0)) t31_11) fun _ =>
 (bd (ldN 6 v3 r6.2) fun t32_12 =>
 (bd (chk (ldN 6 v3 (H.more 0)) t32_12) fun _ =>
 (bd (f_energy_seen n [t31_11, t32_12] r6.2) fun r13 =>
 (bd (f_energy_part n [r6.1, r13.1] r13.2) fun r14 =>
 (bd (ldN 3 v5 r14.2) fun t17_15 =>
 (bd (chk (ldN 3 v5 r13.2) t17_15) fun _ =>
 (bd (chk (ldN 3 v5 r6.2) t17_15) fun _ =>
 (bd (chk (ldN 3 v5 (H.more 0)) t17_15) fun _ =>
 (bd (f_rat_Add n [t17_15, r14.1] r14.2) fun r16 =>
 (bd (stA 3 v5 r16.1 r16.2) fun H17 =>
 (bd (arA .add v14 (.int .i64 1)) fun t36_18 =>
 (energy_moment.l0 n m0 v0 v3 v4 v5 v13 t36_18 H17))))))))))))))))))))))
 else
 (bd (ldN 3 v5 H) fun t37_19 =>
 (bd (stA 3 v4 t37_19 H) fun H20 =>
 (bd (ldN 3 v4 H20) fun t21 =>
 (frzR t21 H20))))))
theorem energy_moment.l0_tot {m0 : Nat → Nat} {v0 v3 v4 v5 v13 v14 : V} {H : Heap} {Q : V → Heap → Prop} (hb : Big m0) (h : ∀ m0', Big m0' → Tot (fun n => energy_moment.l0_b @bnd n (m0' n) v0 v3 v4 v5 v13 v14 H) Q) : Tot (fun n => energy_moment.l0 n (m0 n) v0 v3 v4 v5 v13 v14 H) Q :=
  Tot.loop (f := fun n k => energy_moment.l0 n k v0 v3 v4 v5 v13 v14 H) (g := fun n k => energy_moment.l0_b @bnd n k v0 v3 v4 v5 v13 v14 H) hb (fun n k => bd_bnd (fun bd => energy_moment.l0_b bd n k v0 v3 v4 v5 v13 v14 H) (by kernel_rfl)) h
@[simp] noncomputable def energy_moment_b (bd : B2) (n : Nat) (v0 v1 : V) (H : Heap) : Option R :=
 (bd (boxA ty_api_Spot v1) fun o1 =>
 (bd (f_rat_Of n [(.int .i64 0)] ((H.push o1).push (.cells [(.bool false), (.slice ⟨none, 0, 0, false⟩), (.slice ⟨none, 0, 0, false⟩)] ty_api_Rat false))) fun r2 =>
 (bd (stA 3 (.ptr (some (r2.2.n, 0))) r2.1 (r2.2.push (.cells [(.bool false), (.slice ⟨none, 0, 0, false⟩), (.slice ⟨none, 0, 0, false⟩)] ty_api_Rat false))) fun H3 =>
 (bd (lenSl v0) fun t9_4 =>
 (bd (arA .lss t9_4 (.int .i64 3)) fun t10_5 =>
 (bd (asB t10_5) fun b6 =>
 if b6 = true then
 (bd (ldN 3 (.ptr (some (r2.2.n, 0))) H3) fun t11_7 =>
 (bd (stA 3 (.ptr (some ((H.push o1).n, 0))) t11_7 H3) fun H8 =>
 (bd (ldN 3 (.ptr (some ((H.push o1).n, 0))) H8) fun t9 =>
 (frzR t9 H8))))
 else
 (bd (lenSl v0) fun t13_10 =>
 (energy_moment.l0 n n v0 (.ptr (some (H.n, 0))) (.ptr (some ((H.push o1).n, 0))) (.ptr (some (r2.2.n, 0))) t13_10 (.int .i64 0) H3))))))))
theorem energy_moment_in (n : Nat) (a : List V) (H : Heap) : f_energy_moment (n + 1) a H = pureA a H (fun a => E C n 28 [] (argsA 0 a) ⟨0, .nil⟩ (kR C 28)) := by unfold f_energy_moment; kernel_rfl
theorem energy_moment_tot {v0 v1 : V} {H : Heap} {Q : V → Heap → Prop} (hf : List.all [v0, v1] V.fro = true) (hg : V.frees [v0, v1] = true) (h : Tot (fun n => energy_moment_b @bnd n v0 v1 E0) fun v _ => v.free = true ∧ Q v H) : Tot (fun n => f_energy_moment n [v0, v1] H) Q := Tot.pu (k := fun n a => E C n 28 [] (argsA 0 a) ⟨0, .nil⟩ (kR C 28)) hf hg (fun n => energy_moment_in n _ _) (fun n => bd_bnd (fun bd => energy_moment_b bd n v0 v1 E0) (by kernel_rfl)) h
@[simp] noncomputable def ref42_Tri_b (bd : B2) (n : Nat) (v0 v1 v2 : V) (H : Heap) : Option R :=
 (bd (boxA ty_ref09_Spot v0) fun o1 =>
 (bd (boxA ty_ref09_Spot v1) fun o2 =>
 (bd (boxA ty_ref09_Spot v2) fun o3 =>
 (bd (faA 0 (.ptr (some ((H.push o1).n, 0)))) fun t14_4 =>
 (bd (ldN 4 t14_4 (((((H.push o1).push o2).push o3).push (.cells [(.int .i64 0), (.slice ⟨none, 0, 0, false⟩), (.int .i64 0), (.slice ⟨none, 0, 0, false⟩)] ty_ref05_Rat false)).more 4)) fun t15_5 =>
 (bd (faA 0 (.ptr (some (H.n, 0)))) fun t16_6 =>
 (bd (ldN 4 t16_6 (((((H.push o1).push o2).push o3).push (.cells [(.int .i64 0), (.slice ⟨none, 0, 0, false⟩), (.int .i64 0), (.slice ⟨none, 0, 0, false⟩)] ty_ref05_Rat false)).more 4)) fun t17_7 =>
 (bd (f_ref05_Sub n [t15_5, t17_7] (((((H.push o1).push o2).push o3).push (.cells [(.int .i64 0), (.slice ⟨none, 0, 0, false⟩), (.int .i64 0), (.slice ⟨none, 0, 0, false⟩)] ty_ref05_Rat false)).more 4)) fun r8 =>
 (bd (faA 4 (.ptr (some ((H.push o1).n, 0)))) fun t19_9 =>
 (bd (ldN 4 t19_9 r8.2) fun t20_10 =>
 (bd (chk (ldN 4 t19_9 (((((H.push o1).push o2).push o3).push (.cells [(.int .i64 0), (.slice ⟨none, 0, 0, false⟩), (.int .i64 0), (.slice ⟨none, 0, 0, false⟩)] ty_ref05_Rat false)).more 4)) t20_10) fun _ =>
 (bd (faA 4 (.ptr (some (H.n, 0)))) fun t21_11 =>
 (bd (ldN 4 t21_11 r8.2) fun t22_12 =>
 (bd (chk (ldN 4 t21_11 (((((H.push o1).push o2).push o3).push (.cells [(.int .i64 0), (.slice ⟨none, 0, 0, false⟩), (.int .i64 0), (.slice ⟨none, 0, 0, false⟩)] ty_ref05_Rat false)).more 4)) t22_12) fun _ =>
 (bd (f_ref05_Sub n [t20_10, t22_12] r8.2) fun r13 =>
 (bd (faA 0 (.ptr (some (((H.push o1).push o2).n, 0)))) fun t24_14 =>
 (bd (ldN 4 t24_14 r13.2) fun t25_15 =>
 (bd (chk (ldN 4 t24_14 r8.2) t25_15) fun _ =>
 (bd (chk (ldN 4 t24_14 (((((H.push o1).push o2).push o3).push (.cells [(.int .i64 0), (.slice ⟨none, 0, 0, false⟩), (.int .i64 0), (.slice ⟨none, 0, 0, false⟩)] ty_ref05_Rat false)).more 4)) t25_15) fun _ =>
 (bd (faA 0 (.ptr (some (H.n, 0)))) fun t26_16 =>
 (bd (ldN 4 t26_16 r13.2) fun t27_17 =>
 (bd (chk (ldN 4 t26_16 r8.2) t27_17) fun _ =>
 (bd (chk (ldN 4 t26_16 (((((H.push o1).push o2).push o3).push (.cells [(.int .i64 0), (.slice ⟨none, 0, 0, false⟩), (.int .i64 0), (.slice ⟨none, 0, 0, false⟩)] ty_ref05_Rat false)).more 4)) t27_17) fun _ =>
 (bd (f_ref05_Sub n [t25_15, t27_17] r13.2) fun r18 =>
 (bd (faA 4 (.ptr (some (((H.push o1).push o2).n, 0)))) fun t29_19 =>
 (bd (ldN 4 t29_19 r18.2) fun t30_20 =>
 (bd (chk (ldN 4 t29_19 r13.2) t30_20) fun _ =>
 (bd (chk (ldN 4 t29_19 r8.2) t30_20) fun _ =>
 (bd (chk (ldN 4 t29_19 (((((H.push o1).push o2).push o3).push (.cells [(.int .i64 0), (.slice ⟨none, 0, 0, false⟩), (.int .i64 0), (.slice ⟨none, 0, 0, false⟩)] ty_ref05_Rat false)).more 4)) t30_20) fun _ =>
 (bd (faA 4 (.ptr (some (H.n, 0)))) fun t31_21 =>
 (bd (ldN 4 t31_21 r18.2) fun t32_22 =>
 (bd (chk (ldN 4 t31_21 r13.2) t32_22) fun _ =>
 (bd (chk (ldN 4 t31_21 r8.2) t32_22) fun _ =>
 (bd (chk (ldN 4 t31_21 (((((H.push o1).push o2).push o3).push (.cells [(.int .i64 0), (.slice ⟨none, 0, 0, false⟩), (.int .i64 0), (.slice ⟨none, 0, 0, false⟩)] ty_ref05_Rat false)).more 4)) t32_22) fun _ =>
 (bd (f_ref05_Sub n [t30_20, t32_22] r18.2) fun r23 =>
 (bd (stA 4 (.ptr (some ((((((H.push o1).push o2).push o3).push (.cells [(.int .i64 0), (.slice ⟨none, 0, 0, false⟩), (.int .i64 0), (.slice ⟨none, 0, 0, false⟩)] ty_ref05_Rat false)).n + 0), 0))) r8.1 ((((r23.2.set (((((H.push o1).push o2).push o3).push (.cells [(.int .i64 0), (.slice ⟨none, 0, 0, false⟩), (.int .i64 0), (.slice ⟨none, 0, 0, false⟩)] ty_ref05_Rat false)).n + 0) (.cells [(.int .i64 0), (.slice ⟨none, 0, 0, false⟩), (.int .i64 0), (.slice ⟨none, 0, 0, false⟩)] ty_ref05_Rat false)).set (((((H.push o1).push o2).push o3).push (.cells [(.int .i64 0), (.slice ⟨none, 0, 0, false⟩), (.int .i64 0), (.slice ⟨none, 0, 0, false⟩)] ty_ref05_Rat false)).n + 1) (.cells [(.int .i64 0), (.slice ⟨none, 0, 0, false⟩), (.int .i64 0), (.slice ⟨none, 0, 0, false⟩)] ty_ref05_Rat false)).set (((((H.push o1).push o2).push o3).push (.cells [(.int .i64 0), (.slice ⟨none, 0, 0, false⟩), (.int .i64 0), (.slice ⟨none, 0, 0, false⟩)] ty_ref05_Rat false)).n + 2) (.cells [(.int .i64 0), (.slice ⟨none, 0, 0, false⟩), (.int .i64 0), (.slice ⟨none, 0, 0, false⟩)] ty_ref05_Rat false)).set (((((H.push o1).push o2).push o3).push (.cells [(.int .i64 0), (.slice ⟨none, 0, 0, false⟩), (.int .i64 0), (.slice ⟨none, 0, 0, false⟩)] ty_ref05_Rat false)).n + 3) (.cells [(.int .i64 0), (.slice ⟨none, 0, 0, false⟩), (.int .i64 0), (.slice ⟨none, 0, 0, false⟩)] ty_ref05_Rat false))) fun H24 =>
 (bd (stA 4 (.ptr (some ((((((H.push o1).push o2).push o3).push (.cells [(.int .i64 0), (.slice ⟨none, 0, 0, false⟩), (.int .i64 0), (.slice ⟨none, 0, 0, false⟩)] ty_ref05_Rat false)).n + 1), 0))) r13.1 H24) fun H25 =>
 (bd (stA 4 (.ptr (some ((((((H.push o1).push o2).push o3).push (.cells [(.int .i64 0), (.slice ⟨none, 0, 0, false⟩), (.int .i64 0), (.slice ⟨none, 0, 0, false⟩)] ty_ref05_Rat false)).n + 2), 0))) r18.1 H25) fun H26 =>
 (bd (stA 4 (.ptr (some ((((((H.push o1).push o2).push o3).push (.cells [(.int .i64 0), (.slice ⟨none, 0, 0, false⟩), (.int .i64 0), (.slice ⟨none, 0, 0, false⟩)] ty_ref05_Rat false)).n + 3), 0))) r23.1 H26) fun H27 =>
 (bd (ldN 4 (.ptr (some ((((((H.push o1).push o2).push o3).push (.cells [(.int .i64 0), (.slice ⟨none, 0, 0, false⟩), (.int .i64 0), (.slice ⟨none, 0, 0, false⟩)] ty_ref05_Rat false)).n + 0), 0))) (H27.more 1)) fun t34_28 =>
 (bd (ldN 4 (.ptr (some ((((((H.push o1).push o2).push o3).push (.cells [(.int .i64 0), (.slice ⟨none, 0, 0, false⟩), (.int .i64 0), (.slice ⟨none, 0, 0, false⟩)] ty_ref05_Rat false)).n + 0), 0))) (H27.more 1)) fun t35_29 =>
 (bd (f_ref05_Mul n [t34_28, t35_29] (H27.more 1)) fun r30 =>
 (bd (ldN 4 (.ptr (some ((((((H.push o1).push o2).push o3).push (.cells [(.int .i64 0), (.slice ⟨none, 0, 0, false⟩), (.int .i64 0), (.slice ⟨none, 0, 0, false⟩)] ty_ref05_Rat false)).n + 1), 0))) r30.2) fun t37_31 =>
 (bd (chk (ldN 4 (.ptr (some ((((((H.push o1).push o2).push o3).push (.cells [(.int .i64 0), (.slice ⟨none, 0, 0, false⟩), (.int .i64 0), (.slice ⟨none, 0, 0, false⟩)] ty_ref05_Rat false)).n + 1), 0))) (H27.more 1)) t37_31) fun _ =>
 (bd (ldN 4 (.ptr (some ((((((H.push o1).push o2).push o3).push (.cells [(.int .i64 0), (.slice ⟨none, 0, 0, false⟩), (.int .i64 0), (.slice ⟨none, 0, 0, false⟩)] ty_ref05_Rat false)).n + 1), 0))) r30.2) fun t38_32 =>
 (bd (chk (ldN 4 (.ptr (some ((((((H.push o1).push o2).push o3).push (.cells [(.int .i64 0), (.slice ⟨none, 0, 0, false⟩), (.int .i64 0), (.slice ⟨none, 0, 0, false⟩)] ty_ref05_Rat false)).n + 1), 0))) (H27.more 1)) t38_32) fun _ =>
 (bd (f_ref05_Mul n [t37_31, t38_32] r30.2) fun r33 =>
 (bd (f_ref05_Add n [r30.1, r33.1] r33.2) fun r34 =>
 (bd (stA 4 (.ptr (some ((H27.n + 0), 0))) r34.1 (r34.2.set (H27.n + 0) (.cells [(.int .i64 0), (.slice ⟨none, 0, 0, false⟩), (.int .i64 0), (.slice ⟨none, 0, 0, false⟩)] ty_ref05_Rat false))) fun H35 =>
 (bd (ldN 4 (.ptr (some ((((((H.push o1).push o2).push o3).push (.cells [(.int .i64 0), (.slice ⟨none, 0, 0, false⟩), (.int .i64 0), (.slice ⟨none, 0, 0, false⟩)] ty_ref05_Rat false)).n + 2), 0))) (H35.more 1)) fun t41_36 =>
 (bd (ldN 4 (.ptr (some ((((((H.push o1).push o2).push o3).push (.cells [(.int .i64 0), (.slice ⟨none, 0, 0, false⟩), (.int .i64 0), (.slice ⟨none, 0, 0, false⟩)] ty_ref05_Rat false)).n + 2), 0))) (H35.more 1)) fun t42_37 =>
 (bd (f_ref05_Mul n [t41_36, t42_37] (H35.more 1)) fun r38 =>
 (bd (ldN 4 (.ptr (some ((((((H.push o1).push o2).push o3).push (.cells [(.int .i64 0), (.slice ⟨none, 0, 0, false⟩), (.int .i64 0), (.slice ⟨none, 0, 0, false⟩)] ty_ref05_Rat false)).n + 3), 0))) r38.2) fun t44_39 =>
 (bd (chk (ldN 4 (.ptr (some ((((((H.push o1).push o2).push o3).push (.cells [(.int .i64 0), (.slice ⟨none, 0, 0, false⟩), (.int .i64 0), (.slice ⟨none, 0, 0, false⟩)] ty_ref05_Rat false)).n + 3), 0))) (H35.more 1)) t44_39) fun _ =>
 (bd (ldN 4 (.ptr (some ((((((H.push o1).push o2).push o3).push (.cells [(.int .i64 0), (.slice ⟨none, 0, 0, false⟩), (.int .i64 0), (.slice ⟨none, 0, 0, false⟩)] ty_ref05_Rat false)).n + 3), 0))) r38.2) fun t45_40 =>
 (bd (chk (ldN 4 (.ptr (some ((((((H.push o1).push o2).push o3).push (.cells [(.int .i64 0), (.slice ⟨none, 0, 0, false⟩), (.int .i64 0), (.slice ⟨none, 0, 0, false⟩)] ty_ref05_Rat false)).n + 3), 0))) (H35.more 1)) t45_40) fun _ =>
 (bd (f_ref05_Mul n [t44_39, t45_40] r38.2) fun r41 =>
 (bd (f_ref05_Add n [r38.1, r41.1] r41.2) fun r42 =>
 (bd (stA 4 (.ptr (some ((H35.n + 0), 0))) r42.1 (r42.2.set (H35.n + 0) (.cells [(.int .i64 0), (.slice ⟨none, 0, 0, false⟩), (.int .i64 0), (.slice ⟨none, 0, 0, false⟩)] ty_ref05_Rat false))) fun H43 =>
 (bd (ldN 4 (.ptr (some ((((((H.push o1).push o2).push o3).push (.cells [(.int .i64 0), (.slice ⟨none, 0, 0, false⟩), (.int .i64 0), (.slice ⟨none, 0, 0, false⟩)] ty_ref05_Rat false)).n + 0), 0))) (H43.more 1)) fun t48_44 =>
 (bd (ldN 4 (.ptr (some ((((((H.push o1).push o2).push o3).push (.cells [(.int .i64 0), (.slice ⟨none, 0, 0, false⟩), (.int .i64 0), (.slice ⟨none, 0, 0, false⟩)] ty_ref05_Rat false)).n + 2), 0))) (H43.more 1)) fun t49_45 =>
 (bd (f_ref05_Mul n [t48_44, t49_45] (H43.more 1)) fun r46 =>
 (bd (ldN 4 (.ptr (some ((((((H.push o1).push o2).push o3).push (.cells [(.int .i64 0), (.slice ⟨none, 0, 0, false⟩), (.int .i64 0), (.slice ⟨none, 0, 0, false⟩)] ty_ref05_Rat false)).n + 1), 0))) r46.2) fun t51_47 =>
 (bd (chk (ldN 4 (.ptr (some ((((((H.push o1).push o2).push o3).push (.cells [(.int .i64 0), (.slice ⟨none, 0, 0, false⟩), (.int .i64 0), (.slice ⟨none, 0, 0, false⟩)] ty_ref05_Rat false)).n + 1), 0))) (H43.more 1)) t51_47) fun _ =>
 (bd (ldN 4 (.ptr (some ((((((H.push o1).push o2).push o3).push (.cells [(.int .i64 0), (.slice ⟨none, 0, 0, false⟩), (.int .i64 0), (.slice ⟨none, 0, 0, false⟩)] ty_ref05_Rat false)).n + 3), 0))) r46.2) fun t52_48 =>
 (bd (chk (ldN 4 (.ptr (some ((((((H.push o1).push o2).push o3).push (.cells [(.int .i64 0), (.slice ⟨none, 0, 0, false⟩), (.int .i64 0), (.slice ⟨none, 0, 0, false⟩)] ty_ref05_Rat false)).n + 3), 0))) (H43.more 1)) t52_48) fun _ =>
 (bd (f_ref05_Mul n [t51_47, t52_48] r46.2) fun r49 =>
 (bd (f_ref05_Add n [r46.1, r49.1] r49.2) fun r50 =>
 (bd (stA 4 (.ptr (some ((H43.n + 0), 0))) r50.1 (r50.2.set (H43.n + 0) (.cells [(.int .i64 0), (.slice ⟨none, 0, 0, false⟩), (.int .i64 0), (.slice ⟨none, 0, 0, false⟩)] ty_ref05_Rat false))) fun H51 =>
 (bd (ldN 8 (.ptr (some (H.n, 0))) (H51.more 0)) fun t55_52 =>
 (bd (ldN 8 (.ptr (some ((H.push o1).n, 0))) (H51.more 0)) fun t56_53 =>
 (bd (ldN 8 (.ptr (some (((H.push o1).push o2).n, 0))) (H51.more 0)) fun t57_54 =>
 (bd (f_ref20_Tri n [t55_52, t56_53, t57_54] (H51.more 0)) fun r55 =>
 (bd (ldN 4 (.ptr (some ((H27.n + 0), 0))) r55.2) fun t59_56 =>
 (bd (chk (ldN 4 (.ptr (some ((H27.n + 0), 0))) (H51.more 0)) t59_56) fun _ =>
 (bd (f_ref05_Low n [t59_56] r55.2) fun r57 =>
 (bd (ldN 4 (.ptr (some ((H35.n + 0), 0))) r57.2) fun t61_58 =>
 (bd (chk (ldN 4 (.ptr (some ((H35.n + 0), 0))) r55.2) t61_58) fun _ =>
 (bd (chk (ldN 4 (.ptr (some ((H35.n + 0), 0))) (H51.more 0)) t61_58) fun _ =>
 (bd (f_ref05_Low n [t61_58] r57.2) fun r59 =>
 (bd (f_ref05_Add n [r57.1, r59.1] r59.2) fun r60 =>
 (bd (ldN 4 (.ptr (some ((H43.n + 0), 0))) r60.2) fun t64_61 =>
 (bd (chk (ldN 4 (.ptr (some ((H43.n + 0), 0))) r59.2) t64_61) fun _ =>
 (bd (chk (ldN 4 (.ptr (some ((H43.n + 0), 0))) r57.2) t64_61) fun _ =>
 (bd (chk (ldN 4 (.ptr (some ((H43.n + 0), 0))) r55.2) t64_61) fun _ =>
 (bd (chk (ldN 4 (.ptr (some ((H43.n + 0), 0))) (H51.more 0)) t64_61) fun _ =>
 (bd (f_ref05_Low n [t64_61] r60.2) fun r62 =>
 (bd (f_ref05_Add n [r60.1, r62.1] r62.2) fun r63 =>
 (bd (f_ref05_Low n [r63.1] r63.2) fun r64 =>
 (bd (f_ref05_Mul n [r55.1, r64.1] r64.2) fun r65 =>
 (bd (f_ref05_Low n [r65.1] r65.2) fun r66 =>
 (bd (stA 4 (.ptr (some ((((H.push o1).push o2).push o3).n, 0))) r66.1 r66.2) fun H67 =>
 (bd (ldN 4 (.ptr (some ((((H.push o1).push o2).push o3).n, 0))) H67) fun t68 =>
 (frzR t68 H67))))))))))))))))))))))))))))))))))))))))))))))))))))))))))))))))))))))))))))))))))))))))))))))
theorem ref42_Tri_in (n : Nat) (a : List V) (H : Heap) : f_ref42_Tri (n + 1) a H = pureA a H (fun a => E C n 29 [] (argsA 0 a) ⟨0, .nil⟩ (kR C 29)) := by unfold f_ref42_Tri; kernel_rfl
theorem ref42_Tri_tot {v0 v1 v2 : V} {H : Heap} {Q : V → Heap → Prop} (hf : List.all [v0, v1, v2] V.fro = true) (hg : V.frees [v0, v1, v2] = true) (h : Tot (fun n => ref42_Tri_b @bnd n v0 v1 v2 E0) fun v _ => v.free = true ∧ Q v H) : Tot (fun n => f_ref42_Tri n [v0, v1, v2] H) Q := Tot.pu (k := fun n a => E C n 29 [] (argsA 0 a) ⟨0, .nil⟩ (kR C 29)) hf hg (fun n => ref42_Tri_in n _ _) (fun n => bd_bnd (fun bd => ref42_Tri_b bd n v0 v1 v2 E0) (by kernel_rfl)) h
end Go.AM.N
end
