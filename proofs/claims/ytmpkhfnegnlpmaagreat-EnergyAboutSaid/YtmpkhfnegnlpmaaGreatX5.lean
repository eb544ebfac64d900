/- Merged by program from: SrH EnB EnC AmFro EsA AmBits NvC NvQ0 NvQ1 NvQ2 NvQ EsB. -/
import Derived.Laws.Externs
import Derived.Test.YtmpkhfnegnlpmaaGreatX4
section
set_option linter.unusedVariables false
set_option linter.unusedSimpArgs false
set_option linter.unusedSimpArgs false
set_option linter.unusedVariables false
namespace Go.AM
attribute [local congr] bnd_weak ite_weak
theorem r4_cmp {H : Heap} {P : Nat → Prop} {v w : V} {x y : Int} (hP : UpP H P) (h : isJ H P v x) (h' : isJ H P w y) (hm : (dig 65536 x.natAbs).length < 400000000) (hm' : (dig 65536 y.natAbs).length < 400000000) :
    Tot (fun n => f_ref04_Cmp n [v, w] H) fun v H' => Ext0 H H' ∧ v = .int .i64 (x - y).sign := by
  obtain ⟨σ, s, rfl, hσ, r, f⟩ := h.shape
  obtain ⟨τ, t, rfl, hτ, r', f'⟩ := h'.shape
  refine Tot.of fun Q hQ => ?_
  refine ref04_Cmp_tot ?_
  simp only [ref04_Cmp_b]
  repeat (first | refine Tot.autoP ?_ | refine Tot.autoC ?_ | fail)
  refine Tot.bind (r4_sub (P := P) (fun i hi => hP i (by simp only [npz] at hi; omega)) (h.keep (by (repeat (first | exact KeepP.refl | refine KeepP.call ?_ (by assumption) | refine KeepP.push ?_ | refine KeepP.more ?_ | refine KeepP.set ?_ (by first | (right; first | omega | (simp only [npz, nsz, nmz] <;> omega) | fail) | (left; simp; done) | fail))))) (h'.keep (by (repeat (first | exact KeepP.refl | refine KeepP.call ?_ (by assumption) | refine KeepP.push ?_ | refine KeepP.more ?_ | refine KeepP.set ?_ (by first | (right; first | omega | (simp only [npz, nsz, nmz] <;> omega) | fail) | (left; simp; done) | fail))))) hm hm') ?_
  rintro v H1 ⟨c1, i1⟩
  have n1 := c1.n; try simp only [npz, nsz, nmz] at n1
  obtain ⟨b1, s1, rfl, hb, -⟩ := i1.shape
  subst hb
  dsimp only
  repeat (first | refine Tot.pure (by simp (disch := first | omega | (simp only [npz, nsz, nmz] <;> omega) | fail) [lhz, lgz, sgz, boxA, gz, gs, Heap.gqz, Heap.gpz, Heap.gtz, Heap.gsz, gmz, npz, nsz, nmz, fd1]; try exact rfl) ?_ | refine Tot.chk (by simp (disch := first | omega | (simp only [npz, nsz, nmz] <;> omega) | fail) [lhz, lgz, sgz, boxA, gz, gs, Heap.gqz, Heap.gpz, Heap.gtz, Heap.gsz, gmz, npz, nsz, nmz, fd1]; done) ?_ | fail)
  exact Tot.ret (hQ _ _ ⟨Keep.ext (Keep.auto), rfl⟩)
theorem r5_neg {H : Heap} {P : Nat → Prop} {v : V} {n : Int} {d : Nat} (hP : UpP H P) (h : isK H P v n d) :
    Tot (fun n => f_ref05_Neg n [v] H) fun v H' => Ext0 H H' ∧ isK H' P v (-n) d := by
  obtain ⟨σ, s, τ, t, rfl, a1, a2, hd⟩ := h
  refine Tot.of fun Q hQ => ?_
  refine ref05_Neg_tot ?_
  simp only [ref05_Neg_b]
  have hm : ∀ {v : V} {z : Int}, isJ H P v z → isJ H (fun i => P i ∧ i ≠ H.n + 1) v z := fun h => h.mono fun i hi hp => ⟨hp, by omega⟩
  repeat (first | refine Tot.autoP ?_ | refine Tot.autoC ?_ | fail)
  refine Tot.bind (r4_neg ((hm a1).keep (by (repeat (first | exact KeepP.refl | refine KeepP.call ?_ (by assumption) | refine KeepP.push ?_ | refine KeepP.more ?_ | refine KeepP.set ?_ (by first | (right; first | omega | (simp only [npz, nsz, nmz] <;> omega) | fail) | (left; simp; done) | fail)))))) ?_
  rintro v H1 ⟨c1, i1⟩
  have n1 := c1.n; try simp only [npz, nsz, nmz] at n1
  obtain ⟨p1, q1, rfl, -⟩ := i1.shape
  dsimp only
  repeat (first | refine Tot.pure (by simp (disch := first | omega | (simp only [npz, nsz, nmz] <;> omega) | fail) [lhz, lgz, sgz, boxA, gz, gs, Heap.gqz, Heap.gpz, Heap.gtz, Heap.gsz, gmz, npz, nsz, nmz, c1.g]; try exact rfl) ?_ | refine Tot.chk (by simp (disch := first | omega | (simp only [npz, nsz, nmz] <;> omega) | fail) [lhz, lgz, sgz, boxA, gz, gs, Heap.gqz, Heap.gpz, Heap.gtz, Heap.gsz, gmz, npz, nsz, nmz, c1.g]; done) ?_ | fail)
  exact Tot.ret (hQ _ _ ⟨Keep.ext (Keep.auto), p1, q1, τ, t, rfl, (i1.keep (by (repeat (first | exact KeepP.refl | refine KeepP.call ?_ (by assumption) | refine KeepP.push ?_ | refine KeepP.more ?_ | refine KeepP.set ?_ (by first | (right; first | omega | (simp only [npz, nsz, nmz] <;> omega) | fail) | (left; simp; done) | fail))))).mono fun i _ hi => hi.1, ((hm a2).keep (by (repeat (first | exact KeepP.refl | refine KeepP.call ?_ (by assumption) | refine KeepP.push ?_ | refine KeepP.more ?_ | refine KeepP.set ?_ (by first | (right; first | omega | (simp only [npz, nsz, nmz] <;> omega) | fail) | (left; simp; done) | fail))))).mono fun i _ hi => hi.1, hd⟩)
theorem r5_sub {H : Heap} {P : Nat → Prop} {v w : V} {n m : Int} {d e : Nat} (hP : UpP H P) (h : isK H P v n d) (h' : isK H P w m e) (h1 : (dig 65536 n.natAbs).length < 10000000) (h2 : (dig 65536 m.natAbs).length < 10000000) (h3 : (dig 65536 d).length < 10000000) (h4 : (dig 65536 e).length < 10000000) :
    Tot (fun n => f_ref05_Sub n [v, w] H) fun v H' => Ext0 H H' ∧ isK H' P v (n * e - m * d) (d * e) := by
  have ha := h
  have hb := h'
  obtain ⟨σ, s, τ, t, rfl, -⟩ := h
  obtain ⟨σ', s', τ', t', rfl, -⟩ := h'
  refine Tot.of fun Q hQ => ?_
  refine ref05_Sub_tot ?_
  simp only [ref05_Sub_b]
  have hq : ∀ (G : Heap), H.n + 3 ≤ G.n → UpP G (fun i => P i ∧ i ≠ H.n + 1 + 1) := fun G hG i hi => ⟨hP i (by omega), by omega⟩
  have hm : ∀ {v : V} {n : Int} {d : Nat}, isK H P v n d → isK H (fun i => P i ∧ i ≠ H.n + 1 + 1) v n d := fun h => h.mono fun i hi hp => ⟨hp, by omega⟩
  repeat (first | refine Tot.autoP ?_ | refine Tot.autoC ?_ | fail)
  refine Tot.bind (r5_neg (hq _ (by simp)) ((hm hb).keep (by (repeat (first | exact KeepP.refl | refine KeepP.call ?_ (by assumption) | refine KeepP.push ?_ | refine KeepP.more ?_ | refine KeepP.set ?_ (by first | (right; first | omega | (simp only [npz, nsz, nmz] <;> omega) | fail) | (left; simp; done) | fail)))))) ?_
  rintro v H1 ⟨c1, i1⟩
  have n1 := c1.n; try simp only [npz, nsz, nmz] at n1
  have i1' := i1
  obtain ⟨p1, q1, p2, q2, rfl, -⟩ := i1
  dsimp only
  repeat (first | refine Tot.pure (by simp (disch := first | omega | (simp only [npz, nsz, nmz] <;> omega) | fail) [lhz, lgz, sgz, boxA, gz, gs, Heap.gqz, Heap.gpz, Heap.gtz, Heap.gsz, gmz, npz, nsz, nmz, c1.g]; try exact rfl) ?_ | refine Tot.chk (by simp (disch := first | omega | (simp only [npz, nsz, nmz] <;> omega) | fail) [lhz, lgz, sgz, boxA, gz, gs, Heap.gqz, Heap.gpz, Heap.gtz, Heap.gsz, gmz, npz, nsz, nmz, c1.g]; done) ?_ | fail)
  refine Tot.bind (r5_add (hq _ (by omega)) ((hm ha).keep (by (repeat (first | exact KeepP.refl | refine KeepP.call ?_ (by assumption) | refine KeepP.push ?_ | refine KeepP.more ?_ | refine KeepP.set ?_ (by first | (right; first | omega | (simp only [npz, nsz, nmz] <;> omega) | fail) | (left; simp; done) | fail))))) i1' h1 (by rw [Int.natAbs_neg]; exact h2) h3 h4) ?_
  rintro v H2 ⟨c2, i2⟩
  have n2 := c2.n; try simp only [npz, nsz, nmz] at n2
  rw [Int.neg_mul, ← Int.sub_eq_add_neg] at i2
  have i2' := i2
  obtain ⟨p3, q3, p4, q4, rfl, -⟩ := i2
  dsimp only
  repeat (first | refine Tot.pure (by simp (disch := first | omega | (simp only [npz, nsz, nmz] <;> omega) | fail) [lhz, lgz, sgz, boxA, gz, gs, Heap.gqz, Heap.gpz, Heap.gtz, Heap.gsz, gmz, npz, nsz, nmz, c1.g, c2.g]; try exact rfl) ?_ | refine Tot.chk (by simp (disch := first | omega | (simp only [npz, nsz, nmz] <;> omega) | fail) [lhz, lgz, sgz, boxA, gz, gs, Heap.gqz, Heap.gpz, Heap.gtz, Heap.gsz, gmz, npz, nsz, nmz, c1.g, c2.g]; done) ?_ | fail)
  exact Tot.ret (hQ _ _ ⟨Keep.ext (Keep.auto), (i2'.keep (by (repeat (first | exact KeepP.refl | refine KeepP.call ?_ (by assumption) | refine KeepP.push ?_ | refine KeepP.more ?_ | refine KeepP.set ?_ (by first | (right; first | omega | (simp only [npz, nsz, nmz] <;> omega) | fail) | (left; simp; done) | fail))))).mono fun i _ hi => hi.1⟩)
theorem r5_cmp {H : Heap} {P : Nat → Prop} {v w : V} {n m : Int} {d e : Nat} (hP : UpP H P) (h : isK H P v n d) (h' : isK H P w m e) (h1 : (dig 65536 n.natAbs).length < 10000000) (h2 : (dig 65536 m.natAbs).length < 10000000) (h3 : (dig 65536 d).length < 10000000) (h4 : (dig 65536 e).length < 10000000) :
    Tot (fun n => f_ref05_Cmp n [v, w] H) fun v H' => Ext0 H H' ∧ v = .int .i64 (n * e - m * d).sign := by
  obtain ⟨σ, s, τ, t, rfl, a1, a2, hd⟩ := h
  obtain ⟨σ', s', τ', t', rfl, b1, b2, he⟩ := h'
  refine Tot.of fun Q hQ => ?_
  refine ref05_Cmp_tot ?_
  simp only [ref05_Cmp_b]
  have hq : ∀ (G : Heap), H.n ≤ G.n → UpP G P := fun G hG i hi => hP i (by omega)
  repeat (first | refine Tot.autoP ?_ | refine Tot.autoC ?_ | fail)
  refine Tot.bind (r4_mul (hq _ (by simp; omega)) (a1.keep (by (repeat (first | exact KeepP.refl | refine KeepP.call ?_ (by assumption) | refine KeepP.push ?_ | refine KeepP.more ?_ | refine KeepP.set ?_ (by first | (right; first | omega | (simp only [npz, nsz, nmz] <;> omega) | fail) | (left; simp; done) | fail))))) (b2.keep (by (repeat (first | exact KeepP.refl | refine KeepP.call ?_ (by assumption) | refine KeepP.push ?_ | refine KeepP.more ?_ | refine KeepP.set ?_ (by first | (right; first | omega | (simp only [npz, nsz, nmz] <;> omega) | fail) | (left; simp; done) | fail))))) (by rw [Int.natAbs_natCast]; omega)) ?_
  rintro v H1 ⟨c1, i1⟩
  have n1 := c1.n; try simp only [npz, nsz, nmz] at n1
  obtain ⟨p1, q1, rfl, -⟩ := i1.shape
  dsimp only
  repeat (first | refine Tot.pure (by simp (disch := first | omega | (simp only [npz, nsz, nmz] <;> omega) | fail) [lhz, lgz, sgz, boxA, gz, gs, Heap.gqz, Heap.gpz, Heap.gtz, Heap.gsz, gmz, npz, nsz, nmz, c1.g]; try exact rfl) ?_ | refine Tot.chk (by simp (disch := first | omega | (simp only [npz, nsz, nmz] <;> omega) | fail) [lhz, lgz, sgz, boxA, gz, gs, Heap.gqz, Heap.gpz, Heap.gtz, Heap.gsz, gmz, npz, nsz, nmz, c1.g]; done) ?_ | fail)
  refine Tot.bind (r4_mul (hq _ (by omega)) (b1.keep (by (repeat (first | exact KeepP.refl | refine KeepP.call ?_ (by assumption) | refine KeepP.push ?_ | refine KeepP.more ?_ | refine KeepP.set ?_ (by first | (right; first | omega | (simp only [npz, nsz, nmz] <;> omega) | fail) | (left; simp; done) | fail))))) (a2.keep (by (repeat (first | exact KeepP.refl | refine KeepP.call ?_ (by assumption) | refine KeepP.push ?_ | refine KeepP.more ?_ | refine KeepP.set ?_ (by first | (right; first | omega | (simp only [npz, nsz, nmz] <;> omega) | fail) | (left; simp; done) | fail))))) (by rw [Int.natAbs_natCast]; omega)) ?_
  rintro v H2 ⟨c2, i2⟩
  have n2 := c2.n; try simp only [npz, nsz, nmz] at n2
  obtain ⟨p2, q2, rfl, -⟩ := i2.shape
  dsimp only
  have z1 := rsz_mul (x := n.natAbs) (y := e)
  have z2 := rsz_mul (x := m.natAbs) (y := d)
  rw [← Int.natAbs_natCast e, ← Int.natAbs_mul, Int.natAbs_natCast] at z1
  rw [← Int.natAbs_natCast d, ← Int.natAbs_mul, Int.natAbs_natCast] at z2
  refine Tot.bind (r4_cmp (hq _ (by omega)) (i1.keep (by (repeat (first | exact KeepP.refl | refine KeepP.call ?_ (by assumption) | refine KeepP.push ?_ | refine KeepP.more ?_ | refine KeepP.set ?_ (by first | (right; first | omega | (simp only [npz, nsz, nmz] <;> omega) | fail) | (left; simp; done) | fail))))) i2 (by omega) (by omega)) ?_
  rintro v H3 ⟨c3, rfl⟩
  exact Tot.ret (hQ _ _ ⟨Keep.ext (Keep.auto), rfl⟩)
end Go.AM
end
section
set_option linter.unusedVariables false
set_option linter.unusedSimpArgs false
set_option linter.unusedSimpArgs false
set_option linter.unusedVariables false
set_option maxRecDepth 1000000
namespace Go.AM
def Fz (base : Nat) (H : Heap) (v0 v : V) : Prop := ∃ ids, frzV H 6 v0 = some (v, ids) ∧ ∀ j ∈ ids, base ≤ j
theorem ext_of (ok : C.Ok) {f : FuncId} {dom : List V → Option V} {c : Nat → List V → Heap → Option R} (hc : ∀ n args H, c n args H = callA C n f args H)
    (h : ∀ args v, dom args = some v → V.flats args = true ∧ v.free = true ∧ ∀ base H args', base ≤ H.n → Ths base H args args' → Tot (fun n => c n args' H) fun v0 H0 => Ext0 H H0 ∧ Fz base H0 v0 v) :
    ExtSound C.P f (extF dom) := by
  refine extSound (C0 := C) ok ?_
  intro args v hd
  obtain ⟨h1, h2, h3⟩ := h args v hd
  refine ⟨h1, h2, fun base H args' hb ht => ?_⟩
  obtain ⟨v0, H0, ⟨ce, ids, hz, hi⟩, n0, hn⟩ := h3 base H args' hb ht
  have this : c n0 args' H = some (v0, H0) := hn n0 (Nat.le_refl _)
  rw [hc] at this
  exact ⟨n0, v0, H0, ids, this, ce.n, fun i hi => ce.g hi, hz, hi⟩
def dI (g : Int → Option V) : List V → Option V
  | [a] => match decI a with
    | some x => g x
    | none => none
  | _ => none
def dII (g : Int → Int → Option V) : List V → Option V
  | [a, b] => match decI a with
    | some x => match decI b with
      | some y => g x y
      | none => none
    | none => none
  | _ => none
def dJ (g : Int → Option V) : List V → Option V
  | [a] => match decJ a with
    | some x => g x
    | none => none
  | _ => none
def dJJ (g : Int → Int → Option V) : List V → Option V
  | [a, b] => match decJ a with
    | some x => match decJ b with
      | some y => g x y
      | none => none
    | none => none
  | _ => none
def dR (g : Int → Nat → Option V) : List V → Option V
  | [a] => match decR a with
    | some x => g x.1 x.2
    | none => none
  | _ => none
def dRR (g : Int → Nat → Int → Nat → Option V) : List V → Option V
  | [a, b] => match decR a with
    | some x => match decR b with
      | some y => g x.1 x.2 y.1 y.2
      | none => none
    | none => none
  | _ => none
def dK (g : Int → Nat → Option V) : List V → Option V
  | [a] => match decK a with
    | some x => g x.1 x.2
    | none => none
  | _ => none
def dKK (g : Int → Nat → Int → Nat → Option V) : List V → Option V
  | [a, b] => match decK a with
    | some x => match decK b with
      | some y => g x.1 x.2 y.1 y.2
      | none => none
    | none => none
  | _ => none
def dZ (g : Int → Option V) : List V → Option V
  | [.int .i64 n] => if -9223372036854775808 ≤ n ∧ n ≤ 9223372036854775807 then g n else none
  | _ => none
def dNN (g : Nat → Nat → Option V) : List V → Option V
  | [a, b] => match decL .u32 4294967296 a with
    | some l => match decL .u32 4294967296 b with
      | some q => g (val 4294967296 l) (val 4294967296 q)
      | none => none
    | none => none
  | _ => none
def decQ : V → Option Int
  | .agg [.bool s, m] => match decL .u32 4294967296 m with
    | some l => some (sgn s (val 4294967296 l))
    | none => none
  | _ => none
def dQ (g : Int → Option V) : List V → Option V
  | [a] => match decQ a with
    | some x => g x
    | none => none
  | _ => none
def dQN (g : Int → Nat → Option V) : List V → Option V
  | [a, b] => match decQ a with
    | some x => match decL .u32 4294967296 b with
      | some q => g x (val 4294967296 q)
      | none => none
    | none => none
  | _ => none
theorem flats1 {a : V} (h : a.flat = true) : V.flats [a] = true := by simp [V.flats, h]
theorem flats2 {a b : V} (h : a.flat = true) (h' : b.flat = true) : V.flats [a, b] = true := by simp [V.flats, h, h']
theorem ths1 {base : Nat} {H : Heap} {a : V} {us : List V} (h : Ths base H [a] us) : ∃ u, us = [u] ∧ Th base H a u := by
  simp only [Ths] at h
  obtain ⟨u, _, rfl, t, rfl⟩ := h
  exact ⟨u, rfl, t⟩
theorem ths2 {base : Nat} {H : Heap} {a b : V} {us : List V} (h : Ths base H [a, b] us) : ∃ u w, us = [u, w] ∧ Th base H a u ∧ Th base H b w := by
  simp only [Ths] at h
  obtain ⟨u, _, rfl, t, w, _, rfl, t', rfl⟩ := h
  exact ⟨u, w, rfl, t, t'⟩
theorem decQ_is {base : Nat} {H : Heap} {v u : V} {z : Int} (h : decQ v = some z) (t : Th base H v u) :
    ∃ b s l, u = .agg [.bool b, .slice s] ∧ Row H .u32 s l ∧ (∀ i, s.has i → base ≤ i) ∧ Lim 4294967296 l ∧ l.length < 1000000 ∧ z = sgn b (val 4294967296 l) := by
  unfold decQ at h
  split at h
  · rename_i s m
    split at h
    · rename_i l hl
      simp at h; subst h
      simp only [Th, Ths] at t
      obtain ⟨_, rfl, _, _, rfl, rfl, u2, _, rfl, t2, rfl⟩ := t
      obtain ⟨s', rfl, r, f, hL, hm⟩ := decL_row hl t2
      exact ⟨s, s', l, rfl, r, f, hL, hm, rfl⟩
    · cases h
  · cases h
theorem decQ_flat {v : V} {z : Int} (h : decQ v = some z) : v.flat = true := by
  unfold decQ at h
  split at h
  · split at h
    · rename_i l hl
      simp only [V.flat, V.flats, decL_flat hl]; rfl
    · cases h
  · cases h
theorem decI_flat {v : V} {z : Int} (h : decI v = some z) : v.flat = true := by
  unfold decI at h
  split at h
  · split at h
    · rename_i l hl
      simp only [V.flat, V.flats, decL_flat hl]; rfl
    · cases h
  · cases h
theorem decJ_flat {v : V} {z : Int} (h : decJ v = some z) : v.flat = true := by
  unfold decJ at h
  split at h
  · split at h
    · rename_i l hl
      simp only [V.flat, V.flats, decL_flat hl]; rfl
    · cases h
  · cases h
theorem decR_flat {v : V} {z : Int × Nat} (h : decR v = some z) : v.flat = true := by
  unfold decR at h
  split at h
  · split at h
    · rename_i l q hl hq
      simp only [V.flat, V.flats, decL_flat hl, decL_flat hq]; rfl
    · cases h
  · cases h
theorem decK_flat {v : V} {z : Int × Nat} (h : decK v = some z) : v.flat = true := by
  unfold decK at h
  split at h
  · split at h
    · rename_i n d hn hd
      have a := decJ_flat hn
      have b := decJ_flat hd
      simp only [V.flat, V.flats, Bool.and_eq_true] at a b ⊢
      exact ⟨trivial, a.2.1, trivial, b.2.1, trivial⟩
    · cases h
  · cases h
section
variable {f : FuncId} {c : Nat → List V → Heap → Option R}
theorem ext_I (ok : C.Ok) {g : Int → Option V} (hc : ∀ n args H, c n args H = callA C n f args H)
    (h : ∀ x v, g x = some v → v.free = true ∧ ∀ base H a, base ≤ H.n → isI H base a x → (dig 4294967296 x.natAbs).length < 1000000 → Tot (fun n => c n [a] H) fun v0 H0 => Ext0 H H0 ∧ Fz base H0 v0 v) : ExtSound C.P f (extF (dI g)) := by
  refine ext_of ok hc ?_
  intro args v hd
  unfold dI at hd
  split at hd
  · split at hd
    · rename_i a x hx
      obtain ⟨h1, h2⟩ := h _ _ hd
      refine ⟨flats1 (decI_flat hx), h1, fun base H args' hb ht => ?_⟩
      obtain ⟨u, rfl, t⟩ := ths1 ht
      obtain ⟨k1, k2, _⟩ := decI_is hx t
      exact h2 base H u hb k1 k2
    · cases hd
  · cases hd
theorem ext_II (ok : C.Ok) {g : Int → Int → Option V} (hc : ∀ n args H, c n args H = callA C n f args H)
    (h : ∀ x y v, g x y = some v → v.free = true ∧ ∀ base H a b, base ≤ H.n → isI H base a x → isI H base b y → (dig 4294967296 x.natAbs).length < 1000000 → (dig 4294967296 y.natAbs).length < 1000000 → Tot (fun n => c n [a, b] H) fun v0 H0 => Ext0 H H0 ∧ Fz base H0 v0 v) : ExtSound C.P f (extF (dII g)) := by
  refine ext_of ok hc ?_
  intro args v hd
  unfold dII at hd
  split at hd
  · split at hd
    · rename_i a b x hx
      split at hd
      · rename_i y hy
        obtain ⟨h1, h2⟩ := h _ _ _ hd
        refine ⟨flats2 (decI_flat hx) (decI_flat hy), h1, fun base H args' hb ht => ?_⟩
        obtain ⟨u, w, rfl, t, t'⟩ := ths2 ht
        obtain ⟨k1, k2, _⟩ := decI_is hx t
        obtain ⟨l1, l2, _⟩ := decI_is hy t'
        exact h2 base H u w hb k1 l1 k2 l2
      · cases hd
    · cases hd
  · cases hd
theorem ext_J (ok : C.Ok) {g : Int → Option V} (hc : ∀ n args H, c n args H = callA C n f args H)
    (h : ∀ x v, g x = some v → v.free = true ∧ ∀ base H a, base ≤ H.n → isJ H (fun i => base ≤ i) a x → (dig 65536 x.natAbs).length < 1000000 → Tot (fun n => c n [a] H) fun v0 H0 => Ext0 H H0 ∧ Fz base H0 v0 v) : ExtSound C.P f (extF (dJ g)) := by
  refine ext_of ok hc ?_
  intro args v hd
  unfold dJ at hd
  split at hd
  · split at hd
    · rename_i a x hx
      obtain ⟨h1, h2⟩ := h _ _ hd
      refine ⟨flats1 (decJ_flat hx), h1, fun base H args' hb ht => ?_⟩
      obtain ⟨u, rfl, t⟩ := ths1 ht
      obtain ⟨k1, k2, _⟩ := decJ_is hx t
      exact h2 base H u hb k1 k2
    · cases hd
  · cases hd
theorem ext_JJ (ok : C.Ok) {g : Int → Int → Option V} (hc : ∀ n args H, c n args H = callA C n f args H)
    (h : ∀ x y v, g x y = some v → v.free = true ∧ ∀ base H a b, base ≤ H.n → isJ H (fun i => base ≤ i) a x → isJ H (fun i => base ≤ i) b y → (dig 65536 x.natAbs).length < 1000000 → (dig 65536 y.natAbs).length < 1000000 → Tot (fun n => c n [a, b] H) fun v0 H0 => Ext0 H H0 ∧ Fz base H0 v0 v) : ExtSound C.P f (extF (dJJ g)) := by
  refine ext_of ok hc ?_
  intro args v hd
  unfold dJJ at hd
  split at hd
  · split at hd
    · rename_i a b x hx
      split at hd
      · rename_i y hy
        obtain ⟨h1, h2⟩ := h _ _ _ hd
        refine ⟨flats2 (decJ_flat hx) (decJ_flat hy), h1, fun base H args' hb ht => ?_⟩
        obtain ⟨u, w, rfl, t, t'⟩ := ths2 ht
        obtain ⟨k1, k2, _⟩ := decJ_is hx t
        obtain ⟨l1, l2, _⟩ := decJ_is hy t'
        exact h2 base H u w hb k1 l1 k2 l2
      · cases hd
    · cases hd
  · cases hd
theorem ext_R (ok : C.Ok) {g : Int → Nat → Option V} (hc : ∀ n args H, c n args H = callA C n f args H)
    (h : ∀ x d v, g x d = some v → v.free = true ∧ ∀ base H a, base ≤ H.n → rawR H a x d 1000000 → Tot (fun n => c n [a] H) fun v0 H0 => Ext0 H H0 ∧ Fz base H0 v0 v) : ExtSound C.P f (extF (dR g)) := by
  refine ext_of ok hc ?_
  intro args v hd
  unfold dR at hd
  split at hd
  · split at hd
    · rename_i a x hx
      obtain ⟨h1, h2⟩ := h _ _ _ hd
      refine ⟨flats1 (decR_flat hx), h1, fun base H args' hb ht => ?_⟩
      obtain ⟨u, rfl, t⟩ := ths1 ht
      obtain ⟨k1, _⟩ := decR_is (n := x.1) (d := x.2) hx t
      exact h2 base H u hb k1
    · cases hd
  · cases hd
theorem ext_RR (ok : C.Ok) {g : Int → Nat → Int → Nat → Option V} (hc : ∀ n args H, c n args H = callA C n f args H)
    (h : ∀ x d y e v, g x d y e = some v → v.free = true ∧ ∀ base H a b, base ≤ H.n → rawR H a x d 1000000 → rawR H b y e 1000000 → Tot (fun n => c n [a, b] H) fun v0 H0 => Ext0 H H0 ∧ Fz base H0 v0 v) : ExtSound C.P f (extF (dRR g)) := by
  refine ext_of ok hc ?_
  intro args v hd
  unfold dRR at hd
  split at hd
  · split at hd
    · rename_i a b x hx
      split at hd
      · rename_i y hy
        obtain ⟨h1, h2⟩ := h _ _ _ _ _ hd
        refine ⟨flats2 (decR_flat hx) (decR_flat hy), h1, fun base H args' hb ht => ?_⟩
        obtain ⟨u, w, rfl, t, t'⟩ := ths2 ht
        obtain ⟨k1, _⟩ := decR_is (n := x.1) (d := x.2) hx t
        obtain ⟨l1, _⟩ := decR_is (n := y.1) (d := y.2) hy t'
        exact h2 base H u w hb k1 l1
      · cases hd
    · cases hd
  · cases hd
theorem ext_K (ok : C.Ok) {g : Int → Nat → Option V} (hc : ∀ n args H, c n args H = callA C n f args H)
    (h : ∀ x d v, g x d = some v → v.free = true ∧ ∀ base H a, base ≤ H.n → isK H (fun i => base ≤ i) a x d → (dig 65536 x.natAbs).length < 1000000 → (dig 65536 d).length < 1000000 → Tot (fun n => c n [a] H) fun v0 H0 => Ext0 H H0 ∧ Fz base H0 v0 v) : ExtSound C.P f (extF (dK g)) := by
  refine ext_of ok hc ?_
  intro args v hd
  unfold dK at hd
  split at hd
  · split at hd
    · rename_i a x hx
      obtain ⟨h1, h2⟩ := h _ _ _ hd
      refine ⟨flats1 (decK_flat hx), h1, fun base H args' hb ht => ?_⟩
      obtain ⟨u, rfl, t⟩ := ths1 ht
      obtain ⟨k1, k2, k3, _⟩ := decK_is (n := x.1) (d := x.2) hx t
      exact h2 base H u hb k1 k2 k3
    · cases hd
  · cases hd
theorem ext_KK (ok : C.Ok) {g : Int → Nat → Int → Nat → Option V} (hc : ∀ n args H, c n args H = callA C n f args H)
    (h : ∀ x d y e v, g x d y e = some v → v.free = true ∧ ∀ base H a b, base ≤ H.n → isK H (fun i => base ≤ i) a x d → isK H (fun i => base ≤ i) b y e → (dig 65536 x.natAbs).length < 1000000 → (dig 65536 d).length < 1000000 → (dig 65536 y.natAbs).length < 1000000 → (dig 65536 e).length < 1000000 →
      Tot (fun n => c n [a, b] H) fun v0 H0 => Ext0 H H0 ∧ Fz base H0 v0 v) : ExtSound C.P f (extF (dKK g)) := by
  refine ext_of ok hc ?_
  intro args v hd
  unfold dKK at hd
  split at hd
  · split at hd
    · rename_i a b x hx
      split at hd
      · rename_i y hy
        obtain ⟨h1, h2⟩ := h _ _ _ _ _ hd
        refine ⟨flats2 (decK_flat hx) (decK_flat hy), h1, fun base H args' hb ht => ?_⟩
        obtain ⟨u, w, rfl, t, t'⟩ := ths2 ht
        obtain ⟨k1, k2, k3, _⟩ := decK_is (n := x.1) (d := x.2) hx t
        obtain ⟨l1, l2, l3, _⟩ := decK_is (n := y.1) (d := y.2) hy t'
        exact h2 base H u w hb k1 l1 k2 k3 l2 l3
      · cases hd
    · cases hd
  · cases hd
theorem ext_Z (ok : C.Ok) {g : Int → Option V} (hc : ∀ n args H, c n args H = callA C n f args H)
    (h : ∀ x v, g x = some v → v.free = true ∧ ∀ base H, base ≤ H.n → -9223372036854775808 ≤ x ∧ x ≤ 9223372036854775807 → Tot (fun n => c n [.int .i64 x] H) fun v0 H0 => Ext0 H H0 ∧ Fz base H0 v0 v) : ExtSound C.P f (extF (dZ g)) := by
  refine ext_of ok hc ?_
  intro args v hd
  unfold dZ at hd
  split at hd
  · split at hd
    · rename_i x hx
      obtain ⟨h1, h2⟩ := h _ _ hd
      refine ⟨by simp [V.flats, V.flat], h1, fun base H args' hb ht => ?_⟩
      obtain ⟨u, rfl, t⟩ := ths1 ht
      simp only [Th] at t
      subst t
      exact h2 base H hb hx
    · cases hd
  · cases hd
theorem ext_Q (ok : C.Ok) {g : Int → Option V} (hc : ∀ n args H, c n args H = callA C n f args H)
    (h : ∀ x v, g x = some v → v.free = true ∧ ∀ base H b s l, base ≤ H.n → Row H .u32 s l → Lim 4294967296 l → l.length < 1000000 → x = sgn b (val 4294967296 l) → Tot (fun n => c n [.agg [.bool b, .slice s]] H) fun v0 H0 => Ext0 H H0 ∧ Fz base H0 v0 v) : ExtSound C.P f (extF (dQ g)) := by
  refine ext_of ok hc ?_
  intro args v hd
  unfold dQ at hd
  split at hd
  · split at hd
    · rename_i a x hx
      obtain ⟨h1, h2⟩ := h _ _ hd
      refine ⟨flats1 (decQ_flat hx), h1, fun base H args' hb ht => ?_⟩
      obtain ⟨u, rfl, t⟩ := ths1 ht
      obtain ⟨b, s, l, rfl, r, f, hL, hm, e⟩ := decQ_is hx t
      exact h2 base H b s l hb r hL hm e
    · cases hd
  · cases hd
theorem ext_QN (ok : C.Ok) {g : Int → Nat → Option V} (hc : ∀ n args H, c n args H = callA C n f args H)
    (h : ∀ x y v, g x y = some v → v.free = true ∧ ∀ base H b s l t q, base ≤ H.n → Row H .u32 s l → Row H .u32 t q → Lim 4294967296 l → Lim 4294967296 q → l.length < 1000000 → q.length < 1000000 → x = sgn b (val 4294967296 l) → y = val 4294967296 q →
      Tot (fun n => c n [.agg [.bool b, .slice s], .slice t] H) fun v0 H0 => Ext0 H H0 ∧ Fz base H0 v0 v) : ExtSound C.P f (extF (dQN g)) := by
  refine ext_of ok hc ?_
  intro args v hd
  unfold dQN at hd
  split at hd
  · split at hd
    · rename_i a b' x hx
      split at hd
      · rename_i q hq
        obtain ⟨h1, h2⟩ := h _ _ _ hd
        refine ⟨flats2 (decQ_flat hx) (decL_flat hq), h1, fun base H args' hb ht => ?_⟩
        obtain ⟨u, w, rfl, t, t'⟩ := ths2 ht
        obtain ⟨b, s, l, rfl, r, f, hL, hm, e⟩ := decQ_is hx t
        obtain ⟨s2, rfl, r2, f2, hL2, hm2⟩ := decL_row hq t'
        exact h2 base H b s l s2 q hb r r2 hL hL2 hm hm2 e rfl
      · cases hd
    · cases hd
  · cases hd
theorem ext_NN (ok : C.Ok) {g : Nat → Nat → Option V} (hc : ∀ n args H, c n args H = callA C n f args H)
    (h : ∀ x y v, g x y = some v → v.free = true ∧ ∀ base H s l t q, base ≤ H.n → Row H .u32 s l → Row H .u32 t q → Lim 4294967296 l → Lim 4294967296 q → l.length < 1000000 → q.length < 1000000 → x = val 4294967296 l → y = val 4294967296 q →
      Tot (fun n => c n [.slice s, .slice t] H) fun v0 H0 => Ext0 H H0 ∧ Fz base H0 v0 v) : ExtSound C.P f (extF (dNN g)) := by
  refine ext_of ok hc ?_
  intro args v hd
  unfold dNN at hd
  split at hd
  · split at hd
    · rename_i a b' l hl
      split at hd
      · rename_i q hq
        obtain ⟨h1, h2⟩ := h _ _ _ hd
        refine ⟨flats2 (decL_flat hl) (decL_flat hq), h1, fun base H args' hb ht => ?_⟩
        obtain ⟨u, w, rfl, t, t'⟩ := ths2 ht
        obtain ⟨s, rfl, r, f, hL, hm⟩ := decL_row hl t
        obtain ⟨s2, rfl, r2, f2, hL2, hm2⟩ := decL_row hq t'
        exact h2 base H s l s2 q hb r r2 hL hL2 hm hm2 rfl rfl
      · cases hd
    · cases hd
  · cases hd
end
def dN (g : Nat → Option V) : List V → Option V
  | [a] => match decL .u32 4294967296 a with
    | some l => g (val 4294967296 l)
    | none => none
  | _ => none
theorem ext_N {f : FuncId} {c : Nat → List V → Heap → Option R} (ok : C.Ok) {g : Nat → Option V} (hc : ∀ n args H, c n args H = callA C n f args H)
    (h : ∀ x v, g x = some v → v.free = true ∧ ∀ base H s l, base ≤ H.n → Row H .u32 s l → Lim 4294967296 l → l.length < 1000000 → x = val 4294967296 l →
      Tot (fun n => c n [.slice s] H) fun v0 H0 => Ext0 H H0 ∧ Fz base H0 v0 v) : ExtSound C.P f (extF (dN g)) := by
  refine ext_of ok hc ?_
  intro args v hd
  unfold dN at hd
  split at hd
  · split at hd
    · rename_i a l hl
      obtain ⟨h1, h2⟩ := h _ _ hd
      refine ⟨flats1 (decL_flat hl), h1, fun base H args' hb ht => ?_⟩
      obtain ⟨u, rfl, t⟩ := ths1 ht
      obtain ⟨s, rfl, r, f, hL, hm⟩ := decL_row hl t
      exact h2 base H s l hb r hL hm rfl
    · cases hd
  · cases hd
theorem natW_free {x : Nat} : (natW x).free = true := encN_free
theorem fz_row {base : Nat} {H : Heap} {s : Sl} {x : Nat} (r : Row H .u32 s (dig 4294967296 x)) (f : Fr base s) : Fz base H (.slice s) (natW x) := by
  obtain ⟨ids, e, hi⟩ := frz_row (d := 4) r f
  exact ⟨ids, by rw [e]; simp [natW, digK_eq], hi⟩
theorem Fr.ge {base n : Nat} {s : Sl} (f : Fr n s) (h : base ≤ n) : Fr base s := fun i hi => Nat.le_trans h (f i hi)
end Go.AM
end
section
set_option linter.unusedVariables false
set_option linter.unusedSimpArgs false
set_option linter.unusedSimpArgs false
set_option linter.unusedVariables false
set_option maxRecDepth 1000000
namespace Go.AM
theorem base_ok : C.Ok := ⟨seat_mixed, seat_fns, fun f g h => by cases h⟩
theorem tot_int {c : Nat → Option R} {H : Heap} {base : Nat} {z : Int} (hb : base ≤ H.n) (h : Tot c fun v H' => Ext0 H H' ∧ isI H' H.n v z) : Tot c fun v0 H0 => Ext0 H H0 ∧ Fz base H0 v0 (intW z) :=
  h.mono fun v H' ⟨a, b⟩ => ⟨a, frz_int (b.mono hb)⟩
theorem tot_rat {c : Nat → Option R} {H : Heap} {base : Nat} {n : Int} {d : Nat} (hb : base ≤ H.n) (h : Tot c fun v H' => Ext0 H H' ∧ isR H' H.n v n d) : Tot c fun v0 H0 => Ext0 H H0 ∧ Fz base H0 v0 (ratW n d) :=
  h.mono fun v H' ⟨a, b⟩ => ⟨a, frz_rat (b.mono hb)⟩
theorem tot_intD {c : Nat → Option R} {H : Heap} {base : Nat} {z : Int} (h : Tot c fun v H' => Ext0 H H' ∧ isJ H' (fun i => base ≤ i) v z) : Tot c fun v0 H0 => Ext0 H H0 ∧ Fz base H0 v0 (intD z) :=
  h.mono fun v H' ⟨a, b⟩ => ⟨a, frz_intD b⟩
theorem tot_ratD {c : Nat → Option R} {H : Heap} {base : Nat} {n : Int} {d : Nat} (h : Tot c fun v H' => Ext0 H H' ∧ isK H' (fun i => base ≤ i) v n d) : Tot c fun v0 H0 => Ext0 H H0 ∧ Fz base H0 v0 (ratD n d) :=
  h.mono fun v H' ⟨a, b⟩ => ⟨a, frz_ratD b⟩
theorem tot_plain {c : Nat → Option R} {H : Heap} {base : Nat} {u : V} (hp : u.plain1 = true) (h : Tot c fun v H' => Ext0 H H' ∧ v = u) : Tot c fun v0 H0 => Ext0 H H0 ∧ Fz base H0 v0 u :=
  h.mono fun v H' ⟨a, b⟩ => ⟨a, by rw [b]; exact frz_plain hp⟩
theorem upP {base : Nat} {H : Heap} (h : base ≤ H.n) : UpP H fun i => base ≤ i := fun i hi => Nat.le_trans h hi
def g_whole_Of (z : Int) : Option V := some (intW z)
theorem xs_whole_Of : ExtSound C.P i_whole_Of (extF (dZ g_whole_Of)) := ext_Z (c := f_whole_Of) base_ok (fun n a H => by unfold f_whole_Of; rfl) fun x v h => by
  cases h; exact ⟨intW_free, fun base H hb hx => tot_int hb (whole_Of_spec hx)⟩
def g_whole_Norm (z : Int) : Option V := some (intW z)
theorem xs_whole_Norm : ExtSound C.P i_whole_Norm (extF (dQ g_whole_Norm)) := ext_Q (c := f_whole_Norm) base_ok (fun n a H => by unfold f_whole_Norm; rfl) fun x v h => by
  cases h; exact ⟨intW_free, fun base H b s l hb r hL hm e => by subst e; exact tot_int hb (whole_Norm_spec r (by omega) hL)⟩
def g_whole_Neg (z : Int) : Option V := some (intW (-z))
theorem xs_whole_Neg : ExtSound C.P i_whole_Neg (extF (dI g_whole_Neg)) := ext_I (c := f_whole_Neg) base_ok (fun n a H => by unfold f_whole_Neg; rfl) fun x v h => by
  cases h; exact ⟨intW_free, fun base H a hb k l => tot_int hb (whole_Neg_spec k (by omega))⟩
def g_whole_Sign (z : Int) : Option V := some (.int .i64 z.sign)
theorem xs_whole_Sign : ExtSound C.P i_whole_Sign (extF (dI g_whole_Sign)) := ext_I (c := f_whole_Sign) base_ok (fun n a H => by unfold f_whole_Sign; rfl) fun x v h => by
  cases h; exact ⟨rfl, fun base H a hb k l => tot_plain rfl (whole_Sign_spec k (by omega))⟩
def g_whole_Add (x y : Int) : Option V := some (intW (x + y))
theorem xs_whole_Add : ExtSound C.P i_whole_Add (extF (dII g_whole_Add)) := ext_II (c := f_whole_Add) base_ok (fun n a H => by unfold f_whole_Add; rfl) fun x y v h => by
  cases h; exact ⟨intW_free, fun base H a b hb k k' l l' => tot_int hb (whole_Add_spec k k' (by omega) (by omega))⟩
def g_whole_Mul (x y : Int) : Option V := some (intW (x * y))
theorem xs_whole_Mul : ExtSound C.P i_whole_Mul (extF (dII g_whole_Mul)) := ext_II (c := f_whole_Mul) base_ok (fun n a H => by unfold f_whole_Mul; rfl) fun x y v h => by
  cases h; exact ⟨intW_free, fun base H a b hb k k' l l' => tot_int hb (whole_Mul_spec k k' (by omega))⟩
def g_nat_Mul (x y : Nat) : Option V := some (natW (x * y))
theorem xs_nat_Mul : ExtSound C.P i_nat_Mul (extF (dNN g_nat_Mul)) := ext_NN (c := f_nat_Mul) base_ok (fun n a H => by unfold f_nat_Mul; rfl) fun x y v h => by
  cases h; exact ⟨natW_free, fun base H s l t q hb r r' hL hL' hm hm' e e' => (nat_Mul_spec r r' (by omega) hL hL').mono fun v H' ⟨a, s1, e1, r1, f1⟩ => ⟨a, by subst e e' e1; exact fz_row r1 (f1.ge hb)⟩⟩
def g_nat_Trim (x : Nat) : Option V := some (natW x)
theorem xs_nat_Trim : ExtSound C.P i_nat_Trim (extF (dN g_nat_Trim)) := ext_N (c := f_nat_Trim) base_ok (fun n a H => by unfold f_nat_Trim; rfl) fun x v h => by
  cases h; exact ⟨natW_free, fun base H s l hb r hL hm e => (nat_Trim_spec r (by omega) hL).mono fun v H' ⟨a, s1, e1, r1, f1⟩ => ⟨a, by subst e e1; exact fz_row r1.row (Fr.ge f1 hb)⟩⟩
def g_rat_norm (n : Int) (d : Nat) : Option V := some (ratW (lowN n d) (lowD n d))
theorem xs_rat_norm : ExtSound C.P i_rat_norm (extF (dR g_rat_norm)) := ext_R (c := f_rat_norm) base_ok (fun n a H => by unfold f_rat_norm; rfl) fun x d v h => by
  cases h; exact ⟨ratW_free, fun base H a hb k => tot_rat hb (rat_norm_spec k (by omega))⟩
theorem xs_rat_lowest : ExtSound C.P i_rat_lowest (extF (dQN g_rat_norm)) := ext_QN (c := f_rat_lowest) base_ok (fun n a H => by unfold f_rat_lowest; rfl) fun x y v h => by
  cases h; exact ⟨ratW_free, fun base H b s l t q hb r r' hL hL' hm hm' e e' => by subst e e'; exact tot_rat hb (rat_lowest_spec r r' (by omega) (by omega) hL hL')⟩
def g_rat_Mul (n : Int) (d : Nat) (m : Int) (e : Nat) : Option V := some (ratW (lowN (lowN n d * lowN m e) (lowD n d * lowD m e)) (lowD (lowN n d * lowN m e) (lowD n d * lowD m e)))
theorem xs_rat_Mul : ExtSound C.P i_rat_Mul (extF (dRR g_rat_Mul)) := ext_RR (c := f_rat_Mul) base_ok (fun n a H => by unfold f_rat_Mul; rfl) fun x d y e v h => by
  cases h; exact ⟨ratW_free, fun base H a b hb k k' => tot_rat hb (rat_Mul_spec k k' (by omega))⟩
def g_rat_Make (n d : Int) : Option V := if 0 < d then some (.tuple [ratW (lowN n d.toNat) (lowD n d.toNat), .int .i64 0]) else none
theorem fz_pair {base : Nat} {H : Heap} {v u w : V} (h : ∃ ids, frzV H 5 v = some (u, ids) ∧ ∀ j ∈ ids, base ≤ j) (hp : w.plain1 = true) : Fz base H (.tuple [v, w]) (.tuple [u, w]) := by
  obtain ⟨ids, e, hi⟩ := h
  refine ⟨ids, ?_, hi⟩
  have hw : frzV H 5 w = some (w, []) := by unfold frzV; cases w <;> simp_all [V.plain1]
  unfold frzV
  simp only [frzL, e, hw]
  simp
theorem frz_rat5 {H : Heap} {base : Nat} {v : V} {n : Int} {d : Nat} (h : isR H base v n d) : ∃ ids, frzV H 5 v = some (ratW n d, ids) ∧ ∀ j ∈ ids, base ≤ j := by
  obtain ⟨b, s, t, rfl, ⟨s', e, r, f⟩, r2, f2, _⟩ := h
  simp at e
  obtain ⟨rfl, rfl⟩ := e
  obtain ⟨ids, e, hi⟩ := frz_row (d := 2) r f
  obtain ⟨ids2, e2, hi2⟩ := frz_row (d := 2) r2 f2
  refine ⟨ids ++ ids2, ?_, fun j hj => (List.mem_append.1 hj).elim (hi j) (hi2 j)⟩
  unfold frzV
  simp only [frzL, e, e2]
  simp [frzV, ratW, natW, digK_eq]
theorem xs_rat_Make : ExtSound C.P i_rat_Make (extF (dII g_rat_Make)) := ext_II (c := f_rat_Make) base_ok (fun n a H => by unfold f_rat_Make; rfl) fun x y v h => by
  unfold g_rat_Make at h
  split at h
  · rename_i hy
    cases h
    refine ⟨by simp [V.free, V.frees, ratW_free], fun base H a b hb k k' l l' => ?_⟩
    obtain ⟨e, rfl⟩ : ∃ e : Nat, y = (e : Int) := ⟨y.toNat, by omega⟩
    simp only [Int.toNat_natCast]
    refine (rat_Make_spec k k' (by omega) (by omega) (by simpa using Nat.lt_trans l' (by decide))).mono ?_
    rintro v H' ⟨a, v1, rfl, r⟩
    exact ⟨a, fz_pair (frz_rat5 (r.mono hb)) rfl⟩
  · cases h
def decT (x : Nat) : List UInt8 := if x = 0 then [48] else (lets (digK 10 x)).reverse.map UInt8.ofNat
theorem decT_eq (x : Nat) : decT x = dec x := by unfold decT dec; rw [digK_eq (by decide)]
def dD (g : Nat → Option V) : List V → Option V
  | [a] => match decL .i64 65536 a with
    | some l => if digK 65536 (val 65536 l) = l then g (val 65536 l) else none
    | none => none
  | _ => none
theorem ext_D {f : FuncId} {c : Nat → List V → Heap → Option R} (ok : C.Ok) {g : Nat → Option V} (hc : ∀ n args H, c n args H = callA C n f args H)
    (h : ∀ x v, g x = some v → v.free = true ∧ ∀ base H s, base ≤ H.n → Row H .i64 s (dig 65536 x) → (dig 65536 x).length < 1000000 →
      Tot (fun n => c n [.slice s] H) fun v0 H0 => Ext0 H H0 ∧ Fz base H0 v0 v) : ExtSound C.P f (extF (dD g)) := by
  refine ext_of ok hc ?_
  intro args v hd
  unfold dD at hd
  split at hd
  · split at hd
    · rename_i a l hl
      split at hd
      · rename_i he
        obtain ⟨h1, h2⟩ := h _ _ hd
        refine ⟨flats1 (decL_flat hl), h1, fun base H args' hb ht => ?_⟩
        obtain ⟨u, rfl, t⟩ := ths1 ht
        obtain ⟨s, rfl, r, f, hL, hm⟩ := decL_row hl t
        rw [digK_eq (by decide)] at he
        exact h2 base H s hb (by rw [he]; exact r) (by rw [he]; exact hm)
      · cases hd
    · cases hd
  · cases hd
def g_r3_Show (x : Nat) : Option V := some (.str (decT x))
theorem xs_r3_Show : ExtSound C.P i_ref03_Show (extF (dD g_r3_Show)) := ext_D (c := f_ref03_Show) base_ok (fun n a H => by unfold f_ref03_Show; rfl) fun x v h => by
  cases h; exact ⟨rfl, fun base H s hb r hm => tot_plain rfl (by rw [decT_eq]; exact r_show r (by omega))⟩
def g_r4_Long (z : Int) : Option V := some (intD z)
theorem xs_r4_Long : ExtSound C.P i_ref04_Long (extF (dZ g_r4_Long)) := ext_Z (c := f_ref04_Long) base_ok (fun n a H => by unfold f_ref04_Long; rfl) fun x v h => by
  cases h; exact ⟨intD_free, fun base H hb hx => tot_intD (r4_long (upP hb) hx)⟩
theorem xs_r4_Of : ExtSound C.P i_ref04_Of (extF (dQ g_r4_Long)) := ext_Q (c := f_ref04_Of) base_ok (fun n a H => by unfold f_ref04_Of; rfl) fun x v h => by
  cases h; exact ⟨intD_free, fun base H b s l hb r hL hm e => by subst e; exact tot_intD (r4_of (upP hb) r (by omega) hL)⟩
def g_r4_Neg (z : Int) : Option V := some (intD (-z))
theorem xs_r4_Neg : ExtSound C.P i_ref04_Neg (extF (dJ g_r4_Neg)) := ext_J (c := f_ref04_Neg) base_ok (fun n a H => by unfold f_ref04_Neg; rfl) fun x v h => by
  cases h; exact ⟨intD_free, fun base H a hb k l => tot_intD (r4_neg k)⟩
def g_r4_Add (x y : Int) : Option V := some (intD (x + y))
theorem xs_r4_Add : ExtSound C.P i_ref04_Add (extF (dJJ g_r4_Add)) := ext_JJ (c := f_ref04_Add) base_ok (fun n a H => by unfold f_ref04_Add; rfl) fun x y v h => by
  cases h; exact ⟨intD_free, fun base H a b hb k k' l l' => tot_intD (r4_add (upP hb) k k' (by omega) (by omega))⟩
def g_r4_Sub (x y : Int) : Option V := some (intD (x - y))
theorem xs_r4_Sub : ExtSound C.P i_ref04_Sub (extF (dJJ g_r4_Sub)) := ext_JJ (c := f_ref04_Sub) base_ok (fun n a H => by unfold f_ref04_Sub; rfl) fun x y v h => by
  cases h; exact ⟨intD_free, fun base H a b hb k k' l l' => tot_intD (r4_sub (upP hb) k k' (by omega) (by omega))⟩
def g_r4_Mul (x y : Int) : Option V := some (intD (x * y))
theorem xs_r4_Mul : ExtSound C.P i_ref04_Mul (extF (dJJ g_r4_Mul)) := ext_JJ (c := f_ref04_Mul) base_ok (fun n a H => by unfold f_ref04_Mul; rfl) fun x y v h => by
  cases h; exact ⟨intD_free, fun base H a b hb k k' l l' => tot_intD (r4_mul (upP hb) k k' (by omega))⟩
def g_r4_Cmp (x y : Int) : Option V := some (.int .i64 (x - y).sign)
theorem xs_r4_Cmp : ExtSound C.P i_ref04_Cmp (extF (dJJ g_r4_Cmp)) := ext_JJ (c := f_ref04_Cmp) base_ok (fun n a H => by unfold f_ref04_Cmp; rfl) fun x y v h => by
  cases h; exact ⟨rfl, fun base H a b hb k k' l l' => tot_plain rfl (r4_cmp (upP hb) k k' (by omega) (by omega))⟩
def g_r5_Long (z : Int) : Option V := some (ratD z 1)
theorem xs_r5_Long : ExtSound C.P i_ref05_Long (extF (dZ g_r5_Long)) := ext_Z (c := f_ref05_Long) base_ok (fun n a H => by unfold f_ref05_Long; rfl) fun x v h => by
  cases h; exact ⟨ratD_free, fun base H hb hx => tot_ratD (r5_long (upP hb) hx)⟩
def g_r5_Of (n : Int) (d : Nat) : Option V := some (ratD (if d = 0 then 0 else n) (if d = 0 then 1 else d))
theorem xs_r5_Of : ExtSound C.P i_ref05_Of (extF (dR g_r5_Of)) := ext_R (c := f_ref05_Of) base_ok (fun n a H => by unfold f_ref05_Of; rfl) fun x d v h => by
  cases h; exact ⟨ratD_free, fun base H a hb k => tot_ratD (r5_of (upP hb) k (by omega))⟩
def g_r5_Neg (n : Int) (d : Nat) : Option V := some (ratD (-n) d)
theorem xs_r5_Neg : ExtSound C.P i_ref05_Neg (extF (dK g_r5_Neg)) := ext_K (c := f_ref05_Neg) base_ok (fun n a H => by unfold f_ref05_Neg; rfl) fun x d v h => by
  cases h; exact ⟨ratD_free, fun base H a hb k l l' => tot_ratD (r5_neg (upP hb) k)⟩
def g_r5_Low (n : Int) (d : Nat) : Option V := some (ratD (lowN n d) (lowD n d))
theorem xs_r5_Low : ExtSound C.P i_ref05_Low (extF (dK g_r5_Low)) := ext_K (c := f_ref05_Low) base_ok (fun n a H => by unfold f_ref05_Low; rfl) fun x d v h => by
  cases h; exact ⟨ratD_free, fun base H a hb k l l' => tot_ratD (r5_low (upP hb) k (by omega) (by omega))⟩
def g_r5_Add (n : Int) (d : Nat) (m : Int) (e : Nat) : Option V := some (ratD (n * e + m * d) (d * e))
theorem xs_r5_Add : ExtSound C.P i_ref05_Add (extF (dKK g_r5_Add)) := ext_KK (c := f_ref05_Add) base_ok (fun n a H => by unfold f_ref05_Add; rfl) fun x d y e v h => by
  cases h; exact ⟨ratD_free, fun base H a b hb k k' l1 l2 l3 l4 => tot_ratD (r5_add (upP hb) k k' (by omega) (by omega) (by omega) (by omega))⟩
def g_r5_Sub (n : Int) (d : Nat) (m : Int) (e : Nat) : Option V := some (ratD (n * e - m * d) (d * e))
theorem xs_r5_Sub : ExtSound C.P i_ref05_Sub (extF (dKK g_r5_Sub)) := ext_KK (c := f_ref05_Sub) base_ok (fun n a H => by unfold f_ref05_Sub; rfl) fun x d y e v h => by
  cases h; exact ⟨ratD_free, fun base H a b hb k k' l1 l2 l3 l4 => tot_ratD (r5_sub (upP hb) k k' (by omega) (by omega) (by omega) (by omega))⟩
def g_r5_Mul (n : Int) (d : Nat) (m : Int) (e : Nat) : Option V := some (ratD (n * m) (d * e))
theorem xs_r5_Mul : ExtSound C.P i_ref05_Mul (extF (dKK g_r5_Mul)) := ext_KK (c := f_ref05_Mul) base_ok (fun n a H => by unfold f_ref05_Mul; rfl) fun x d y e v h => by
  cases h; exact ⟨ratD_free, fun base H a b hb k k' l1 l2 l3 l4 => tot_ratD (r5_mul (upP hb) k k' (by omega) (by omega))⟩
def g_r5_Cmp (n : Int) (d : Nat) (m : Int) (e : Nat) : Option V := some (.int .i64 (n * e - m * d).sign)
theorem xs_r5_Cmp : ExtSound C.P i_ref05_Cmp (extF (dKK g_r5_Cmp)) := ext_KK (c := f_ref05_Cmp) base_ok (fun n a H => by unfold f_ref05_Cmp; rfl) fun x d y e v h => by
  cases h; exact ⟨rfl, fun base H a b hb k k' l1 l2 l3 l4 => tot_plain rfl (r5_cmp (upP hb) k k' (by omega) (by omega) (by omega) (by omega))⟩
end Go.AM
end
section
set_option linter.unusedVariables false
set_option linter.unusedSimpArgs false
namespace Go.AM
def V.fro1 : V → Bool
  | .slice _ | .agg _ | .tuple _ => false
  | _ => true
def V.fro : V → Bool
  | .agg cs => cs.all V.fro1
  | v => v.fro1
theorem frzV_fro1 {H : Heap} {d : Nat} {v : V} (h : v.fro1 = true) : frzV H (d + 1) v = some (v, []) := by
  unfold frzV; cases v <;> simp_all [V.fro1]
theorem frzL_fro1 {H : Heap} {d : Nat} : ∀ {vs : List V}, vs.all V.fro1 = true → frzL (frzV H (d + 1)) vs = some (vs, [])
  | [], _ => rfl
  | v :: vs, h => by
    simp only [List.all_cons, Bool.and_eq_true] at h
    simp only [frzL, frzV_fro1 h.1, frzL_fro1 h.2]; rfl
theorem frzV_fro {H : Heap} {d : Nat} {v : V} (h : v.fro = true) : frzV H (d + 2) v = some (v, []) := by
  unfold V.fro at h
  split at h
  · unfold frzV; simp only [frzL_fro1 h]
  · exact frzV_fro1 h
theorem frzL_fro {H : Heap} {d : Nat} : ∀ {vs : List V}, vs.all V.fro = true → frzL (frzV H (d + 2)) vs = some (vs, [])
  | [], _ => rfl
  | v :: vs, h => by
    simp only [List.all_cons, Bool.and_eq_true] at h
    simp only [frzL, frzV_fro h.1, frzL_fro h.2]; rfl
theorem frzAs_fro {H : Heap} {vs : List V} (h : vs.all V.fro = true) : frzAs vs H = some (vs, H) := by
  unfold frzAs; rw [frzL_fro (d := 4) h]; rfl
theorem frzR_fro {H : Heap} {v : V} (h : v.fro = true) : frzR v H = some (v, H) := by
  unfold frzR; rw [frzV_fro (d := 4) h]; rfl
theorem frzR_tup {H : Heap} {vs : List V} (h : vs.all V.fro = true) : frzR (.tuple vs) H = some (.tuple vs, H) := by
  unfold frzR frzV; simp only [frzL_fro (d := 3) h]; rfl
theorem Tot.frz {v v' : V} {H H' : Heap} {Q : V → Heap → Prop} (h : frzR v H = some (v', H')) (q : Q v' H') : Tot (fun _ => frzR v H) Q := ⟨v', H', q, 0, fun _ _ => h⟩
theorem Tot.rf {v : V} {H : Heap} {Q : V → Heap → Prop} (h : v.fro = true) (q : Q v H) : Tot (fun _ => frzR v H) Q := Tot.frz (frzR_fro h) q
theorem Tot.rt {vs : List V} {H : Heap} {Q : V → Heap → Prop} (h : vs.all V.fro = true) (q : Q (.tuple vs) H) : Tot (fun _ => frzR (.tuple vs) H) Q := Tot.frz (frzR_tup h) q
theorem Tot.fnA {f g : Nat → Option R} {k : Nat → List V → Heap → Option R} {args : List V} {H : Heap} {Q : V → Heap → Prop} (hf : args.all V.fro = true) (he : ∀ n, f (n + 1) = inA true args H (k n)) (hk : ∀ n, k n args H = g n) (h : Tot g Q) : Tot f Q := by
  refine Tot.fn (fun n => ?_) h
  rw [he, ← hk]
  unfold inA
  rw [if_pos rfl, frzAs_fro hf]
theorem Tot.call {f : Nat → List V → Heap → Option R} {k : Nat → List V → Heap → Option R} (he : ∀ n args H, f (n + 1) args H = inA true args H (k n)) {args args' : List V} {H H' : Heap} {Q : V → Heap → Prop}
    (h1 : frzAs args H = some (args', H')) (h2 : args'.all V.fro = true) (h : Tot (fun n => f n args' H') Q) : Tot (fun n => f n args H) Q := by
  obtain ⟨v, G, q, n0, hn⟩ := h
  refine ⟨v, G, q, n0 + 1, fun n hle => ?_⟩
  obtain ⟨m, rfl⟩ : ∃ m, n = m + 1 := ⟨n - 1, by omega⟩
  have := hn (m + 1) (by omega)
  simp only [he] at this ⊢
  unfold inA at this ⊢
  rw [if_pos rfl, frzAs_fro h2] at this
  rw [if_pos rfl, h1]
  exact this
abbrev E0 : Heap := ⟨0, .nil⟩
theorem Tot.pu {f g : Nat → Option R} {k : Nat → List V → Option R} {args : List V} {H : Heap} {Q : V → Heap → Prop} (hf : args.all V.fro = true) (hg : V.frees args = true) (he : ∀ n, f (n + 1) = pureA args H (k n)) (hk : ∀ n, k n args = g n)
    (h : Tot g fun v _ => v.free = true ∧ Q v H) : Tot f Q := by
  obtain ⟨v, H', ⟨h1, h2⟩, n0, hn⟩ := h
  refine ⟨v, H, h2, n0 + 1, fun n hle => ?_⟩
  obtain ⟨m, rfl⟩ : ∃ m, n = m + 1 := ⟨n - 1, by omega⟩
  rw [he]
  unfold pureA
  rw [frzAs_fro hf]
  simp only [hg, if_true, hk, hn m (by omega), h1]
end Go.AM
end
section
set_option linter.unusedVariables false
set_option linter.unusedSimpArgs false
set_option linter.unusedSimpArgs false
set_option linter.unusedVariables false
namespace Go.AM
theorem low_mk {n : Int} {d : Nat} : lowN n d = (mkRat n d).num ∧ lowD n d = (mkRat n d).den := by
  unfold lowN lowD
  by_cases h : d = 0
  · subst h; simp
  · rw [if_neg h, if_neg h]
    have e : mkRat n d = Rat.normalize n d h := by rw [Rat.normalize_eq_mkRat]
    rw [e, Rat.num_normalize, Rat.den_normalize]
    refine ⟨?_, rfl⟩
    have hg : ((n.natAbs.gcd d : Nat) : Int) ∣ n := Int.ofNat_dvd_left.2 (Nat.gcd_dvd_left _ _)
    obtain ⟨k, hk⟩ := hg
    have hg0 : 0 < n.natAbs.gcd d := Nat.gcd_pos_of_pos_right _ (by omega)
    generalize hG : n.natAbs.gcd d = G at *
    have hn : n.natAbs = G * k.natAbs := by rw [hk, Int.natAbs_mul, Int.natAbs_natCast]
    rw [hn, Nat.mul_div_cancel_left _ hg0]
    conv => rhs; rw [hk, Int.mul_ediv_cancel_left _ (by omega)]
    have hlt : (n < 0) ↔ k < 0 := by
      rw [hk]
      constructor
      · intro h
        exact Int.neg_of_mul_neg_left (by rw [Int.mul_comm]; exact h) (by omega)
      · intro h
        exact Int.mul_neg_of_pos_of_neg (by omega) h
    rw [show decide (n < 0) = decide (k < 0) from by simp [hlt]]
    exact sgn_dec k
def ratQ (q : Rat) : V := ratW q.num q.den
def Bq (k : Nat) (q : Rat) : Prop := q.num.natAbs < 2 ^ k ∧ q.den < 2 ^ k
theorem Bq.mono {k m : Nat} {q : Rat} (h : Bq k q) (hm : k ≤ m) : Bq m q :=
  ⟨Nat.lt_of_lt_of_le h.1 (Nat.pow_le_pow_right (by decide) hm), Nat.lt_of_lt_of_le h.2 (Nat.pow_le_pow_right (by decide) hm)⟩
theorem mk_le (n : Int) (d : Nat) : (mkRat n d).num.natAbs ≤ n.natAbs ∧ (mkRat n d).den ≤ max d 1 := by
  rw [← low_mk.1, ← low_mk.2]; exact ⟨lowN_le, lowD_le⟩
theorem Bq.mk {k : Nat} {n : Int} {d : Nat} (h : n.natAbs < 2 ^ k) (h' : d < 2 ^ k) (hk : 0 < k) : Bq k (mkRat n d) := by
  have := mk_le n d
  have h2 : 1 < 2 ^ k := Nat.one_lt_two_pow (by omega)
  exact ⟨by omega, by omega⟩
theorem lt_mul2 {a b k m : Nat} (h : a < 2 ^ k) (h' : b < 2 ^ m) : a * b < 2 ^ (k + m) := by
  rw [Nat.pow_add]; exact Nat.mul_lt_mul'' h h'
theorem Bq.add {k m : Nat} {p q : Rat} (h : Bq k p) (h' : Bq m q) : Bq (k + m + 1) (p + q) := by
  rw [Rat.add_def']
  have a := lt_mul2 h.1 h'.2
  have b := lt_mul2 h'.1 h.2
  have c := lt_mul2 h.2 h'.2
  have e : 2 ^ (k + m + 1) = 2 ^ (k + m) + 2 ^ (k + m) := by rw [Nat.pow_succ]; omega
  have e2 : m + k = k + m := Nat.add_comm _ _
  rw [e2] at b
  refine Bq.mk ?_ (by omega) (by omega)
  have t := Int.natAbs_add_le (p.num * q.den) (q.num * p.den)
  rw [Int.natAbs_mul, Int.natAbs_mul, Int.natAbs_natCast, Int.natAbs_natCast] at t
  omega
theorem Bq.neg {k : Nat} {p : Rat} (h : Bq k p) : Bq k (-p) := by
  unfold Bq; rw [Rat.neg_num, Rat.neg_den, Int.natAbs_neg]; exact h
theorem Bq.sub {k m : Nat} {p q : Rat} (h : Bq k p) (h' : Bq m q) : Bq (k + m + 1) (p - q) := by
  rw [Rat.sub_eq_add_neg]; exact h.add h'.neg
theorem Bq.mul {k m : Nat} {p q : Rat} (h : Bq k p) (h' : Bq m q) (h0 : 0 < k) : Bq (k + m) (p * q) := by
  rw [Rat.mul_def']
  exact Bq.mk (by rw [Int.natAbs_mul]; exact lt_mul2 h.1 h'.1) (lt_mul2 h.2 h'.2) (by omega)
theorem dig_len2 {b k x : Nat} (hb : 2 ≤ b) (h : x < 2 ^ k) : (dig b x).length ≤ k :=
  dig_len_le hb (Nat.lt_of_lt_of_le h (Nat.pow_le_pow_left hb k))
theorem szW_of {x k : Nat} (h : x < 2 ^ k) (hk : k < 1000000) : szW x := by
  unfold szW; rw [digK_eq (by decide)]; exact Nat.lt_of_le_of_lt (dig_len2 (by decide) h) hk
theorem szD_of {x k : Nat} (h : x < 2 ^ k) (hk : k < 1000000) : szD x := by
  unfold szD; rw [digK_eq (by decide)]; exact Nat.lt_of_le_of_lt (dig_len2 (by decide) h) hk
theorem encN_fro1 {k : IntKind} {l : List Nat} : (encN k l).fro1 = true := by unfold encN; split <;> rfl
theorem natW_fro1 {x : Nat} : (natW x).fro1 = true := encN_fro1
theorem natD_fro1 {x : Nat} : (natD x).fro1 = true := encN_fro1
theorem natW_fro {x : Nat} : (natW x).fro = true := by unfold natW encN; split <;> rfl
theorem natD_fro {x : Nat} : (natD x).fro = true := by unfold natD encN; split <;> rfl
theorem intW_fro {z : Int} : (intW z).fro = true := by
  have h1 := fun x => natW_fro1 (x := x)
  have h2 := fun x => natD_fro1 (x := x)
  unfold intW V.fro
  simp only [List.all_cons, List.all_nil, h1, h2]
  rfl
theorem ratW_fro {n : Int} {d : Nat} : (ratW n d).fro = true := by
  have h1 := fun x => natW_fro1 (x := x)
  have h2 := fun x => natD_fro1 (x := x)
  unfold ratW V.fro
  simp only [List.all_cons, List.all_nil, h1, h2]
  rfl
theorem intD_fro {z : Int} : (intD z).fro = true := by
  have h1 := fun x => natW_fro1 (x := x)
  have h2 := fun x => natD_fro1 (x := x)
  unfold intD V.fro
  simp only [List.all_cons, List.all_nil, h1, h2]
  rfl
theorem ratD_fro {n : Int} {d : Nat} : (ratD n d).fro = true := by
  have h1 := fun x => natW_fro1 (x := x)
  have h2 := fun x => natD_fro1 (x := x)
  unfold ratD V.fro
  simp only [List.all_cons, List.all_nil, h1, h2]
  rfl
theorem encN_one {k : IntKind} {l : List Nat} : (encN k l).one = true := by unfold encN; split <;> rfl
theorem natW_one {x : Nat} : (natW x).one = true := encN_one
theorem natD_one {x : Nat} : (natD x).one = true := encN_one
theorem encN_cells {k : IntKind} {l : List Nat} : (encN k l).cells = [encN k l] := by unfold encN; split <;> rfl
theorem natW_cells {x : Nat} : (natW x).cells = [natW x] := encN_cells
theorem natD_cells {x : Nat} : (natD x).cells = [natD x] := encN_cells
theorem natD_free {x : Nat} : (natD x).free = true := encN_free
theorem ext_tot {dom : List V → Option V} {args : List V} {H : Heap} {v : V} {Q : V → Heap → Prop} (hf : args.all V.fro = true) (hd : dom args = some v) (q : Q v H) : Tot (fun _ => extF dom args H) Q := by
  refine ⟨v, H, q, 0, fun _ _ => ?_⟩
  unfold extF; rw [frzAs_fro hf]; simp only [hd]
end Go.AM
end
section
set_option linter.unusedVariables false
set_option linter.unusedSimpArgs false
namespace Go.AM
def extAdd64 (args : List V) (H : Heap) : Option R := match args with
  | [.int .u64 x, .int .u64 y, .int .u64 c] => if 0 ≤ x ∧ 0 ≤ y ∧ 0 ≤ c ∧ c ≤ 1 then some (.tuple [.int .u64 ((x + y + c) % 18446744073709551616), .int .u64 ((x + y + c) / 18446744073709551616)], H) else none
  | _ => none
def extSub64 (args : List V) (H : Heap) : Option R := match args with
  | [.int .u64 x, .int .u64 y, .int .u64 c] => if 0 ≤ x ∧ 0 ≤ y ∧ 0 ≤ c ∧ c ≤ 1 ∧ y ≤ 18446744073709551615 then some (.tuple [.int .u64 ((x - y - c) % 18446744073709551616), .int .u64 (if x < y + c then 1 else 0)], H) else none
  | _ => none
theorem extAdd64_frame : ExtFrame extAdd64 := by
  intro args H v H' X G h e
  unfold extAdd64 at h ⊢
  split at h
  · split at h
    · rename_i hc
      simp at h
      obtain ⟨rfl, rfl⟩ := h
      simp only [if_pos hc]
      exact ⟨G, rfl, e⟩
    · cases h
  · cases h
theorem extSub64_frame : ExtFrame extSub64 := by
  intro args H v H' X G h e
  unfold extSub64 at h ⊢
  split at h
  · split at h
    · rename_i hc
      simp at h
      obtain ⟨rfl, rfl⟩ := h
      simp only [if_pos hc]
      exact ⟨G, rfl, e⟩
    · cases h
  · cases h
def sub64E : Array Value → Sem Value := fun args => do
  let (x, y, b) ← Extern.MathBitsCarry.three "Sub64" args
  pure (Extern.MathBitsCarry.pair ((x + Extern.MathBitsCarry.m64 - y - b) % Extern.MathBitsCarry.m64) (if x < y + b then 1 else 0))
theorem three_args {μ : Mu} {x y c : Int} {xs : Array Value} (h : VRels μ [.int .u64 x, .int .u64 y, .int .u64 c] xs.toList) : xs = #[.int .u64 x, .int .u64 y, .int .u64 c] := by
  simp only [VRels, VRel] at h
  obtain ⟨_, _, e, rfl, _, _, rfl, rfl, _, _, rfl, rfl, rfl⟩ := h
  apply Array.ext'
  simpa using e
theorem xs_add64 {P : Program} {f : FuncId} {fn : Func} (hf : P.funcs[f]? = some fn) (hname : (fn.name == "runtime.NumGoroutine") = false) (hb : fn.body.isNone = true) (hn : Extern.findNext fn = none) (he : Extern.find fn = some add64Entry) : ExtSound P f extAdd64 := by
  intro args H v H' h B n0 w0 w μ xs hr _ hv
  unfold extAdd64 at h
  split at h
  · rename_i x y c
    split at h
    · rename_i hc
      obtain ⟨h1, h2, h3, h4⟩ := hc
      simp at h
      obtain ⟨rfl, rfl⟩ := h
      rw [three_args hv, run_callFunc_extern hf hname hb hn he, run_add64 x y c h1 h2 h3 h4]
      refine ⟨μ, Step.refl hr, ?_⟩
      simp only [VRel]
      exact ⟨_, rfl, by simp [VRels, VRel]⟩
    · cases h
  · cases h
theorem run_sub64E {P : Program} (x y b : Nat) (hb : b ≤ 1) (w : World) :
    (sub64E #[.int .u64 x, .int .u64 y, .int .u64 b]).run P w =
      .ok (.tuple #[.int .u64 (((x + 18446744073709551616 - y - b) % 18446744073709551616 : Nat) : Int), .int .u64 ((if x < y + b then 1 else 0 : Nat) : Int)]) w := by
  have : b = 0 ∨ b = 1 := by omega
  rcases this with rfl | rfl <;> rfl
theorem xs_sub64 {P : Program} {f : FuncId} {fn : Func} (hf : P.funcs[f]? = some fn) (hname : (fn.name == "runtime.NumGoroutine") = false) (hb : fn.body.isNone = true) (hn : Extern.findNext fn = none) (he : Extern.find fn = some sub64E) : ExtSound P f extSub64 := by
  intro args H v H' h B n0 w0 w μ xs hr _ hv
  unfold extSub64 at h
  split at h
  · rename_i x y c
    split at h
    · rename_i hc
      obtain ⟨h1, h2, h3, h4, h5⟩ := hc
      simp at h
      obtain ⟨rfl, rfl⟩ := h
      obtain ⟨X, rfl⟩ := Int.eq_ofNat_of_zero_le h1
      obtain ⟨Y, rfl⟩ := Int.eq_ofNat_of_zero_le h2
      obtain ⟨Z, rfl⟩ := Int.eq_ofNat_of_zero_le h3
      rw [three_args hv, run_callFunc_extern hf hname hb hn he, run_sub64E X Y Z (by omega)]
      refine ⟨μ, Step.refl hr, ?_⟩
      simp only [VRel]
      refine ⟨_, rfl, ?_⟩
      simp only [VRels, VRel]
      refine ⟨_, _, rfl, ?_, _, _, rfl, ?_, rfl⟩
      · congr 1; omega
      · congr 1
        by_cases h : X < Y + Z
        · rw [if_pos h, if_pos (by omega)]; rfl
        · rw [if_neg h, if_neg (by omega)]; rfl
    · cases h
  · cases h
end Go.AM
end
section
set_option linter.unusedVariables false
set_option linter.unusedSimpArgs false
namespace Go.AM.N
abbrev ty_bool : Nat := 4
abbrev ty_api_Int : Nat := 26
abbrev ty_api_Rat : Nat := 28
abbrev ty_api_Spot : Nat := 30
abbrev ty_ref04_Int : Nat := 38
abbrev ty_ref05_Rat : Nat := 40
abbrev ty_ref09_Spot : Nat := 45
abbrev ty_uint32 : Nat := 57
@[simp] theorem eqlA_ty_bool (a b : Bool) : eqlA P ty_bool (.bool a) (.bool b) = some (.bool (a == b)) := by kernel_rfl
def tabList : List (Nat × List (Nat × List Nat)) := [(3, []),
 (4, []),
 (5, []),
 (6, [(3, [0]), (5, [0, 3, 4])]),
 (7, [(4, [1, 2, 3, 4]), (6, [1, 2, 3, 4])]),
 (8, []),
 (9, []),
 (10, [(3, [0, 3, 4, 5, 6])]),
 (11, [(3, [0, 3, 4])]),
 (12, []),
 (14, [(5, [0, 2, 4, 5, 6, 7]), (10, [2, 4, 5, 6])]),
 (18, [(3, [0, 2, 3, 4])]),
 (22, []),
 (23, []),
 (24, []),
 (26, []),
 (27, [(5, [0, 5, 6])]),
 (28, [(5, [0, 3, 4, 5, 13, 14])]),
 (29, []),
 (33, []),
 (34, []),
 (42, []),
 (45, [(3, [0, 3, 4])]),
 (46, []),
 (47, []),
 (48, []),
 (49, []),
 (66, []),
 (68, []),
 (70, [(3, [2, 3, 7, 8, 9])]),
 (81, []),
 (83, []),
 (99, [])]
def tabs (f : FuncId) : Option (List (Nat × List Nat)) := tabList.lookup f
noncomputable def extList : List (Nat × (List V → Heap → Option R)) := [((13 : Nat), (extC (.bool true) : List V → Heap → Option R)),
 ((15 : Nat), (extF (dKK g_r5_Sub) : List V → Heap → Option R)),
 ((16 : Nat), (extF (dKK g_r5_Mul) : List V → Heap → Option R)),
 ((17 : Nat), (extF (dZ g_r5_Long) : List V → Heap → Option R)),
 ((19 : Nat), (extF (dKK g_r5_Add) : List V → Heap → Option R)),
 ((20 : Nat), (extF (dKK g_r5_Cmp) : List V → Heap → Option R)),
 ((21 : Nat), (extF (dR g_r5_Of) : List V → Heap → Option R)),
 ((25 : Nat), (extF (dK g_r5_Low) : List V → Heap → Option R)),
 ((35 : Nat), (extF (dK g_r5_Neg) : List V → Heap → Option R)),
 ((36 : Nat), (extF (dJJ g_r4_Mul) : List V → Heap → Option R)),
 ((37 : Nat), (extF (dZ g_r4_Long) : List V → Heap → Option R)),
 ((38 : Nat), (extF (dJJ g_r4_Add) : List V → Heap → Option R)),
 ((39 : Nat), (extF (dJJ g_r4_Cmp) : List V → Heap → Option R)),
 ((41 : Nat), (extF (dQ g_r4_Long) : List V → Heap → Option R)),
 ((56 : Nat), (extF (dJ g_r4_Neg) : List V → Heap → Option R)),
 ((62 : Nat), (extF (dJJ g_r4_Sub) : List V → Heap → Option R)),
 ((65 : Nat), (extF (dZ g_whole_Of) : List V → Heap → Option R)),
 ((67 : Nat), (extF (dR g_rat_norm) : List V → Heap → Option R)),
 ((69 : Nat), (extF (dRR g_rat_Mul) : List V → Heap → Option R)),
 ((76 : Nat), (extF (dD g_r3_Show) : List V → Heap → Option R)),
 ((79 : Nat), (extF (dQN g_rat_norm) : List V → Heap → Option R)),
 ((80 : Nat), (extF (dII g_whole_Add) : List V → Heap → Option R)),
 ((82 : Nat), (extF (dNN g_nat_Mul) : List V → Heap → Option R)),
 ((84 : Nat), (extF (dII g_whole_Mul) : List V → Heap → Option R)),
 ((92 : Nat), (extF (dN g_nat_Trim) : List V → Heap → Option R)),
 ((95 : Nat), (extF (dQ g_whole_Norm) : List V → Heap → Option R)),
 ((100 : Nat), (extF (dI g_whole_Neg) : List V → Heap → Option R)),
 ((133 : Nat), (extF (dII g_rat_Make) : List V → Heap → Option R)),
 ((153 : Nat), (extF (dI g_whole_Sign) : List V → Heap → Option R)),
 ((186 : Nat), (extSub64 : List V → Heap → Option R)),
 ((187 : Nat), (extAdd64 : List V → Heap → Option R))]
noncomputable def ext (f : FuncId) : Option (List V → Heap → Option R) := extList.lookup f
def faL : List Nat := []
def frL : List Nat := [6, 7, 9, 10, 11, 12, 14, 18, 22, 24, 28, 29, 33, 34, 42, 45, 46, 47, 48, 49, 66, 68, 70, 81, 83, 99]
def puL : List Nat := [3, 4, 5, 6, 7, 8, 9, 10, 11, 12, 14, 18, 22, 23, 24, 26, 27, 28, 29, 33, 34, 42, 45, 46, 47, 48, 49, 66, 68, 70, 81, 83, 99]
def pu (f : FuncId) : Bool := puL.contains f
def fa (f : FuncId) : Bool := faL.contains f
def fr (f : FuncId) : Bool := frL.contains f
noncomputable def C : Cfg := { P, tabs, ext, fa, fr, pu }
abbrev i_law42_lives : Nat := 13
abbrev i_ref05_Sub : Nat := 15
abbrev i_ref05_Mul : Nat := 16
abbrev i_ref05_Long : Nat := 17
abbrev i_ref05_Add : Nat := 19
abbrev i_ref05_Cmp : Nat := 20
abbrev i_ref05_Of : Nat := 21
abbrev i_ref05_Low : Nat := 25
abbrev i_energy_moment : Nat := 28
abbrev i_ref05_Neg : Nat := 35
abbrev i_ref04_Mul : Nat := 36
abbrev i_ref04_Long : Nat := 37
abbrev i_ref04_Add : Nat := 38
abbrev i_ref04_Cmp : Nat := 39
abbrev i_ref04_Of : Nat := 41
abbrev i_rat_Of : Nat := 46
abbrev i_rat_Add : Nat := 47
abbrev i_energy_part : Nat := 48
abbrev i_energy_seen : Nat := 49
abbrev i_ref04_Neg : Nat := 56
abbrev i_ref04_Sub : Nat := 62
abbrev i_whole_Of : Nat := 65
abbrev i_rat_add : Nat := 66
abbrev i_rat_norm : Nat := 67
abbrev i_rat_Sub : Nat := 68
abbrev i_rat_Mul : Nat := 69
abbrev i_energy_sum : Nat := 70
abbrev i_ref03_Show : Nat := 76
abbrev i_rat_lowest : Nat := 79
abbrev i_whole_Add : Nat := 80
abbrev i_rat_cross : Nat := 81
abbrev i_nat_Mul : Nat := 82
abbrev i_rat_neg : Nat := 83
abbrev i_whole_Mul : Nat := 84
abbrev i_nat_Trim : Nat := 92
abbrev i_whole_Norm : Nat := 95
abbrev i_rat_plain : Nat := 99
abbrev i_whole_Neg : Nat := 100
abbrev i_rat_Make : Nat := 133
abbrev i_whole_Sign : Nat := 153
abbrev i_math_bits_Sub64 : Nat := 186
abbrev i_math_bits_Add64 : Nat := 187
@[irreducible] noncomputable def f_law42_EnergyMoments (n : Nat) (args : List V) (H : Heap) : Option R := callA C n 3 args H
@[irreducible] noncomputable def f_law42_EnergyLeast (n : Nat) (args : List V) (H : Heap) : Option R := callA C n 4 args H
@[irreducible] noncomputable def f_law42_EnergyAbout (n : Nat) (args : List V) (H : Heap) : Option R := callA C n 5 args H
@[irreducible] noncomputable def f_law42_few (n : Nat) (args : List V) (H : Heap) : Option R := callA C n 6 args H
@[irreducible] noncomputable def f_law42_short (n : Nat) (args : List V) (H : Heap) : Option R := callA C n 7 args H
@[irreducible] noncomputable def f_ref05_Same (n : Nat) (args : List V) (H : Heap) : Option R := callA C n 8 args H
@[irreducible] noncomputable def f_energy_Moment (n : Nat) (args : List V) (H : Heap) : Option R := callA C n 9 args H
@[irreducible] noncomputable def f_ref42_Moment (n : Nat) (args : List V) (H : Heap) : Option R := callA C n 10 args H
@[irreducible] noncomputable def f_ref20_All (n : Nat) (args : List V) (H : Heap) : Option R := callA C n 11 args H
@[irreducible] noncomputable def f_ref20_Of (n : Nat) (args : List V) (H : Heap) : Option R := callA C n 12 args H
@[irreducible] noncomputable def f_law42_lives (n : Nat) (args : List V) (H : Heap) : Option R := callA C n 13 args H
@[irreducible] noncomputable def f_ref20_Centroid (n : Nat) (args : List V) (H : Heap) : Option R := callA C n 14 args H
@[irreducible] noncomputable def f_ref05_Sub (n : Nat) (args : List V) (H : Heap) : Option R := callA C n 15 args H
@[irreducible] noncomputable def f_ref05_Mul (n : Nat) (args : List V) (H : Heap) : Option R := callA C n 16 args H
@[irreducible] noncomputable def f_ref05_Long (n : Nat) (args : List V) (H : Heap) : Option R := callA C n 17 args H
@[irreducible] noncomputable def f_ref20_Area (n : Nat) (args : List V) (H : Heap) : Option R := callA C n 18 args H
@[irreducible] noncomputable def f_ref05_Add (n : Nat) (args : List V) (H : Heap) : Option R := callA C n 19 args H
@[irreducible] noncomputable def f_ref05_Cmp (n : Nat) (args : List V) (H : Heap) : Option R := callA C n 20 args H
@[irreducible] noncomputable def f_ref05_Of (n : Nat) (args : List V) (H : Heap) : Option R := callA C n 21 args H
@[irreducible] noncomputable def f_ref05_Div (n : Nat) (args : List V) (H : Heap) : Option R := callA C n 22 args H
@[irreducible] noncomputable def f_ref09_Same (n : Nat) (args : List V) (H : Heap) : Option R := callA C n 23 args H
@[irreducible] noncomputable def f_ref09_Nought (n : Nat) (args : List V) (H : Heap) : Option R := callA C n 24 args H
@[irreducible] noncomputable def f_ref05_Low (n : Nat) (args : List V) (H : Heap) : Option R := callA C n 25 args H
@[irreducible] noncomputable def f_ref04_Same (n : Nat) (args : List V) (H : Heap) : Option R := callA C n 26 args H
@[irreducible] noncomputable def f_ref03_Same (n : Nat) (args : List V) (H : Heap) : Option R := callA C n 27 args H
@[irreducible] noncomputable def f_energy_moment (n : Nat) (args : List V) (H : Heap) : Option R := callA C n 28 args H
@[irreducible] noncomputable def f_ref42_Tri (n : Nat) (args : List V) (H : Heap) : Option R := callA C n 29 args H
@[irreducible] noncomputable def f_ref20_Tri (n : Nat) (args : List V) (H : Heap) : Option R := callA C n 33 args H
@[irreducible] noncomputable def f_ref20_mean (n : Nat) (args : List V) (H : Heap) : Option R := callA C n 34 args H
@[irreducible] noncomputable def f_ref05_Neg (n : Nat) (args : List V) (H : Heap) : Option R := callA C n 35 args H
@[irreducible] noncomputable def f_ref04_Mul (n : Nat) (args : List V) (H : Heap) : Option R := callA C n 36 args H
@[irreducible] noncomputable def f_ref04_Long (n : Nat) (args : List V) (H : Heap) : Option R := callA C n 37 args H
@[irreducible] noncomputable def f_ref04_Add (n : Nat) (args : List V) (H : Heap) : Option R := callA C n 38 args H
@[irreducible] noncomputable def f_ref04_Cmp (n : Nat) (args : List V) (H : Heap) : Option R := callA C n 39 args H
@[irreducible] noncomputable def f_ref04_Of (n : Nat) (args : List V) (H : Heap) : Option R := callA C n 41 args H
@[irreducible] noncomputable def f_ref05_Over (n : Nat) (args : List V) (H : Heap) : Option R := callA C n 42 args H
@[irreducible] noncomputable def f_ref03_Nat (n : Nat) (args : List V) (H : Heap) : Option R := callA C n 45 args H
@[irreducible] noncomputable def f_rat_Of (n : Nat) (args : List V) (H : Heap) : Option R := callA C n 46 args H
@[irreducible] noncomputable def f_rat_Add (n : Nat) (args : List V) (H : Heap) : Option R := callA C n 47 args H
@[irreducible] noncomputable def f_energy_part (n : Nat) (args : List V) (H : Heap) : Option R := callA C n 48 args H
@[irreducible] noncomputable def f_energy_seen (n : Nat) (args : List V) (H : Heap) : Option R := callA C n 49 args H
@[irreducible] noncomputable def f_ref04_Neg (n : Nat) (args : List V) (H : Heap) : Option R := callA C n 56 args H
@[irreducible] noncomputable def f_ref04_Sub (n : Nat) (args : List V) (H : Heap) : Option R := callA C n 62 args H
@[irreducible] noncomputable def f_whole_Of (n : Nat) (args : List V) (H : Heap) : Option R := callA C n 65 args H
@[irreducible] noncomputable def f_rat_add (n : Nat) (args : List V) (H : Heap) : Option R := callA C n 66 args H
@[irreducible] noncomputable def f_rat_norm (n : Nat) (args : List V) (H : Heap) : Option R := callA C n 67 args H
@[irreducible] noncomputable def f_rat_Sub (n : Nat) (args : List V) (H : Heap) : Option R := callA C n 68 args H
@[irreducible] noncomputable def f_rat_Mul (n : Nat) (args : List V) (H : Heap) : Option R := callA C n 69 args H
@[irreducible] noncomputable def f_energy_sum (n : Nat) (args : List V) (H : Heap) : Option R := callA C n 70 args H
@[irreducible] noncomputable def f_ref03_Show (n : Nat) (args : List V) (H : Heap) : Option R := callA C n 76 args H
@[irreducible] noncomputable def f_rat_lowest (n : Nat) (args : List V) (H : Heap) : Option R := callA C n 79 args H
@[irreducible] noncomputable def f_whole_Add (n : Nat) (args : List V) (H : Heap) : Option R := callA C n 80 args H
@[irreducible] noncomputable def f_rat_cross (n : Nat) (args : List V) (H : Heap) : Option R := callA C n 81 args H
@[irreducible] noncomputable def f_nat_Mul (n : Nat) (args : List V) (H : Heap) : Option R := callA C n 82 args H
@[irreducible] noncomputable def f_rat_neg (n : Nat) (args : List V) (H : Heap) : Option R := callA C n 83 args H
@[irreducible] noncomputable def f_whole_Mul (n : Nat) (args : List V) (H : Heap) : Option R := callA C n 84 args H
@[irreducible] noncomputable def f_nat_Trim (n : Nat) (args : List V) (H : Heap) : Option R := callA C n 92 args H
@[irreducible] noncomputable def f_whole_Norm (n : Nat) (args : List V) (H : Heap) : Option R := callA C n 95 args H
@[irreducible] noncomputable def f_rat_plain (n : Nat) (args : List V) (H : Heap) : Option R := callA C n 99 args H
@[irreducible] noncomputable def f_whole_Neg (n : Nat) (args : List V) (H : Heap) : Option R := callA C n 100 args H
@[irreducible] noncomputable def f_rat_Make (n : Nat) (args : List V) (H : Heap) : Option R := callA C n 133 args H
@[irreducible] noncomputable def f_whole_Sign (n : Nat) (args : List V) (H : Heap) : Option R := callA C n 153 args H
@[irreducible] noncomputable def f_math_bits_Sub64 (n : Nat) (args : List V) (H : Heap) : Option R := callA C n 186 args H
@[irreducible] noncomputable def f_math_bits_Add64 (n : Nat) (args : List V) (H : Heap) : Option R := callA C n 187 args H
theorem law42_lives_ext {H : Heap} {args : List V} {Q : V → Heap → Prop} (h : Tot (fun _ => (extC (.bool true) : List V → Heap → Option R) args H) Q) : Tot (fun n => f_law42_lives n args H) Q := Tot.fn (fun n => by unfold f_law42_lives; kernel_rfl) h
theorem ref05_Sub_ext {H : Heap} {args : List V} {Q : V → Heap → Prop} (h : Tot (fun _ => (extF (dKK g_r5_Sub) : List V → Heap → Option R) args H) Q) : Tot (fun n => f_ref05_Sub n args H) Q := Tot.fn (fun n => by unfold f_ref05_Sub; kernel_rfl) h
theorem ref05_Mul_ext {H : Heap} {args : List V} {Q : V → Heap → Prop} (h : Tot (fun _ => (extF (dKK g_r5_Mul) : List V → Heap → Option R) args H) Q) : Tot (fun n => f_ref05_Mul n args H) Q := Tot.fn (fun n => by unfold f_ref05_Mul; kernel_rfl) h
theorem ref05_Long_ext {H : Heap} {args : List V} {Q : V → Heap → Prop} (h : Tot (fun _ => (extF (dZ g_r5_Long) : List V → Heap → Option R) args H) Q) : Tot (fun n => f_ref05_Long n args H) Q := Tot.fn (fun n => by unfold f_ref05_Long; kernel_rfl) h
theorem ref05_Add_ext {H : Heap} {args : List V} {Q : V → Heap → Prop} (h : Tot (fun _ => (extF (dKK g_r5_Add) : List V → Heap → Option R) args H) Q) : Tot (fun n => f_ref05_Add n args H) Q := Tot.fn (fun n => by unfold f_ref05_Add; kernel_rfl) h
theorem ref05_Cmp_ext {H : Heap} {args : List V} {Q : V → Heap → Prop} (h : Tot (fun _ => (extF (dKK g_r5_Cmp) : List V → Heap → Option R) args H) Q) : Tot (fun n => f_ref05_Cmp n args H) Q := Tot.fn (fun n => by unfold f_ref05_Cmp; kernel_rfl) h
theorem ref05_Of_ext {H : Heap} {args : List V} {Q : V → Heap → Prop} (h : Tot (fun _ => (extF (dR g_r5_Of) : List V → Heap → Option R) args H) Q) : Tot (fun n => f_ref05_Of n args H) Q := Tot.fn (fun n => by unfold f_ref05_Of; kernel_rfl) h
theorem ref05_Low_ext {H : Heap} {args : List V} {Q : V → Heap → Prop} (h : Tot (fun _ => (extF (dK g_r5_Low) : List V → Heap → Option R) args H) Q) : Tot (fun n => f_ref05_Low n args H) Q := Tot.fn (fun n => by unfold f_ref05_Low; kernel_rfl) h
theorem ref05_Neg_ext {H : Heap} {args : List V} {Q : V → Heap → Prop} (h : Tot (fun _ => (extF (dK g_r5_Neg) : List V → Heap → Option R) args H) Q) : Tot (fun n => f_ref05_Neg n args H) Q := Tot.fn (fun n => by unfold f_ref05_Neg; kernel_rfl) h
theorem ref04_Mul_ext {H : Heap} {args : List V} {Q : V → Heap → Prop} (h : Tot (fun _ => (extF (dJJ g_r4_Mul) : List V → Heap → Option R) args H) Q) : Tot (fun n => f_ref04_Mul n args H) Q := Tot.fn (fun n => by unfold f_ref04_Mul; kernel_rfl) h
theorem ref04_Long_ext {H : Heap} {args : List V} {Q : V → Heap → Prop} (h : Tot (fun _ => (extF (dZ g_r4_Long) : List V → Heap → Option R) args H) Q) : Tot (fun n => f_ref04_Long n args H) Q := Tot.fn (fun n => by unfold f_ref04_Long; kernel_rfl) h
theorem ref04_Add_ext {H : Heap} {args : List V} {Q : V → Heap → Prop} (h : Tot (fun _ => (extF (dJJ g_r4_Add) : List V → Heap → Option R) args H) Q) : Tot (fun n => f_ref04_Add n args H) Q := Tot.fn (fun n => by unfold f_ref04_Add; kernel_rfl) h
theorem ref04_Cmp_ext {H : Heap} {args : List V} {Q : V → Heap → Prop} (h : Tot (fun _ => (extF (dJJ g_r4_Cmp) : List V → Heap → Option R) args H) Q) : Tot (fun n => f_ref04_Cmp n args H) Q := Tot.fn (fun n => by unfold f_ref04_Cmp; kernel_rfl) h
theorem ref04_Of_ext {H : Heap} {args : List V} {Q : V → Heap → Prop} (h : Tot (fun _ => (extF (dQ g_r4_Long) : List V → Heap → Option R) args H) Q) : Tot (fun n => f_ref04_Of n args H) Q := Tot.fn (fun n => by unfold f_ref04_Of; kernel_rfl) h
theorem ref04_Neg_ext {H : Heap} {args : List V} {Q : V → Heap → Prop} (h : Tot (fun _ => (extF (dJ g_r4_Neg) : List V → Heap → Option R) args H) Q) : Tot (fun n => f_ref04_Neg n args H) Q := Tot.fn (fun n => by unfold f_ref04_Neg; kernel_rfl) h
theorem ref04_Sub_ext {H : Heap} {args : List V} {Q : V → Heap → Prop} (h : Tot (fun _ => (extF (dJJ g_r4_Sub) : List V → Heap → Option R) args H) Q) : Tot (fun n => f_ref04_Sub n args H) Q := Tot.fn (fun n => by unfold f_ref04_Sub; kernel_rfl) h
theorem whole_Of_ext {H : Heap} {args : List V} {Q : V → Heap → Prop} (h : Tot (fun _ => (extF (dZ g_whole_Of) : List V → Heap → Option R) args H) Q) : Tot (fun n => f_whole_Of n args H) Q := Tot.fn (fun n => by unfold f_whole_Of; kernel_rfl) h
theorem rat_norm_ext {H : Heap} {args : List V} {Q : V → Heap → Prop} (h : Tot (fun _ => (extF (dR g_rat_norm) : List V → Heap → Option R) args H) Q) : Tot (fun n => f_rat_norm n args H) Q := Tot.fn (fun n => by unfold f_rat_norm; kernel_rfl) h
theorem rat_Mul_ext {H : Heap} {args : List V} {Q : V → Heap → Prop} (h : Tot (fun _ => (extF (dRR g_rat_Mul) : List V → Heap → Option R) args H) Q) : Tot (fun n => f_rat_Mul n args H) Q := Tot.fn (fun n => by unfold f_rat_Mul; kernel_rfl) h
theorem ref03_Show_ext {H : Heap} {args : List V} {Q : V → Heap → Prop} (h : Tot (fun _ => (extF (dD g_r3_Show) : List V → Heap → Option R) args H) Q) : Tot (fun n => f_ref03_Show n args H) Q := Tot.fn (fun n => by unfold f_ref03_Show; kernel_rfl) h
theorem rat_lowest_ext {H : Heap} {args : List V} {Q : V → Heap → Prop} (h : Tot (fun _ => (extF (dQN g_rat_norm) : List V → Heap → Option R) args H) Q) : Tot (fun n => f_rat_lowest n args H) Q := Tot.fn (fun n => by unfold f_rat_lowest; kernel_rfl) h
theorem whole_Add_ext {H : Heap} {args : List V} {Q : V → Heap → Prop} (h : Tot (fun _ => (extF (dII g_whole_Add) : List V → Heap → Option R) args H) Q) : Tot (fun n => f_whole_Add n args H) Q := Tot.fn (fun n => by unfold f_whole_Add; kernel_rfl) h
theorem nat_Mul_ext {H : Heap} {args : List V} {Q : V → Heap → Prop} (h : Tot (fun _ => (extF (dNN g_nat_Mul) : List V → Heap → Option R) args H) Q) : Tot (fun n => f_nat_Mul n args H) Q := Tot.fn (fun n => by unfold f_nat_Mul; kernel_rfl) h
theorem whole_Mul_ext {H : Heap} {args : List V} {Q : V → Heap → Prop} (h : Tot (fun _ => (extF (dII g_whole_Mul) : List V → Heap → Option R) args H) Q) : Tot (fun n => f_whole_Mul n args H) Q := Tot.fn (fun n => by unfold f_whole_Mul; kernel_rfl) h
theorem nat_Trim_ext {H : Heap} {args : List V} {Q : V → Heap → Prop} (h : Tot (fun _ => (extF (dN g_nat_Trim) : List V → Heap → Option R) args H) Q) : Tot (fun n => f_nat_Trim n args H) Q := Tot.fn (fun n => by unfold f_nat_Trim; kernel_rfl) h
theorem whole_Norm_ext {H : Heap} {args : List V} {Q : V → Heap → Prop} (h : Tot (fun _ => (extF (dQ g_whole_Norm) : List V → Heap → Option R) args H) Q) : Tot (fun n => f_whole_Norm n args H) Q := Tot.fn (fun n => by unfold f_whole_Norm; kernel_rfl) h
theorem whole_Neg_ext {H : Heap} {args : List V} {Q : V → Heap → Prop} (h : Tot (fun _ => (extF (dI g_whole_Neg) : List V → Heap → Option R) args H) Q) : Tot (fun n => f_whole_Neg n args H) Q := Tot.fn (fun n => by unfold f_whole_Neg; kernel_rfl) h
theorem rat_Make_ext {H : Heap} {args : List V} {Q : V → Heap → Prop} (h : Tot (fun _ => (extF (dII g_rat_Make) : List V → Heap → Option R) args H) Q) : Tot (fun n => f_rat_Make n args H) Q := Tot.fn (fun n => by unfold f_rat_Make; kernel_rfl) h
theorem whole_Sign_ext {H : Heap} {args : List V} {Q : V → Heap → Prop} (h : Tot (fun _ => (extF (dI g_whole_Sign) : List V → Heap → Option R) args H) Q) : Tot (fun n => f_whole_Sign n args H) Q := Tot.fn (fun n => by unfold f_whole_Sign; kernel_rfl) h
theorem math_bits_Sub64_ext {H : Heap} {args : List V} {Q : V → Heap → Prop} (h : Tot (fun _ => (extSub64 : List V → Heap → Option R) args H) Q) : Tot (fun n => f_math_bits_Sub64 n args H) Q := Tot.fn (fun n => by unfold f_math_bits_Sub64; kernel_rfl) h
theorem math_bits_Add64_ext {H : Heap} {args : List V} {Q : V → Heap → Prop} (h : Tot (fun _ => (extAdd64 : List V → Heap → Option R) args H) Q) : Tot (fun n => f_math_bits_Add64 n args H) Q := Tot.fn (fun n => by unfold f_math_bits_Add64; kernel_rfl) h
end Go.AM.N
end
section
set_option linter.unusedVariables false
set_option linter.unusedSimpArgs false
set_option maxRecDepth 1000000
set_option linter.unusedVariables false
namespace Go.AM.N
@[simp] noncomputable def law42_EnergyMoments_b (bd : B2) (n : Nat) (v0 v1 : V) (H : Heap) : Option R :=
 (bd (boxA ty_api_Spot v1) fun o1 =>
 (bd (f_law42_few n [v0] (H.push o1)) fun r2 =>
 (bd (faA 0 (.ptr (some (H.n, 0)))) fun t7_3 =>
 (bd (ldN 3 t7_3 (r2.2.more 0)) fun t8_4 =>
 (bd (f_law42_short n [t8_4] (r2.2.more 0)) fun r5 =>
 (bd (faA 3 (.ptr (some (H.n, 0)))) fun t10_6 =>
 (bd (ldN 3 t10_6 r5.2) fun t11_7 =>
 (bd (chk (ldN 3 t10_6 (r2.2.more 0)) t11_7) fun _ =>
 (bd (f_law42_short n [t11_7] r5.2) fun r8 =>
 (bd (flA [(0, 3), (3, 3)] [(.bool false), (.slice ⟨none, 0, 0, false⟩), (.slice ⟨none, 0, 0, false⟩), (.bool false), (.slice ⟨none, 0, 0, false⟩), (.slice ⟨none, 0, 0, false⟩)] [(0, r5.1), (1, r8.1)]) fun t13_9 =>
 (bd (stA 6 (.ptr (some (H.n, 0))) t13_9 r8.2) fun H10 =>
 (bd (ldN 6 (.ptr (some (H.n, 0))) (H10.more 0)) fun t15_11 =>
 (bd (f_energy_Moment n [r2.1, t15_11] (H10.more 0)) fun r12 =>
 (bd (f_ref20_All n [r2.1] r12.2) fun r13 =>
 (bd (ldN 6 (.ptr (some (H.n, 0))) r13.2) fun t19_14 =>
 (bd (chk (ldN 6 (.ptr (some (H.n, 0))) r12.2) t19_14) fun _ =>
 (bd (chk (ldN 6 (.ptr (some (H.n, 0))) (H10.more 0)) t19_14) fun _ =>
 (bd (f_ref20_Of n [t19_14] r13.2) fun r15 =>
 (bd (f_ref42_Moment n [r13.1, r15.1] r15.2) fun r16 =>
 (bd (f_ref05_Same n [r12.1, r16.1] r16.2) fun r17 =>
 (bd (asB r17.1) fun b18 =>
 if b18 = true then
 (bd (f_law42_lives n [] r17.2) fun r19 =>
 (some (r19.1, r19.2)))
 else
 (some ((.bool false), r17.2)))))))))))))))))))))))
theorem law42_EnergyMoments_in (n : Nat) (a : List V) (H : Heap) : f_law42_EnergyMoments (n + 1) a H = pureA a H (fun a => E C n 3 [] (argsA 0 a) ⟨0, .nil⟩ (kR C 3)) := by unfold f_law42_EnergyMoments; kernel_rfl
theorem law42_EnergyMoments_tot {v0 v1 : V} {H : Heap} {Q : V → Heap → Prop} (hf : List.all [v0, v1] V.fro = true) (hg : V.frees [v0, v1] = true) (h : Tot (fun n => law42_EnergyMoments_b @bnd n v0 v1 E0) fun v _ => v.free = true ∧ Q v H) : Tot (fun n => f_law42_EnergyMoments n [v0, v1] H) Q := Tot.pu (k := fun n a => E C n 3 [] (argsA 0 a) ⟨0, .nil⟩ (kR C 3)) hf hg (fun n => law42_EnergyMoments_in n _ _) (fun n => bd_bnd (fun bd => law42_EnergyMoments_b bd n v0 v1 E0) (by kernel_rfl)) h
@[simp] noncomputable def law42_EnergyLeast_b (bd : B2) (n : Nat) (v0 v1 : V) (H : Heap) : Option R :=
 (bd (boxA ty_api_Spot v1) fun o1 =>
 (bd (f_law42_few n [v0] (H.push o1)) fun r2 =>
 (bd (faA 0 (.ptr (some (H.n, 0)))) fun t13_3 =>
 (bd (ldN 3 t13_3 (r2.2.more 0)) fun t14_4 =>
 (bd (f_law42_short n [t14_4] (r2.2.more 0)) fun r5 =>
 (bd (faA 3 (.ptr (some (H.n, 0)))) fun t16_6 =>
 (bd (ldN 3 t16_6 r5.2) fun t17_7 =>
 (bd (chk (ldN 3 t16_6 (r2.2.more 0)) t17_7) fun _ =>
 (bd (f_law42_short n [t17_7] r5.2) fun r8 =>
 (bd (flA [(0, 3), (3, 3)] [(.bool false), (.slice ⟨none, 0, 0, false⟩), (.slice ⟨none, 0, 0, false⟩), (.bool false), (.slice ⟨none, 0, 0, false⟩), (.slice ⟨none, 0, 0, false⟩)] [(0, r5.1), (1, r8.1)]) fun t19_9 =>
 (bd (stA 6 (.ptr (some (H.n, 0))) t19_9 r8.2) fun H10 =>
 (bd (f_ref20_All n [r2.1] H10) fun r11 =>
 (bd (f_ref20_Centroid n [r11.1] r11.2) fun r12 =>
 (bd (extA r12.1 0) fun t25_13 =>
 (bd (extA r12.1 1) fun t26_14 =>
 (bd (stA 8 (.ptr (some (r12.2.n, 0))) t25_13 (r12.2.push (.cells [(.int .i64 0), (.slice ⟨none, 0, 0, false⟩), (.int .i64 0), (.slice ⟨none, 0, 0, false⟩), (.int .i64 0), (.slice ⟨none, 0, 0, false⟩), (.int .i64 0), (.slice ⟨none, 0, 0, false⟩)] ty_ref09_Spot false))) fun H15 =>
 (bd (unA .not t26_14) fun t28_16 =>
 (bd (asB t28_16) fun b17 =>
 if b17 = true then
 (bd (f_law42_lives n [] H15) fun r18 =>
 (some (r18.1, r18.2)))
 else
 (bd (ldN 6 (.ptr (some (H.n, 0))) (H15.more 2)) fun t30_19 =>
 (bd (f_ref20_Of n [t30_19] (H15.more 2)) fun r20 =>
 (bd (fdN 4 0 r20.1) fun t32_21 =>
 (bd (faA 0 (.ptr (some (r12.2.n, 0)))) fun t33_22 =>
 (bd (ldN 4 t33_22 r20.2) fun t34_23 =>
 (bd (chk (ldN 4 t33_22 (H15.more 2)) t34_23) fun _ =>
 (bd (f_ref05_Sub n [t32_21, t34_23] r20.2) fun r24 =>
 (bd (ldN 6 (.ptr (some (H.n, 0))) r24.2) fun t36_25 =>
 (bd (chk (ldN 6 (.ptr (some (H.n, 0))) r20.2) t36_25) fun _ =>
 (bd (chk (ldN 6 (.ptr (some (H.n, 0))) (H15.more 2)) t36_25) fun _ =>
 (bd (f_ref20_Of n [t36_25] r24.2) fun r26 =>
 (bd (fdN 4 4 r26.1) fun t38_27 =>
 (bd (faA 4 (.ptr (some (r12.2.n, 0)))) fun t39_28 =>
 (bd (ldN 4 t39_28 r26.2) fun t40_29 =>
 (bd (chk (ldN 4 t39_28 r24.2) t40_29) fun _ =>
 (bd (chk (ldN 4 t39_28 r20.2) t40_29) fun _ =>
 (bd (chk (ldN 4 t39_28 (H15.more 2)) t40_29) fun _ =>
 (bd (f_ref05_Sub n [t38_27, t40_29] r26.2) fun r30 =>
 (bd (stA 4 (.ptr (some ((H15.n + 0), 0))) r24.1 ((r30.2.set (H15.n + 0) (.cells [(.int .i64 0), (.slice ⟨none, 0, 0, false⟩), (.int .i64 0), (.slice ⟨none, 0, 0, false⟩)] ty_ref05_Rat false)).set (H15.n + 1) (.cells [(.int .i64 0), (.slice ⟨none, 0, 0, false⟩), (.int .i64 0), (.slice ⟨none, 0, 0, false⟩)] ty_ref05_Rat false))) fun H31 =>
 (bd (stA 4 (.ptr (some ((H15.n + 1), 0))) r30.1 H31) fun H32 =>
 (bd (f_ref05_Long n [(.int .i64 6)] (H32.more 1)) fun r33 =>
 (bd (f_ref20_Area n [r11.1] r33.2) fun r34 =>
 (bd (f_ref05_Mul n [r33.1, r34.1] r34.2) fun r35 =>
 (bd (ldN 4 (.ptr (some ((H15.n + 0), 0))) r35.2) fun t46_36 =>
 (bd (chk (ldN 4 (.ptr (some ((H15.n + 0), 0))) r34.2) t46_36) fun _ =>
 (bd (chk (ldN 4 (.ptr (some ((H15.n + 0), 0))) r33.2) t46_36) fun _ =>
 (bd (chk (ldN 4 (.ptr (some ((H15.n + 0), 0))) (H32.more 1)) t46_36) fun _ =>
 (bd (ldN 4 (.ptr (some ((H15.n + 0), 0))) r35.2) fun t47_37 =>
 (bd (chk (ldN 4 (.ptr (some ((H15.n + 0), 0))) r34.2) t47_37) fun _ =>
 (bd (chk (ldN 4 (.ptr (some ((H15.n + 0), 0))) r33.2) t47_37) fun _ =>
 (bd (chk (ldN 4 (.ptr (some ((H15.n + 0), 0))) (H32.more 1)) t47_37) fun _ =>
 (bd (f_ref05_Mul n [t46_36, t47_37] r35.2) fun r38 =>
 (bd (ldN 4 (.ptr (some ((H15.n + 1), 0))) r38.2) fun t49_39 =>
 (bd (chk (ldN 4 (.ptr (some ((H15.n + 1), 0))) r35.2) t49_39) fun _ =>
 (bd (chk (ldN 4 (.ptr (some ((H15.n + 1), 0))) r34.2) t49_39) fun _ =>
 (bd (chk (ldN 4 (.ptr (some ((H15.n + 1), 0))) r33.2) t49_39) fun _ =>
 (bd (chk (ldN 4 (.ptr (some ((H15.n + 1), 0))) (H32.more 1)) t49_39) fun _ =>
 (bd (ldN 4 (.ptr (some ((H15.n + 1), 0))) r38.2) fun t50_40 =>
 (bd (chk (ldN 4 (.ptr (some ((H15.n + 1), 0))) r35.2) t50_40) fun _ =>
 (bd (chk (ldN 4 (.ptr (some ((H15.n + 1), 0))) r34.2) t50_40) fun _ =>
 (bd (chk (ldN 4 (.ptr (some ((H15.n + 1), 0))) r33.2) t50_40) fun _ =>
 (bd (chk (ldN 4 (.ptr (some ((H15.n + 1), 0))) (H32.more 1)) t50_40) fun _ =>
 (bd (f_ref05_Mul n [t49_39, t50_40] r38.2) fun r41 =>
 (bd (f_ref05_Add n [r38.1, r41.1] r41.2) fun r42 =>
 (bd (f_ref05_Mul n [r35.1, r42.1] r42.2) fun r43 =>
 (bd (stA 4 (.ptr (some ((H32.n + 0), 0))) r43.1 (r43.2.set (H32.n + 0) (.cells [(.int .i64 0), (.slice ⟨none, 0, 0, false⟩), (.int .i64 0), (.slice ⟨none, 0, 0, false⟩)] ty_ref05_Rat false))) fun H44 =>
 (bd (ldN 6 (.ptr (some (H.n, 0))) (H44.more 0)) fun t55_45 =>
 (bd (f_energy_Moment n [r2.1, t55_45] (H44.more 0)) fun r46 =>
 (bd (f_ref05_Of n [r46.1] r46.2) fun r47 =>
 (bd (ldN 8 (.ptr (some (r12.2.n, 0))) r47.2) fun t59_48 =>
 (bd (chk (ldN 8 (.ptr (some (r12.2.n, 0))) r46.2) t59_48) fun _ =>
 (bd (chk (ldN 8 (.ptr (some (r12.2.n, 0))) (H44.more 0)) t59_48) fun _ =>
 (bd (f_ref42_Moment n [r11.1, t59_48] r47.2) fun r49 =>
 (bd (ldN 4 (.ptr (some ((H32.n + 0), 0))) r49.2) fun t61_50 =>
 (bd (chk (ldN 4 (.ptr (some ((H32.n + 0), 0))) r47.2) t61_50) fun _ =>
 (bd (chk (ldN 4 (.ptr (some ((H32.n + 0), 0))) r46.2) t61_50) fun _ =>
 (bd (chk (ldN 4 (.ptr (some ((H32.n + 0), 0))) (H44.more 0)) t61_50) fun _ =>
 (bd (f_ref05_Add n [r49.1, t61_50] r49.2) fun r51 =>
 (bd (f_ref05_Cmp n [r47.1, r51.1] r51.2) fun r52 =>
 (bd (arA .eql r52.1 (.int .i64 0)) fun t64_53 =>
 (bd (asB t64_53) fun b54 =>
 if b54 = true then
 (bd (f_law42_lives n [] r52.2) fun r55 =>
 (some (r55.1, r55.2)))
 else
 (some ((.bool false), r52.2)))))))))))))))))))))))))))))))))))))))))))))))))))))))))))))))))))))))))))))))))
theorem law42_EnergyLeast_in (n : Nat) (a : List V) (H : Heap) : f_law42_EnergyLeast (n + 1) a H = pureA a H (fun a => E C n 4 [] (argsA 0 a) ⟨0, .nil⟩ (kR C 4)) := by unfold f_law42_EnergyLeast; kernel_rfl
theorem law42_EnergyLeast_tot {v0 v1 : V} {H : Heap} {Q : V → Heap → Prop} (hf : List.all [v0, v1] V.fro = true) (hg : V.frees [v0, v1] = true) (h : Tot (fun n => law42_EnergyLeast_b @bnd n v0 v1 E0) fun v _ => v.free = true ∧ Q v H) : Tot (fun n => f_law42_EnergyLeast n [v0, v1] H) Q := Tot.pu (k := fun n a => E C n 4 [] (argsA 0 a) ⟨0, .nil⟩ (kR C 4)) hf hg (fun n => law42_EnergyLeast_in n _ _) (fun n => bd_bnd (fun bd => law42_EnergyLeast_b bd n v0 v1 E0) (by kernel_rfl)) h
@[simp] noncomputable def law42_EnergyAbout_b (bd : B2) (n : Nat) (v0 v1 : V) (H : Heap) : Option R :=
 (bd (boxA ty_api_Spot v1) fun o1 =>
 (bd (faA 0 (.ptr (some (H.n, 0)))) fun t13_2 =>
 (bd (ldN 3 t13_2 ((H.push o1).more 0)) fun t14_3 =>
 (bd (f_law42_short n [t14_3] ((H.push o1).more 0)) fun r4 =>
 (bd (faA 3 (.ptr (some (H.n, 0)))) fun t16_5 =>
 (bd (ldN 3 t16_5 r4.2) fun t17_6 =>
 (bd (chk (ldN 3 t16_5 ((H.push o1).more 0)) t17_6) fun _ =>
 (bd (f_law42_short n [t17_6] r4.2) fun r7 =>
 (bd (flA [(0, 3), (3, 3)] [(.bool false), (.slice ⟨none, 0, 0, false⟩), (.slice ⟨none, 0, 0, false⟩), (.bool false), (.slice ⟨none, 0, 0, false⟩), (.slice ⟨none, 0, 0, false⟩)] [(0, r4.1), (1, r7.1)]) fun t19_8 =>
 (bd (stA 6 (.ptr (some (H.n, 0))) t19_8 r7.2) fun H9 =>
 (bd (cvInt .u32 v0) fun t21_10 =>
 (bd (arA .add t21_10 (.int .u32 1)) fun t22_11 =>
 (bd (bSl 1 ty_uint32 [(.int .u32 0)] 1 [(0, t22_11)]) fun o12 =>
 (bd (flA [(0, 1), (1, 1)] [(.bool false), (.slice ⟨none, 0, 0, false⟩)] [(1, (.slice ⟨some (H9.n, 0), 1, 1, false⟩))]) fun t24_13 =>
 (bd (bSl 1 ty_uint32 [(.int .u32 0)] 1 [(0, (.int .u32 1))]) fun o14 =>
 (bd (flA [(0, 2), (2, 1)] [(.bool false), (.slice ⟨none, 0, 0, false⟩), (.slice ⟨none, 0, 0, false⟩)] [(0, t24_13), (1, (.slice ⟨some ((H9.push o12).n, 0), 1, 1, false⟩))]) fun t26_15 =>
 (bd (bSl 1 ty_uint32 [(.int .u32 0)] 1 [(0, (.int .u32 1))]) fun o16 =>
 (bd (flA [(0, 2), (2, 1)] [(.bool false), (.slice ⟨none, 0, 0, false⟩), (.slice ⟨none, 0, 0, false⟩)] [(1, (.slice ⟨some (((H9.push o12).push o14).n, 0), 1, 1, false⟩))]) fun t28_17 =>
 (bd (stA 3 (.ptr (some ((((H9.push o12).push o14).push o16).n, 0))) t26_15 (((((H9.push o12).push o14).push o16).push (.cells [(.bool false), (.slice ⟨none, 0, 0, false⟩), (.slice ⟨none, 0, 0, false⟩)] ty_api_Rat false)).push (.cells [(.bool false), (.slice ⟨none, 0, 0, false⟩), (.slice ⟨none, 0, 0, false⟩)] ty_api_Rat false))) fun H18 =>
 (bd (stA 3 (.ptr (some (((((H9.push o12).push o14).push o16).push (.cells [(.bool false), (.slice ⟨none, 0, 0, false⟩), (.slice ⟨none, 0, 0, false⟩)] ty_api_Rat false)).n, 0))) t28_17 H18) fun H19 =>
 (bd (ldN 3 (.ptr (some (((((H9.push o12).push o14).push o16).push (.cells [(.bool false), (.slice ⟨none, 0, 0, false⟩), (.slice ⟨none, 0, 0, false⟩)] ty_api_Rat false)).n, 0))) H19) fun t29_20 =>
 (bd (ldN 3 (.ptr (some (((((H9.push o12).push o14).push o16).push (.cells [(.bool false), (.slice ⟨none, 0, 0, false⟩), (.slice ⟨none, 0, 0, false⟩)] ty_api_Rat false)).n, 0))) H19) fun t30_21 =>
 (bd (flA [(0, 3), (3, 3)] [(.bool false), (.slice ⟨none, 0, 0, false⟩), (.slice ⟨none, 0, 0, false⟩), (.bool false), (.slice ⟨none, 0, 0, false⟩), (.slice ⟨none, 0, 0, false⟩)] [(0, t29_20), (1, t30_21)]) fun t31_22 =>
 (bd (ldN 3 (.ptr (some ((((H9.push o12).push o14).push o16).n, 0))) H19) fun t32_23 =>
 (bd (ldN 3 (.ptr (some (((((H9.push o12).push o14).push o16).push (.cells [(.bool false), (.slice ⟨none, 0, 0, false⟩), (.slice ⟨none, 0, 0, false⟩)] ty_api_Rat false)).n, 0))) H19) fun t33_24 =>
 (bd (flA [(0, 3), (3, 3)] [(.bool false), (.slice ⟨none, 0, 0, false⟩), (.slice ⟨none, 0, 0, false⟩), (.bool false), (.slice ⟨none, 0, 0, false⟩), (.slice ⟨none, 0, 0, false⟩)] [(0, t32_23), (1, t33_24)]) fun t34_25 =>
 (bd (ldN 3 (.ptr (some ((((H9.push o12).push o14).push o16).n, 0))) H19) fun t35_26 =>
 (bd (ldN 3 (.ptr (some ((((H9.push o12).push o14).push o16).n, 0))) H19) fun t36_27 =>
 (bd (flA [(0, 3), (3, 3)] [(.bool false), (.slice ⟨none, 0, 0, false⟩), (.slice ⟨none, 0, 0, false⟩), (.bool false), (.slice ⟨none, 0, 0, false⟩), (.slice ⟨none, 0, 0, false⟩)] [(0, t35_26), (1, t36_27)]) fun t37_28 =>
 (bd (ldN 3 (.ptr (some (((((H9.push o12).push o14).push o16).push (.cells [(.bool false), (.slice ⟨none, 0, 0, false⟩), (.slice ⟨none, 0, 0, false⟩)] ty_api_Rat false)).n, 0))) H19) fun t38_29 =>
 (bd (ldN 3 (.ptr (some ((((H9.push o12).push o14).push o16).n, 0))) H19) fun t39_30 =>
 (bd (flA [(0, 3), (3, 3)] [(.bool false), (.slice ⟨none, 0, 0, false⟩), (.slice ⟨none, 0, 0, false⟩), (.bool false), (.slice ⟨none, 0, 0, false⟩), (.slice ⟨none, 0, 0, false⟩)] [(0, t38_29), (1, t39_30)]) fun t40_31 =>
 (bd (bSl 6 ty_api_Spot [(.bool false), (.slice ⟨none, 0, 0, false⟩), (.slice ⟨none, 0, 0, false⟩), (.bool false), (.slice ⟨none, 0, 0, false⟩), (.slice ⟨none, 0, 0, false⟩)] 4 [(0, t31_22), (1, t34_25), (2, t37_28), (3, t40_31)]) fun o32 =>
 (bd (cvInt .i64 v0) fun t43_33 =>
 (bd (arA .add t43_33 (.int .i64 1)) fun t44_34 =>
 (bd (f_ref05_Long n [t44_34] (H19.push o32)) fun r35 =>
 (bd (stA 4 (.ptr (some (r35.2.n, 0))) r35.1 (r35.2.push (.cells [(.int .i64 0), (.slice ⟨none, 0, 0, false⟩), (.int .i64 0), (.slice ⟨none, 0, 0, false⟩)] ty_ref05_Rat false))) fun H36 =>
 (bd (f_ref05_Long n [(.int .i64 2)] (H36.more 1)) fun r37 =>
 (bd (ldN 4 (.ptr (some (r35.2.n, 0))) r37.2) fun t46_38 =>
 (bd (chk (ldN 4 (.ptr (some (r35.2.n, 0))) (H36.more 1)) t46_38) fun _ =>
 (bd (f_ref05_Div n [t46_38, r37.1] r37.2) fun r39 =>
 (bd (stA 4 (.ptr (some ((H36.n + 0), 0))) r39.1 (r39.2.set (H36.n + 0) (.cells [(.int .i64 0), (.slice ⟨none, 0, 0, false⟩), (.int .i64 0), (.slice ⟨none, 0, 0, false⟩)] ty_ref05_Rat false))) fun H40 =>
 (bd (faA 0 (.ptr (some (H.n, 0)))) fun t49_41 =>
 (bd (ldN 3 t49_41 (H40.more 2)) fun t50_42 =>
 (bd (f_ref05_Of n [t50_42] (H40.more 2)) fun r43 =>
 (bd (ldN 4 (.ptr (some ((H36.n + 0), 0))) r43.2) fun t52_44 =>
 (bd (chk (ldN 4 (.ptr (some ((H36.n + 0), 0))) (H40.more 2)) t52_44) fun _ =>
 (bd (f_ref05_Sub n [r43.1, t52_44] r43.2) fun r45 =>
 (bd (faA 3 (.ptr (some (H.n, 0)))) fun t54_46 =>
 (bd (ldN 3 t54_46 r45.2) fun t55_47 =>
 (bd (chk (ldN 3 t54_46 r43.2) t55_47) fun _ =>
 (bd (chk (ldN 3 t54_46 (H40.more 2)) t55_47) fun _ =>
 (bd (f_ref05_Of n [t55_47] r45.2) fun r48 =>
 (bd (ldN 4 (.ptr (some ((H36.n + 0), 0))) r48.2) fun t57_49 =>
 (bd (chk (ldN 4 (.ptr (some ((H36.n + 0), 0))) r45.2) t57_49) fun _ =>
 (bd (chk (ldN 4 (.ptr (some ((H36.n + 0), 0))) r43.2) t57_49) fun _ =>
 (bd (chk (ldN 4 (.ptr (some ((H36.n + 0), 0))) (H40.more 2)) t57_49) fun _ =>
 (bd (f_ref05_Sub n [r48.1, t57_49] r48.2) fun r50 =>
 (bd (stA 4 (.ptr (some ((H40.n + 0), 0))) r45.1 ((r50.2.set (H40.n + 0) (.cells [(.int .i64 0), (.slice ⟨none, 0, 0, false⟩), (.int .i64 0), (.slice ⟨none, 0, 0, false⟩)] ty_ref05_Rat false)).set (H40.n + 1) (.cells [(.int .i64 0), (.slice ⟨none, 0, 0, false⟩), (.int .i64 0), (.slice ⟨none, 0, 0, false⟩)] ty_ref05_Rat false))) fun H51 =>
 (bd (stA 4 (.ptr (some ((H40.n + 1), 0))) r50.1 H51) fun H52 =>
 (bd (f_ref05_Long n [(.int .i64 2)] (H52.more 1)) fun r53 =>
 (bd (ldN 4 (.ptr (some (r35.2.n, 0))) r53.2) fun t60_54 =>
 (bd (chk (ldN 4 (.ptr (some (r35.2.n, 0))) (H52.more 1)) t60_54) fun _ =>
 (bd (ldN 4 (.ptr (some (r35.2.n, 0))) r53.2) fun t61_55 =>
 (bd (chk (ldN 4 (.ptr (some (r35.2.n, 0))) (H52.more 1)) t61_55) fun _ =>
 (bd (f_ref05_Mul n [t60_54, t61_55] r53.2) fun r56 =>
 (bd (ldN 4 (.ptr (some (r35.2.n, 0))) r56.2) fun t63_57 =>
 (bd (chk (ldN 4 (.ptr (some (r35.2.n, 0))) r53.2) t63_57) fun _ =>
 (bd (chk (ldN 4 (.ptr (some (r35.2.n, 0))) (H52.more 1)) t63_57) fun _ =>
 (bd (ldN 4 (.ptr (some (r35.2.n, 0))) r56.2) fun t64_58 =>
 (bd (chk (ldN 4 (.ptr (some (r35.2.n, 0))) r53.2) t64_58) fun _ =>
 (bd (chk (ldN 4 (.ptr (some (r35.2.n, 0))) (H52.more 1)) t64_58) fun _ =>
 (bd (f_ref05_Mul n [t63_57, t64_58] r56.2) fun r59 =>
 (bd (f_ref05_Mul n [r56.1, r59.1] r59.2) fun r60 =>
 (bd (f_ref05_Mul n [r53.1, r60.1] r60.2) fun r61 =>
 (bd (f_ref05_Long n [(.int .i64 12)] r61.2) fun r62 =>
 (bd (ldN 4 (.ptr (some (r35.2.n, 0))) r62.2) fun t69_63 =>
 (bd (chk (ldN 4 (.ptr (some (r35.2.n, 0))) r61.2) t69_63) fun _ =>
 (bd (chk (ldN 4 (.ptr (some (r35.2.n, 0))) r60.2) t69_63) fun _ =>
 (bd (chk (ldN 4 (.ptr (some (r35.2.n, 0))) r59.2) t69_63) fun _ =>
 (bd (chk (ldN 4 (.ptr (some (r35.2.n, 0))) r56.2) t69_63) fun _ =>
 (bd (chk (ldN 4 (.ptr (some (r35.2.n, 0))) r53.2) t69_63) fun _ =>
 (bd (chk (ldN 4 (.ptr (some (r35.2.n, 0))) (H52.more 1)) t69_63) fun _ =>
 (bd (ldN 4 (.ptr (some (r35.2.n, 0))) r62.2) fun t70_64 =>
 (bd (chk (ldN 4 (.ptr (some (r35.2.n, 0))) r61.2) t70_64) fun _ =>
 (bd (chk (ldN 4 (.ptr (some (r35.2.n, 0))) r60.2) t70_64) fun _ =>
 (bd (chk (ldN 4 (.ptr (some (r35.2.n, 0))) r59.2) t70_64) fun _ =>
 (bd (chk (ldN 4 (.ptr (some (r35.2.n, 0))) r56.2) t70_64) fun _ =>
 (bd (chk (ldN 4 (.ptr (some (r35.2.n, 0))) r53.2) t70_64) fun _ =>
 (bd (chk (ldN 4 (.ptr (some (r35.2.n, 0))) (H52.more 1)) t70_64) fun _ =>
 (bd (f_ref05_Mul n [t69_63, t70_64] r62.2) fun r65 =>
 (bd (f_ref05_Mul n [r62.1, r65.1] r65.2) fun r66 =>
 (bd (ldN 4 (.ptr (some ((H40.n + 0), 0))) r66.2) fun t73_67 =>
 (bd (chk (ldN 4 (.ptr (some ((H40.n + 0), 0))) r65.2) t73_67) fun _ =>
 (bd (chk (ldN 4 (.ptr (some ((H40.n + 0), 0))) r62.2) t73_67) fun _ =>
 (bd (chk (ldN 4 (.ptr (some ((H40.n + 0), 0))) r61.2) t73_67) fun _ =>
 (bd (chk (ldN 4 (.ptr (some ((H40.n + 0), 0))) r60.2) t73_67) fun _ =>
 (bd (chk (ldN 4 (.ptr (some ((H40.n + 0), 0))) r59.2) t73_67) fun _ =>
 (bd (chk (ldN 4 (.ptr (some ((H40.n + 0), 0))) r56.2) t73_67) fun _ =>
 (bd (chk (ldN 4 (.ptr (some ((H40.n + 0), 0))) r53.2) t73_67) fun _ =>
 (bd (chk (ldN 4 (.ptr (some ((H40.n + 0), 0))) (H52.more 1)) t73_67) fun _ =>
 (bd (ldN 4 (.ptr (some ((H40.n + 0), 0))) r66.2) fun t74_68 =>
 (bd (chk (ldN 4 (.ptr (some ((H40.n + 0), 0))) r65.2) t74_68) fun _ =>
 (bd (chk (ldN 4 (.ptr (some ((H40.n + 0), 0))) r62.2) t74_68) fun _ =>
 (bd (chk (ldN 4 (.ptr (some ((H40.n + 0), 0))) r61.2) t74_68) fun _ =>
 (bd (chk (ldN 4 (.ptr (some ((H40.n + 0), 0))) r60.2) t74_68) fun _ =>
 (bd (chk (ldN 4 (.ptr (some ((H40.n + 0), 0))) r59.2) t74_68) fun _ =>
 (bd (chk (ldN 4 (.ptr (some ((H40.n + 0), 0))) r56.2) t74_68) fun _ =>
 (bd (chk (ldN 4 (.ptr (some ((H40.n + 0), 0))) r53.2) t74_68) fun _ =>
 (bd (chk (ldN 4 (.ptr (some ((H40.n + 0), 0))) (H52.more 1)) t74_68) fun _ =>
 (bd (f_ref05_Mul n [t73_67, t74_68] r66.2) fun r69 =>
 (bd (ldN 4 (.ptr (some ((H40.n + 1), 0))) r69.2) fun t76_70 =>
 (bd (chk (ldN 4 (.ptr (some ((H40.n + 1), 0))) r66.2) t76_70) fun _ =>
 (bd (chk (ldN 4 (.ptr (some ((H40.n + 1), 0))) r65.2) t76_70) fun _ =>
 (bd (chk (ldN 4 (.ptr (some ((H40.n + 1), 0))) r62.2) t76_70) fun _ =>
 (bd (chk (ldN 4 (.ptr (some ((H40.n + 1), 0))) r61.2) t76_70) fun _ =>
 (bd (chk (ldN 4 (.ptr (some ((H40.n + 1), 0))) r60.2) t76_70) fun _ =>
 (bd (chk (ldN 4 (.ptr (some ((H40.n + 1), 0))) r59.2) t76_70) fun _ =>
 (bd (chk (ldN 4 (.ptr (some ((H40.n + 1), 0))) r56.2) t76_70) fun _ =>
 (bd (chk (ldN 4 (.ptr (some ((H40.n + 1), 0))) r53.2) t76_70) fun _ =>
 (bd (chk (ldN 4 (.ptr (some ((H40.n + 1), 0))) (H52.more 1)) t76_70) fun _ =>
 (bd (ldN 4 (.ptr (some ((H40.n + 1), 0))) r69.2) fun t77_71 =>
 (bd (chk (ldN 4 (.ptr (some ((H40.n + 1), 0))) r66.2) t77_71) fun _ =>
 (bd (chk (ldN 4 (.ptr (some ((H40.n + 1), 0))) r65.2) t77_71) fun _ =>
 (bd (chk (ldN 4 (.ptr (some ((H40.n + 1), 0))) r62.2) t77_71) fun _ =>
 (bd (chk (ldN 4 (.ptr (some ((H40.n + 1), 0))) r61.2) t77_71) fun _ =>
 (bd (chk (ldN 4 (.ptr (some ((H40.n + 1), 0))) r60.2) t77_71) fun _ =>
 (bd (chk (ldN 4 (.ptr (some ((H40.n + 1), 0))) r59.2) t77_71) fun _ =>
 (bd (chk (ldN 4 (.ptr (some ((H40.n + 1), 0))) r56.2) t77_71) fun _ =>
 (bd (chk (ldN 4 (.ptr (some ((H40.n + 1), 0))) r53.2) t77_71) fun _ =>
 (bd (chk (ldN 4 (.ptr (some ((H40.n + 1), 0))) (H52.more 1)) t77_71) fun _ =>
 (bd (f_ref05_Mul n [t76_70, t77_71] r69.2) fun r72 =>
 (bd (f_ref05_Add n [r69.1, r72.1] r72.2) fun r73 =>
 (bd (f_ref05_Mul n [r66.1, r73.1] r73.2) fun r74 =>
 (bd (f_ref05_Add n [r61.1, r74.1] r74.2) fun r75 =>
 (bd (stA 4 (.ptr (some ((H52.n + 0), 0))) r75.1 (r75.2.set (H52.n + 0) (.cells [(.int .i64 0), (.slice ⟨none, 0, 0, false⟩), (.int .i64 0), (.slice ⟨none, 0, 0, false⟩)] ty_ref05_Rat false))) fun H76 =>
 (bd (ldN 6 (.ptr (some (H.n, 0))) (H76.more 0)) fun t83_77 =>
 (bd (f_energy_Moment n [(.slice ⟨some (H19.n, 0), 4, 6, false⟩), t83_77] (H76.more 0)) fun r78 =>
 (bd (f_ref05_Of n [r78.1] r78.2) fun r79 =>
 (bd (ldN 4 (.ptr (some ((H52.n + 0), 0))) r79.2) fun t86_80 =>
 (bd (chk (ldN 4 (.ptr (some ((H52.n + 0), 0))) r78.2) t86_80) fun _ =>
 (bd (chk (ldN 4 (.ptr (some ((H52.n + 0), 0))) (H76.more 0)) t86_80) fun _ =>
 (bd (f_ref05_Cmp n [r79.1, t86_80] r79.2) fun r81 =>
 (bd (arA .eql r81.1 (.int .i64 0)) fun t88_82 =>
 (bd (asB t88_82) fun b83 =>
 if b83 = true then
 (bd (f_ref09_Nought n [] r81.2) fun r84 =>
 (bd (idxS 6 (.slice ⟨some (H19.n, 0), 4, 6, false⟩) (.int .i64 0)) fun t91_85 =>
 (bd (ldN 6 t91_85 r84.2) fun t92_86 =>
 (bd (chk (ldN 6 t91_85 r81.2) t92_86) fun _ =>
 (bd (f_ref09_Same n [t92_86, r84.1] r84.2) fun r87 =>
 (bd (asB r87.1) fun b88 =>
 if b88 = true then
 (bd (f_law42_lives n [] r87.2) fun r89 =>
 (some (r89.1, r89.2)))
 else
 (some ((.bool false), r87.2))))))))
 else
 (some ((.bool false), r81.2)))))))))))))))))))))))))))))))))))))))))))))))))))))))))))))))))))))))))))))))))))))))))))))))))))))))))))))))))))))))))))))))))))))))))))))))))))
theorem law42_EnergyAbout_in (n : Nat) (a : List V) (H : Heap) : f_law42_EnergyAbout (n + 1) a H = pureA a H (fun a => E C n 5 [] (argsA 0 a) ⟨0, .nil⟩ (kR C 5)) := by unfold f_law42_EnergyAbout; kernel_rfl
theorem law42_EnergyAbout_tot {v0 v1 : V} {H : Heap} {Q : V → Heap → Prop} (hf : List.all [v0, v1] V.fro = true) (hg : V.frees [v0, v1] = true) (h : Tot (fun n => law42_EnergyAbout_b @bnd n v0 v1 E0) fun v _ => v.free = true ∧ Q v H) : Tot (fun n => f_law42_EnergyAbout n [v0, v1] H) Q := Tot.pu (k := fun n a => E C n 5 [] (argsA 0 a) ⟨0, .nil⟩ (kR C 5)) hf hg (fun n => law42_EnergyAbout_in n _ _) (fun n => bd_bnd (fun bd => law42_EnergyAbout_b bd n v0 v1 E0) (by kernel_rfl)) h
@[irreducible] noncomputable def law42_few.p0 (n : Nat) (v0 : V) (H : Heap) : Option R := E C n 6 [1, 1] [(0, v0)] H (kR C 6)
@[irreducible] noncomputable def law42_few.l1 (n m0 : Nat) (v0 v3 v4 : V) (H : Heap) : Option R := Lp C n 6 [1, 1, 1, 0, 1, 0, 0] m0 [(0, v0), (3, v3), (4, v4)] H (kB 0 (kC C n 6 [1, 1, 1, 1] (kR C 6)))
@[simp] noncomputable def law42_few.p0_b (bd : B2) (n : Nat) (v0 : V) (H : Heap) : Option R :=
 (bd (bSl 6 ty_api_Spot [(.bool false), (.slice ⟨none, 0, 0, false⟩), (.slice ⟨none, 0, 0, false⟩), (.bool false), (.slice ⟨none, 0, 0, false⟩), (.slice ⟨none, 0, 0, false⟩)] 0 []) fun o1 =>
 (law42_few.l1 n n v0 (.slice ⟨some (H.n, 0), 0, 6, false⟩) (.int .i64 0) (H.push o1)))
theorem law42_few.p0_tot {v0 : V} {H : Heap} {Q : V → Heap → Prop} (h : Tot (fun n => law42_few.p0_b @bnd n v0 H) Q) : Tot (fun n => law42_few.p0 n v0 H) Q := Tot.eq (fun n => bd_bnd (fun bd => law42_few.p0_b bd n v0 H) (by kernel_rfl)) h
@[simp] noncomputable def law42_few.l1_b (bd : B2) (n m0 : Nat) (v0 v3 v4 : V) (H : Heap) : Option R :=
 (bd (lenSl v0) fun t13_1 =>
 (bd (arA .lss v4 t13_1) fun t14_2 =>
 (bd (asB t14_2) fun b3 =>
 if b3 = true then
 (bd (idxS 6 v0 v4) fun t20_4 =>
 (bd (faA 0 t20_4) fun t21_5 =>
 (bd (ldN 3 t21_5 (H.more 1)) fun t22_6 =>
 (bd (f_law42_short n [t22_6] (H.more 1)) fun r7 =>
 (bd (idxS 6 v0 v4) fun t26_8 =>
 (bd (faA 3 t26_8) fun t27_9 =>
 (bd (ldN 3 t27_9 r7.2) fun t28_10 =>
 (bd (chk (ldN 3 t27_9 (H.more 1)) t28_10) fun _ =>
 (bd (f_law42_short n [t28_10] r7.2) fun r11 =>
 (bd (flA [(0, 3), (3, 3)] [(.bool false), (.slice ⟨none, 0, 0, false⟩), (.slice ⟨none, 0, 0, false⟩), (.bool false), (.slice ⟨none, 0, 0, false⟩), (.slice ⟨none, 0, 0, false⟩)] [(0, r7.1), (1, r11.1)]) fun t30_12 =>
 (bd (bSl 6 ty_api_Spot [(.bool false), (.slice ⟨none, 0, 0, false⟩), (.slice ⟨none, 0, 0, false⟩), (.bool false), (.slice ⟨none, 0, 0, false⟩), (.slice ⟨none, 0, 0, false⟩)] 1 [(0, t30_12)]) fun o13 =>
 (bd (appA 6 112 ty_api_Spot v3 (.slice ⟨some ((H.n + 0), 0), 1, 6, false⟩) (r11.2.set (H.n + 0) o13)) fun p14 =>
 (bd (arA .add v4 (.int .i64 1)) fun t16_15 =>
 (law42_few.l1 n m0 v0 p14.1 t16_15 p14.2))))))))))))))
 else
 (frzR v3 H))))
theorem law42_few.l1_tot {m0 : Nat → Nat} {v0 v3 v4 : V} {H : Heap} {Q : V → Heap → Prop} (hb : Big m0) (h : ∀ m0', Big m0' → Tot (fun n => law42_few.l1_b @bnd n (m0' n) v0 v3 v4 H) Q) : Tot (fun n => law42_few.l1 n (m0 n) v0 v3 v4 H) Q :=
  Tot.loop (f := fun n k => law42_few.l1 n k v0 v3 v4 H) (g := fun n k => law42_few.l1_b @bnd n k v0 v3 v4 H) hb (fun n k => bd_bnd (fun bd => law42_few.l1_b bd n k v0 v3 v4 H) (by kernel_rfl)) h
@[simp] noncomputable def law42_few_b (bd : B2) (n : Nat) (v0 : V) (H : Heap) : Option R :=
 (bd (lenSl v0) fun t6_1 =>
 (bd (arA .gtr t6_1 (.int .i64 6)) fun t7_2 =>
 (bd (asB t7_2) fun b3 =>
 if b3 = true then
 (bd (slSl 6 v0 none (some (.int .i64 6))) fun t9_4 =>
 (law42_few.p0 n t9_4 H))
 else
 (law42_few.p0 n v0 H))))
theorem law42_few_in (n : Nat) (a : List V) (H : Heap) : f_law42_few (n + 1) a H = pureA a H (fun a => E C n 6 [] (argsA 0 a) ⟨0, .nil⟩ (kR C 6)) := by unfold f_law42_few; kernel_rfl
theorem law42_few_tot {v0 : V} {H : Heap} {Q : V → Heap → Prop} (hf : List.all [v0] V.fro = true) (hg : V.frees [v0] = true) (h : Tot (fun n => law42_few_b @bnd n v0 E0) fun v _ => v.free = true ∧ Q v H) : Tot (fun n => f_law42_few n [v0] H) Q := Tot.pu (k := fun n a => E C n 6 [] (argsA 0 a) ⟨0, .nil⟩ (kR C 6)) hf hg (fun n => law42_few_in n _ _) (fun n => bd_bnd (fun bd => law42_few_b bd n v0 E0) (by kernel_rfl)) h
@[irreducible] noncomputable def law42_short.p0 (n : Nat) (v1 v2 v3 v4 : V) (H : Heap) : Option R := E C n 7 [1, 1, 1] [(1, v1), (2, v2), (3, v3), (4, v4)] H (kR C 7)
@[irreducible] noncomputable def law42_short.p1 (n : Nat) (v1 v2 v3 v4 : V) (H : Heap) : Option R := E C n 7 [1, 1, 1, 1] [(1, v1), (2, v2), (3, v3), (4, v4)] H (kR C 7)
@[simp] noncomputable def law42_short.p0_b (bd : B2) (n : Nat) (v1 v2 v3 v4 : V) (H : Heap) : Option R :=
 (bd (lenSl v4) fun t16_1 =>
 (bd (arA .gtr t16_1 (.int .i64 1)) fun t17_2 =>
 (bd (asB t17_2) fun b3 =>
 if b3 = true then
 (bd (slSl 1 v4 none (some (.int .i64 1))) fun t19_4 =>
 (law42_short.p1 n v1 v2 v3 t19_4 H))
 else
 (law42_short.p1 n v1 v2 v3 v4 H))))
theorem law42_short.p0_tot {v1 v2 v3 v4 : V} {H : Heap} {Q : V → Heap → Prop} (h : Tot (fun n => law42_short.p0_b @bnd n v1 v2 v3 v4 H) Q) : Tot (fun n => law42_short.p0 n v1 v2 v3 v4 H) Q := Tot.eq (fun n => bd_bnd (fun bd => law42_short.p0_b bd n v1 v2 v3 v4 H) (by kernel_rfl)) h
@[simp] noncomputable def law42_short.p1_b (bd : B2) (n : Nat) (v1 v2 v3 v4 : V) (H : Heap) : Option R :=
 (bd (bSl 1 ty_uint32 [(.int .u32 0)] 0 []) fun o1 =>
 (bd (appA 1 4 ty_uint32 (.slice ⟨some ((H.n + 0), 0), 0, 1, false⟩) v3 ((H.more 2).set (H.n + 0) o1)) fun p2 =>
 (bd (bSl 1 ty_uint32 [(.int .u32 0)] 0 []) fun o3 =>
 (bd (appA 1 4 ty_uint32 (.slice ⟨some ((H.n + 1), 0), 0, 1, false⟩) v4 (p2.2.set (H.n + 1) o3)) fun p4 =>
 (bd (faA 0 v1) fun t20_5 =>
 (bd (faA 0 t20_5) fun t21_6 =>
 (bd (ld1 t21_6 p4.2) fun t22_7 =>
 (bd (chk (ld1 t21_6 p2.2) t22_7) fun _ =>
 (bd (chk (ld1 t21_6 (H.more 2)) t22_7) fun _ =>
 (bd (flA [(0, 1), (1, 1)] [(.bool false), (.slice ⟨none, 0, 0, false⟩)] [(0, t22_7), (1, p2.1)]) fun t26_8 =>
 (bd (flA [(0, 2), (2, 1)] [(.bool false), (.slice ⟨none, 0, 0, false⟩), (.slice ⟨none, 0, 0, false⟩)] [(0, t26_8), (1, p4.1)]) fun t30_9 =>
 (bd (stA 3 v2 t30_9 p4.2) fun H10 =>
 (bd (ldN 3 v2 H10) fun t11 =>
 (frzR t11 H10))))))))))))))
theorem law42_short.p1_tot {v1 v2 v3 v4 : V} {H : Heap} {Q : V → Heap → Prop} (h : Tot (fun n => law42_short.p1_b @bnd n v1 v2 v3 v4 H) Q) : Tot (fun n => law42_short.p1 n v1 v2 v3 v4 H) Q := Tot.eq (fun n => bd_bnd (fun bd => law42_short.p1_b bd n v1 v2 v3 v4 H) (by kernel_rfl)) h
@[simp] noncomputable def law42_short_b (bd : B2) (n : Nat) (v0 : V) (H : Heap) : Option R :=
 (bd (boxA ty_api_Rat v0) fun o1 =>
 (bd (faA 0 (.ptr (some (H.n, 0)))) fun t5_2 =>
 (bd (faA 1 t5_2) fun t6_3 =>
 (bd (ld1 t6_3 (((H.push o1).push (.cells [(.bool false), (.slice ⟨none, 0, 0, false⟩), (.slice ⟨none, 0, 0, false⟩)] ty_api_Rat false)).more 0)) fun t7_4 =>
 (bd (faA 2 (.ptr (some (H.n, 0)))) fun t8_5 =>
 (bd (ld1 t8_5 (((H.push o1).push (.cells [(.bool false), (.slice ⟨none, 0, 0, false⟩), (.slice ⟨none, 0, 0, false⟩)] ty_api_Rat false)).more 0)) fun t9_6 =>
 (bd (lenSl t7_4) fun t11_7 =>
 (bd (arA .gtr t11_7 (.int .i64 2)) fun t12_8 =>
 (bd (asB t12_8) fun b9 =>
 if b9 = true then
 (bd (slSl 1 t7_4 none (some (.int .i64 2))) fun t14_10 =>
 (law42_short.p0 n (.ptr (some (H.n, 0))) (.ptr (some ((H.push o1).n, 0))) t14_10 t9_6 (((H.push o1).push (.cells [(.bool false), (.slice ⟨none, 0, 0, false⟩), (.slice ⟨none, 0, 0, false⟩)] ty_api_Rat false)).more 0)))
 else
 (law42_short.p0 n (.ptr (some (H.n, 0))) (.ptr (some ((H.push o1).n, 0))) t7_4 t9_6 (((H.push o1).push (.cells [(.bool false), (.slice ⟨none, 0, 0, false⟩), (.slice ⟨none, 0, 0, false⟩)] ty_api_Rat false)).more 0)))))))))))
theorem law42_short_in (n : Nat) (a : List V) (H : Heap) : f_law42_short (n + 1) a H = pureA a H (fun a => E C n 7 [] (argsA 0 a) ⟨0, .nil⟩ (kR C 7)) := by unfold f_law42_short; kernel_rfl
theorem law42_short_tot {v0 : V} {H : Heap} {Q : V → Heap → Prop} (hf : List.all [v0] V.fro = true) (hg : V.frees [v0] = true) (h : Tot (fun n => law42_short_b @bnd n v0 E0) fun v _ => v.free = true ∧ Q v H) : Tot (fun n => f_law42_short n [v0] H) Q := Tot.pu (k := fun n a => E C n 7 [] (argsA 0 a) ⟨0, .nil⟩ (kR C 7)) hf hg (fun n => law42_short_in n _ _) (fun n => bd_bnd (fun bd => law42_short_b bd n v0 E0) (by kernel_rfl)) h
@[simp] noncomputable def ref05_Same_b (bd : B2) (n : Nat) (v0 v1 : V) (H : Heap) : Option R :=
 (bd (boxA ty_api_Rat v0) fun o1 =>
 (bd (boxA ty_ref05_Rat v1) fun o2 =>
 (bd (ldN 4 (.ptr (some ((H.push o1).n, 0))) ((H.push o1).push o2)) fun t6_3 =>
 (bd (f_ref05_Low n [t6_3] ((H.push o1).push o2)) fun r4 =>
 (bd (stA 4 (.ptr (some (r4.2.n, 0))) r4.1 (r4.2.push (.cells [(.int .i64 0), (.slice ⟨none, 0, 0, false⟩), (.int .i64 0), (.slice ⟨none, 0, 0, false⟩)] ty_ref05_Rat false))) fun H5 =>
 (bd (faA 0 (.ptr (some (H.n, 0)))) fun t8_6 =>
 (bd (ldN 2 t8_6 H5) fun t9_7 =>
 (bd (faA 0 (.ptr (some (r4.2.n, 0)))) fun t10_8 =>
 (bd (ldN 2 t10_8 H5) fun t11_9 =>
 (bd (f_ref04_Same n [t9_7, t11_9] H5) fun r10 =>
 (bd (asB r10.1) fun b11 =>
 if b11 = true then
 (bd (faA 2 (.ptr (some (H.n, 0)))) fun t14_12 =>
 (bd (ld1 t14_12 r10.2) fun t15_13 =>
 (bd (faA 2 (.ptr (some (r4.2.n, 0)))) fun t16_14 =>
 (bd (faA 1 t16_14) fun t17_15 =>
 (bd (ld1 t17_15 r10.2) fun t18_16 =>
 (bd (f_ref03_Same n [t15_13, t18_16] r10.2) fun r17 =>
 (some (r17.1, r17.2))))))))
 else
 (some ((.bool false), r10.2)))))))))))))
theorem ref05_Same_in (n : Nat) (a : List V) (H : Heap) : f_ref05_Same (n + 1) a H = pureA a H (fun a => E C n 8 [] (argsA 0 a) ⟨0, .nil⟩ (kR C 8)) := by unfold f_ref05_Same; kernel_rfl
theorem ref05_Same_tot {v0 v1 : V} {H : Heap} {Q : V → Heap → Prop} (hf : List.all [v0, v1] V.fro = true) (hg : V.frees [v0, v1] = true) (h : Tot (fun n => ref05_Same_b @bnd n v0 v1 E0) fun v _ => v.free = true ∧ Q v H) : Tot (fun n => f_ref05_Same n [v0, v1] H) Q := Tot.pu (k := fun n a => E C n 8 [] (argsA 0 a) ⟨0, .nil⟩ (kR C 8)) hf hg (fun n => ref05_Same_in n _ _) (fun n => bd_bnd (fun bd => ref05_Same_b bd n v0 v1 E0) (by kernel_rfl)) h
@[simp] noncomputable def energy_Moment_b (bd : B2) (n : Nat) (v0 v1 : V) (H : Heap) : Option R :=
 (bd (boxA ty_api_Spot v1) fun o1 =>
 (bd (ldN 6 (.ptr (some (H.n, 0))) ((H.push o1).push (.cells [(.bool false), (.slice ⟨none, 0, 0, false⟩), (.slice ⟨none, 0, 0, false⟩)] ty_api_Rat false))) fun t6_2 =>
 (bd (f_energy_moment n [v0, t6_2] ((H.push o1).push (.cells [(.bool false), (.slice ⟨none, 0, 0, false⟩), (.slice ⟨none, 0, 0, false⟩)] ty_api_Rat false))) fun r3 =>
 (bd (stA 3 (.ptr (some ((H.push o1).n, 0))) r3.1 r3.2) fun H4 =>
 (bd (ldN 3 (.ptr (some ((H.push o1).n, 0))) H4) fun t5 =>
 (frzR t5 H4))))))
theorem energy_Moment_in (n : Nat) (a : List V) (H : Heap) : f_energy_Moment (n + 1) a H = pureA a H (fun a => E C n 9 [] (argsA 0 a) ⟨0, .nil⟩ (kR C 9)) := by unfold f_energy_Moment; kernel_rfl
theorem energy_Moment_tot {v0 v1 : V} {H : Heap} {Q : V → Heap → Prop} (hf : List.all [v0, v1] V.fro = true) (hg : V.frees [v0, v1] = true) (h : Tot (fun n => energy_Moment_b @bnd n v0 v1 E0) fun v _ => v.free = true ∧ Q v H) : Tot (fun n => f_energy_Moment n [v0, v1] H) Q := Tot.pu (k := fun n a => E C n 9 [] (argsA 0 a) ⟨0, .nil⟩ (kR C 9)) hf hg (fun n => energy_Moment_in n _ _) (fun n => bd_bnd (fun bd => energy_Moment_b bd n v0 v1 E0) (by kernel_rfl)) h
@[irreducible] noncomputable def ref42_Moment.l0 (n m0 : Nat) (v0 v3 v4 v5 v6 : V) (H : Heap) : Option R := Lp C n 10 [1, 1, 0, 1, 0, 0] m0 [(0, v0), (3, v3), (4, v4), (5, v5), (6, v6)] H (kB 0 (kC C n 10 [1, 1, 1] (kR C 10)))
@[simp] noncomputable def ref42_Moment.l0_b (bd : B2) (n m0 : Nat) (v0 v3 v4 v5 v6 : V) (H : Heap) : Option R :=
 (bd (lenSl v0) fun t10_1 =>
 (bd (arA .lss v6 t10_1) fun t11_2 =>
 (bd (asB t11_2) fun b3 =>
 if b3 = true then
 (bd (lenSl v0) fun t14_4 =>
 (bd (arA .gtr t14_4 (.int .i64 2)) fun t15_5 =>
 (bd (asB t15_5) fun b6 =>
 if b6 = true then
 (bd (ldN 8 v3 (H.more 0)) fun t20_7 =>
 (bd (idxS 8 v0 v6) fun t23_8 =>
 (bd (ldN 8 t23_8 (H.more 0)) fun t24_9 =>
 (bd (arA .add v6 (.int .i64 1)) fun t27_10 =>
 (bd (lenSl v0) fun t29_11 =>
 (bd (arA .rem t27_10 t29_11) fun t30_12 =>
 (bd (idxS 8 v0 t30_12) fun t31_13 =>
 (bd (ldN 8 t31_13 (H.more 0)) fun t32_14 =>
 (bd (f_ref42_Tri n [t20_7, t24_9, t32_14] (H.more 0)) fun r15 =>
 (bd (ldN 4 v5 r15.2) fun t19_16 =>
 (bd (chk (ldN 4 v5 (H.more 0)) t19_16) fun _ =>
 (bd (f_ref05_Add n [t19_16, r15.1] r15.2) fun r17 =>
 (bd (f_ref05_Low n [r17.1] r17.2) fun r18 =>
 (bd (stA 4 v5 r18.1 r18.2) fun H19 =>
 (bd (arA .add v6 (.int .i64 1)) fun t18_20 =>
 (ref42_Moment.l0 n m0 v0 v3 v4 v5 t18_20 H19))))))))))))))))
 else
 (bd (ldN 4 v5 H) fun t36_21 =>
 (bd (stA 4 v4 t36_21 H) fun H22 =>
 (bd (ldN 4 v4 H22) fun t23 =>
 (frzR t23 H22)))))))
 else
 (bd (ldN 4 v5 H) fun t36_24 =>
 (bd (stA 4 v4 t36_24 H) fun H25 =>
 (bd (ldN 4 v4 H25) fun t26 =>
 (frzR t26 H25)))))))
theorem ref42_Moment.l0_tot {m0 : Nat → Nat} {v0 v3 v4 v5 v6 : V} {H : Heap} {Q : V → Heap → Prop} (hb : Big m0) (h : ∀ m0', Big m0' → Tot (fun n => ref42_Moment.l0_b @bnd n (m0' n) v0 v3 v4 v5 v6 H) Q) : Tot (fun n => ref42_Moment.l0 n (m0 n) v0 v3 v4 v5 v6 H) Q :=
  Tot.loop (f := fun n k => ref42_Moment.l0 n k v0 v3 v4 v5 v6 H) (g := fun n k => ref42_Moment.l0_b @bnd n k v0 v3 v4 v5 v6 H) hb (fun n k => bd_bnd (fun bd => ref42_Moment.l0_b bd n k v0 v3 v4 v5 v6 H) (by kernel_rfl)) h
@[simp] noncomputable def ref42_Moment_b (bd : B2) (n : Nat) (v0 v1 : V) (H : Heap) : Option R :=
 (bd (boxA ty_ref09_Spot v1) fun o1 =>
 (bd (f_ref05_Long n [(.int .i64 0)] ((H.push o1).push (.cells [(.int .i64 0), (.slice ⟨none, 0, 0, false⟩), (.int .i64 0), (.slice ⟨none, 0, 0, false⟩)] ty_ref05_Rat false))) fun r2 =>
 (bd (stA 4 (.ptr (some (r2.2.n, 0))) r2.1 (r2.2.push (.cells [(.int .i64 0), (.slice ⟨none, 0, 0, false⟩), (.int .i64 0), (.slice ⟨none, 0, 0, false⟩)] ty_ref05_Rat false))) fun H3 =>
 (ref42_Moment.l0 n n v0 (.ptr (some (H.n, 0))) (.ptr (some ((H.push o1).n, 0))) (.ptr (some (r2.2.n, 0))) (.int .i64 0) H3))))
theorem ref42_Moment_in (n : Nat) (a : List V) (H : Heap) : f_ref42_Moment (n + 1) a H = pureA a H (fun a => E C n 10 [] (argsA 0 a) ⟨0, .nil⟩ (kR C 10)) := by unfold f_ref42_Moment; kernel_rfl
theorem ref42_Moment_tot {v0 v1 : V} {H : Heap} {Q : V → Heap → Prop} (hf : List.all [v0, v1] V.fro = true) (hg : V.frees [v0, v1] = true) (h : Tot (fun n => ref42_Moment_b @bnd n v0 v1 E0) fun v _ => v.free = true ∧ Q v H) : Tot (fun n => f_ref42_Moment n [v0, v1] H) Q := Tot.pu (k := fun n a => E C n 10 [] (argsA 0 a) ⟨0, .nil⟩ (kR C 10)) hf hg (fun n => ref42_Moment_in n _ _) (fun n => bd_bnd (fun bd => ref42_Moment_b bd n v0 v1 E0) (by kernel_rfl)) h
@[irreducible] noncomputable def ref20_All.l0 (n m0 : Nat) (v0 v3 v4 : V) (H : Heap) : Option R := Lp C n 11 [1, 1, 0, 1, 0, 0] m0 [(0, v0), (3, v3), (4, v4)] H (kB 0 (kC C n 11 [1, 1, 1] (kR C 11)))
@[simp] noncomputable def ref20_All.l0_b (bd : B2) (n m0 : Nat) (v0 v3 v4 : V) (H : Heap) : Option R :=
 (bd (lenSl v0) fun t8_1 =>
 (bd (arA .lss v4 t8_1) fun t9_2 =>
 (bd (asB t9_2) fun b3 =>
 if b3 = true then
 (bd (idxS 6 v0 v4) fun t15_4 =>
 (bd (ldN 6 t15_4 H) fun t16_5 =>
 (bd (f_ref20_Of n [t16_5] H) fun r6 =>
 (bd (bSl 8 ty_ref09_Spot [(.int .i64 0), (.slice ⟨none, 0, 0, false⟩), (.int .i64 0), (.slice ⟨none, 0, 0, false⟩), (.int .i64 0), (.slice ⟨none, 0, 0, false⟩), (.int .i64 0), (.slice ⟨none, 0, 0, false⟩)] 1 [(0, r6.1)]) fun o7 =>
 (bd (appA 8 128 ty_ref09_Spot v3 (.slice ⟨some (r6.2.n, 0), 1, 8, false⟩) (r6.2.push o7)) fun p8 =>
 (bd (arA .add v4 (.int .i64 1)) fun t11_9 =>
 (ref20_All.l0 n m0 v0 p8.1 t11_9 p8.2)))))))
 else
 (frzR v3 H))))
theorem ref20_All.l0_tot {m0 : Nat → Nat} {v0 v3 v4 : V} {H : Heap} {Q : V → Heap → Prop} (hb : Big m0) (h : ∀ m0', Big m0' → Tot (fun n => ref20_All.l0_b @bnd n (m0' n) v0 v3 v4 H) Q) : Tot (fun n => ref20_All.l0 n (m0 n) v0 v3 v4 H) Q :=
  Tot.loop (f := fun n k => ref20_All.l0 n k v0 v3 v4 H) (g := fun n k => ref20_All.l0_b @bnd n k v0 v3 v4 H) hb (fun n k => bd_bnd (fun bd => ref20_All.l0_b bd n k v0 v3 v4 H) (by kernel_rfl)) h
@[simp] noncomputable def ref20_All_b (bd : B2) (n : Nat) (v0 : V) (H : Heap) : Option R :=
 (bd (bSl 8 ty_ref09_Spot [(.int .i64 0), (.slice ⟨none, 0, 0, false⟩), (.int .i64 0), (.slice ⟨none, 0, 0, false⟩), (.int .i64 0), (.slice ⟨none, 0, 0, false⟩), (.int .i64 0), (.slice ⟨none, 0, 0, false⟩)] 0 []) fun o1 =>
 (ref20_All.l0 n n v0 (.slice ⟨some (H.n, 0), 0, 8, false⟩) (.int .i64 0) (H.push o1)))
theorem ref20_All_in (n : Nat) (a : List V) (H : Heap) : f_ref20_All (n + 1) a H = pureA a H (fun a => E C n 11 [] (argsA 0 a) ⟨0, .nil⟩ (kR C 11)) := by unfold f_ref20_All; kernel_rfl
theorem ref20_All_tot {v0 : V} {H : Heap} {Q : V → Heap → Prop} (hf : List.all [v0] V.fro = true) (hg : V.frees [v0] = true) (h : Tot (fun n => ref20_All_b @bnd n v0 E0) fun v _ => v.free = true ∧ Q v H) : Tot (fun n => f_ref20_All n [v0] H) Q := Tot.pu (k := fun n a => E C n 11 [] (argsA 0 a) ⟨0, .nil⟩ (kR C 11)) hf hg (fun n => ref20_All_in n _ _) (fun n => bd_bnd (fun bd => ref20_All_b bd n v0 E0) (by kernel_rfl)) h
end Go.AM.N
end
section
set_option linter.unusedVariables false
set_option linter.unusedSimpArgs false
set_option maxRecDepth 1000000
set_option linter.unusedVariables false
namespace Go.AM.N
@[simp] noncomputable def ref20_Of_b (bd : B2) (n : Nat) (v0 : V) (H : Heap) : Option R :=
 (bd (boxA ty_api_Spot v0) fun o1 =>
 (bd (faA 0 (.ptr (some (H.n, 0)))) fun t3_2 =>
 (bd (ldN 3 t3_2 (((H.push o1).push (.cells [(.int .i64 0), (.slice ⟨none, 0, 0, false⟩), (.int .i64 0), (.slice ⟨none, 0, 0, false⟩), (.int .i64 0), (.slice ⟨none, 0, 0, false⟩), (.int .i64 0), (.slice ⟨none, 0, 0, false⟩)] ty_ref09_Spot false)).more 0)) fun t4_3 =>
 (bd (f_ref05_Of n [t4_3] (((H.push o1).push (.cells [(.int .i64 0), (.slice ⟨none, 0, 0, false⟩), (.int .i64 0), (.slice ⟨none, 0, 0, false⟩), (.int .i64 0), (.slice ⟨none, 0, 0, false⟩), (.int .i64 0), (.slice ⟨none, 0, 0, false⟩)] ty_ref09_Spot false)).more 0)) fun r4 =>
 (bd (f_ref05_Low n [r4.1] r4.2) fun r5 =>
 (bd (faA 3 (.ptr (some (H.n, 0)))) fun t7_6 =>
 (bd (ldN 3 t7_6 r5.2) fun t8_7 =>
 (bd (chk (ldN 3 t7_6 r4.2) t8_7) fun _ =>
 (bd (chk (ldN 3 t7_6 (((H.push o1).push (.cells [(.int .i64 0), (.slice ⟨none, 0, 0, false⟩), (.int .i64 0), (.slice ⟨none, 0, 0, false⟩), (.int .i64 0), (.slice ⟨none, 0, 0, false⟩), (.int .i64 0), (.slice ⟨none, 0, 0, false⟩)] ty_ref09_Spot false)).more 0)) t8_7) fun _ =>
 (bd (f_ref05_Of n [t8_7] r5.2) fun r8 =>
 (bd (f_ref05_Low n [r8.1] r8.2) fun r9 =>
 (bd (flA [(0, 4), (4, 4)] [(.int .i64 0), (.slice ⟨none, 0, 0, false⟩), (.int .i64 0), (.slice ⟨none, 0, 0, false⟩), (.int .i64 0), (.slice ⟨none, 0, 0, false⟩), (.int .i64 0), (.slice ⟨none, 0, 0, false⟩)] [(0, r5.1), (1, r9.1)]) fun t11_10 =>
 (bd (stA 8 (.ptr (some ((H.push o1).n, 0))) t11_10 r9.2) fun H11 =>
 (bd (ldN 8 (.ptr (some ((H.push o1).n, 0))) H11) fun t12 =>
 (frzR t12 H11)))))))))))))))
theorem ref20_Of_in (n : Nat) (a : List V) (H : Heap) : f_ref20_Of (n + 1) a H = pureA a H (fun a => E C n 12 [] (argsA 0 a) ⟨0, .nil⟩ (kR C 12)) := by unfold f_ref20_Of; kernel_rfl
theorem ref20_Of_tot {v0 : V} {H : Heap} {Q : V → Heap → Prop} (hf : List.all [v0] V.fro = true) (hg : V.frees [v0] = true) (h : Tot (fun n => ref20_Of_b @bnd n v0 E0) fun v _ => v.free = true ∧ Q v H) : Tot (fun n => f_ref20_Of n [v0] H) Q := Tot.pu (k := fun n a => E C n 12 [] (argsA 0 a) ⟨0, .nil⟩ (kR C 12)) hf hg (fun n => ref20_Of_in n _ _) (fun n => bd_bnd (fun bd => ref20_Of_b bd n v0 E0) (by kernel_rfl)) h
@[irreducible] noncomputable def ref20_Centroid.l0 (n m0 : Nat) (v0 v2 v4 v5 v6 v7 : V) (H : Heap) : Option R := Lp C n 14 [1, 1, 1, 0, 1, 0, 0] m0 [(0, v0), (2, v2), (4, v4), (5, v5), (6, v6), (7, v7)] H (kB 0 (kC C n 14 [1, 1, 1, 1] (kR C 14)))
@[irreducible] noncomputable def ref20_Centroid.p1 (n : Nat) (v2 v4 v5 v6 : V) (H : Heap) : Option R := E C n 14 [1, 1, 1, 1] [(2, v2), (4, v4), (5, v5), (6, v6)] H (kR C 14)
@[simp] noncomputable def ref20_Centroid.l0_b (bd : B2) (n m0 : Nat) (v0 v2 v4 v5 v6 v7 : V) (H : Heap) : Option R :=
 (bd (arA .add v7 (.int .i64 1)) fun t19_1 =>
 (bd (lenSl v0) fun t21_2 =>
 (bd (arA .lss t19_1 t21_2) fun t22_3 =>
 (bd (asB t22_3) fun b4 =>
 if b4 = true then
 (bd (idxS 8 v0 (.int .i64 0)) fun t26_5 =>
 (bd (ldN 8 t26_5 (H.more 1)) fun t27_6 =>
 (bd (idxS 8 v0 v7) fun t30_7 =>
 (bd (ldN 8 t30_7 (H.more 1)) fun t31_8 =>
 (bd (arA .add v7 (.int .i64 1)) fun t34_9 =>
 (bd (idxS 8 v0 t34_9) fun t35_10 =>
 (bd (ldN 8 t35_10 (H.more 1)) fun t36_11 =>
 (bd (f_ref20_Tri n [t27_6, t31_8, t36_11] (H.more 1)) fun r12 =>
 (bd (stA 4 (.ptr (some ((H.n + 0), 0))) r12.1 (r12.2.set (H.n + 0) (.cells [(.int .i64 0), (.slice ⟨none, 0, 0, false⟩), (.int .i64 0), (.slice ⟨none, 0, 0, false⟩)] ty_ref05_Rat false))) fun H13 =>
 (bd (idxS 8 v0 (.int .i64 0)) fun t41_14 =>
 (bd (faA 0 t41_14) fun t42_15 =>
 (bd (ldN 4 t42_15 (H13.more 0)) fun t43_16 =>
 (bd (idxS 8 v0 v7) fun t46_17 =>
 (bd (faA 0 t46_17) fun t47_18 =>
 (bd (ldN 4 t47_18 (H13.more 0)) fun t48_19 =>
 (bd (arA .add v7 (.int .i64 1)) fun t51_20 =>
 (bd (idxS 8 v0 t51_20) fun t52_21 =>
 (bd (faA 0 t52_21) fun t53_22 =>
 (bd (ldN 4 t53_22 (H13.more 0)) fun t54_23 =>
 (bd (f_ref20_mean n [t43_16, t48_19, t54_23] (H13.more 0)) fun r24 =>
 (bd (ldN 4 (.ptr (some ((H.n + 0), 0))) r24.2) fun t39_25 =>
 (bd (chk (ldN 4 (.ptr (some ((H.n + 0), 0))) (H13.more 0)) t39_25) fun _ =>
 (bd (f_ref05_Mul n [t39_25, r24.1] r24.2) fun r26 =>
 (bd (ldN 4 v5 r26.2) fun t38_27 =>
 (bd (chk (ldN 4 v5 r24.2) t38_27) fun _ =>
 (bd (chk (ldN 4 v5 (H13.more 0)) t38_27) fun _ =>
 (bd (f_ref05_Add n [t38_27, r26.1] r26.2) fun r28 =>
 (bd (f_ref05_Low n [r28.1] r28.2) fun r29 =>
 (bd (stA 4 v5 r29.1 r29.2) fun H30 =>
 (bd (idxS 8 v0 (.int .i64 0)) fun t62_31 =>
 (bd (faA 4 t62_31) fun t63_32 =>
 (bd (ldN 4 t63_32 (H30.more 0)) fun t64_33 =>
 (bd (idxS 8 v0 v7) fun t67_34 =>
 (bd (faA 4 t67_34) fun t68_35 =>
 (bd (ldN 4 t68_35 (H30.more 0)) fun t69_36 =>
 (bd (arA .add v7 (.int .i64 1)) fun t72_37 =>
 (bd (idxS 8 v0 t72_37) fun t73_38 =>
 (bd (faA 4 t73_38) fun t74_39 =>
 (bd (ldN 4 t74_39 (H30.more 0)) fun t75_40 =>
 (bd (f_ref20_mean n [t64_33, t69_36, t75_40] (H30.more 0)) fun r41 =>
 (bd (ldN 4 (.ptr (some ((H.n + 0), 0))) r41.2) fun t60_42 =>
 (bd (chk (ldN 4 (.ptr (some ((H.n + 0), 0))) (H30.more 0)) t60_42) fun _ =>
 (bd (f_ref05_Mul n [t60_42, r41.1] r41.2) fun r43 =>
 (bd (ldN 4 v6 r43.2) fun t59_44 =>
 (bd (chk (ldN 4 v6 r41.2) t59_44) fun _ =>
 (bd (chk (ldN 4 v6 (H30.more 0)) t59_44) fun _ =>
 (bd (f_ref05_Add n [t59_44, r43.1] r43.2) fun r45 =>
 (bd (f_ref05_Low n [r45.1] r45.2) fun r46 =>
 (bd (stA 4 v6 r46.1 r46.2) fun H47 =>
 (bd (arA .add v7 (.int .i64 1)) fun t24_48 =>
 (ref20_Centroid.l0 n m0 v0 v2 v4 v5 v6 t24_48 H47)))))))))))))))))))))))))))))))))))))))))))))))))))
 else
 (ref20_Centroid.p1 n v2 v4 v5 v6 H)))))
theorem ref20_Centroid.l0_tot {m0 : Nat → Nat} {v0 v2 v4 v5 v6 v7 : V} {H : Heap} {Q : V → Heap → Prop} (hb : Big m0) (h : ∀ m0', Big m0' → Tot (fun n => ref20_Centroid.l0_b @bnd n (m0' n) v0 v2 v4 v5 v6 v7 H) Q) : Tot (fun n => ref20_Centroid.l0 n (m0 n) v0 v2 v4 v5 v6 v7 H) Q :=
  Tot.loop (f := fun n k => ref20_Centroid.l0 n k v0 v2 v4 v5 v6 v7 H) (g := fun n k => ref20_Centroid.l0_b @bnd n k v0 v2 v4 v5 v6 v7 H) hb (fun n k => bd_bnd (fun bd => ref20_Centroid.l0_b bd n k v0 v2 v4 v5 v6 v7 H) (by kernel_rfl)) h
@[simp] noncomputable def ref20_Centroid.p1_b (bd : B2) (n : Nat) (v2 v4 v5 v6 : V) (H : Heap) : Option R :=
 (bd (ldN 4 v5 (H.more 0)) fun t80_1 =>
 (bd (ldN 4 v4 (H.more 0)) fun t81_2 =>
 (bd (f_ref05_Div n [t80_1, t81_2] (H.more 0)) fun r3 =>
 (bd (f_ref05_Low n [r3.1] r3.2) fun r4 =>
 (bd (ldN 4 v6 r4.2) fun t84_5 =>
 (bd (chk (ldN 4 v6 r3.2) t84_5) fun _ =>
 (bd (chk (ldN 4 v6 (H.more 0)) t84_5) fun _ =>
 (bd (ldN 4 v4 r4.2) fun t85_6 =>
 (bd (chk (ldN 4 v4 r3.2) t85_6) fun _ =>
 (bd (chk (ldN 4 v4 (H.more 0)) t85_6) fun _ =>
 (bd (f_ref05_Div n [t84_5, t85_6] r4.2) fun r7 =>
 (bd (f_ref05_Low n [r7.1] r7.2) fun r8 =>
 (bd (flA [(0, 4), (4, 4)] [(.int .i64 0), (.slice ⟨none, 0, 0, false⟩), (.int .i64 0), (.slice ⟨none, 0, 0, false⟩), (.int .i64 0), (.slice ⟨none, 0, 0, false⟩), (.int .i64 0), (.slice ⟨none, 0, 0, false⟩)] [(0, r4.1), (1, r8.1)]) fun t88_9 =>
 (bd (stA 8 v2 t88_9 r8.2) fun H10 =>
 (bd (ldN 8 v2 H10) fun t11 =>
 (frzR (.tuple [t11, (.bool true)]) H10))))))))))))))))
theorem ref20_Centroid.p1_tot {v2 v4 v5 v6 : V} {H : Heap} {Q : V → Heap → Prop} (h : Tot (fun n => ref20_Centroid.p1_b @bnd n v2 v4 v5 v6 H) Q) : Tot (fun n => ref20_Centroid.p1 n v2 v4 v5 v6 H) Q := Tot.eq (fun n => bd_bnd (fun bd => ref20_Centroid.p1_b bd n v2 v4 v5 v6 H) (by kernel_rfl)) h
@[simp] noncomputable def ref20_Centroid_b (bd : B2) (n : Nat) (v0 : V) (H : Heap) : Option R :=
 (bd (f_ref20_Area n [v0] (H.push (.cells [(.int .i64 0), (.slice ⟨none, 0, 0, false⟩), (.int .i64 0), (.slice ⟨none, 0, 0, false⟩), (.int .i64 0), (.slice ⟨none, 0, 0, false⟩), (.int .i64 0), (.slice ⟨none, 0, 0, false⟩)] ty_ref09_Spot false))) fun r1 =>
 (bd (f_ref05_Long n [(.int .i64 0)] r1.2) fun r2 =>
 (bd (f_ref05_Long n [(.int .i64 0)] r2.2) fun r3 =>
 (bd (stA 4 (.ptr (some (r3.2.n, 0))) r1.1 (((r3.2.push (.cells [(.int .i64 0), (.slice ⟨none, 0, 0, false⟩), (.int .i64 0), (.slice ⟨none, 0, 0, false⟩)] ty_ref05_Rat false)).push (.cells [(.int .i64 0), (.slice ⟨none, 0, 0, false⟩), (.int .i64 0), (.slice ⟨none, 0, 0, false⟩)] ty_ref05_Rat false)).push (.cells [(.int .i64 0), (.slice ⟨none, 0, 0, false⟩), (.int .i64 0), (.slice ⟨none, 0, 0, false⟩)] ty_ref05_Rat false))) fun H4 =>
 (bd (stA 4 (.ptr (some ((r3.2.push (.cells [(.int .i64 0), (.slice ⟨none, 0, 0, false⟩), (.int .i64 0), (.slice ⟨none, 0, 0, false⟩)] ty_ref05_Rat false)).n, 0))) r2.1 H4) fun H5 =>
 (bd (stA 4 (.ptr (some (((r3.2.push (.cells [(.int .i64 0), (.slice ⟨none, 0, 0, false⟩), (.int .i64 0), (.slice ⟨none, 0, 0, false⟩)] ty_ref05_Rat false)).push (.cells [(.int .i64 0), (.slice ⟨none, 0, 0, false⟩), (.int .i64 0), (.slice ⟨none, 0, 0, false⟩)] ty_ref05_Rat false)).n, 0))) r3.1 H5) fun H6 =>
 (bd (faA 0 (.ptr (some (r3.2.n, 0)))) fun t13_7 =>
 (bd (faA 0 t13_7) fun t14_8 =>
 (bd (ld1 t14_8 H6) fun t15_9 =>
 (bd (arA .eql t15_9 (.int .i64 0)) fun t16_10 =>
 (bd (asB t16_10) fun b11 =>
 if b11 = true then
 (bd (f_ref09_Nought n [] H6) fun r12 =>
 (bd (stA 8 (.ptr (some (H.n, 0))) r12.1 r12.2) fun H13 =>
 (bd (ldN 8 (.ptr (some (H.n, 0))) H13) fun t14 =>
 (frzR (.tuple [t14, (.bool false)]) H13))))
 else
 (ref20_Centroid.l0 n n v0 (.ptr (some (H.n, 0))) (.ptr (some (r3.2.n, 0))) (.ptr (some ((r3.2.push (.cells [(.int .i64 0), (.slice ⟨none, 0, 0, false⟩), (.int .i64 0), (.slice ⟨none, 0, 0, false⟩)] ty_ref05_Rat false)).n, 0))) (.ptr (some (((r3.2.push (.cells [(.int .i64 0), (.slice ⟨none, 0, 0, false⟩), (.int .i64 0), (.slice ⟨none, 0, 0, false⟩)] ty_ref05_Rat false)).push (.cells [(.int .i64 0), (.slice ⟨none, 0, 0, false⟩), (.int .i64 0), (.slice ⟨none, 0, 0, false⟩)] ty_ref05_Rat false)).n, 0))) (.int .i64 1) H6))))))))))))
theorem ref20_Centroid_in (n : Nat) (a : List V) (H : Heap) : f_ref20_Centroid (n + 1) a H = pureA a H (fun a => E C n 14 [] (argsA 0 a) ⟨0, .nil⟩ (kR C 14)) := by unfold f_ref20_Centroid; kernel_rfl
theorem ref20_Centroid_tot {v0 : V} {H : Heap} {Q : V → Heap → Prop} (hf : List.all [v0] V.fro = true) (hg : V.frees [v0] = true) (h : Tot (fun n => ref20_Centroid_b @bnd n v0 E0) fun v _ => v.free = true ∧ Q v H) : Tot (fun n => f_ref20_Centroid n [v0] H) Q := Tot.pu (k := fun n a => E C n 14 [] (argsA 0 a) ⟨0, .nil⟩ (kR C 14)) hf hg (fun n => ref20_Centroid_in n _ _) (fun n => bd_bnd (fun bd => ref20_Centroid_b bd n v0 E0) (by kernel_rfl)) h
@[irreducible] noncomputable def ref20_Area.l0 (n m0 : Nat) (v0 v2 v3 v4 : V) (H : Heap) : Option R := Lp C n 18 [1, 1, 0, 1, 0, 0] m0 [(0, v0), (2, v2), (3, v3), (4, v4)] H (kB 0 (kC C n 18 [1, 1, 1] (kR C 18)))
@[simp] noncomputable def ref20_Area.l0_b (bd : B2) (n m0 : Nat) (v0 v2 v3 v4 : V) (H : Heap) : Option R :=
 (bd (arA .add v4 (.int .i64 1)) fun t7_1 =>
 (bd (lenSl v0) fun t9_2 =>
 (bd (arA .lss t7_1 t9_2) fun t10_3 =>
 (bd (asB t10_3) fun b4 =>
 if b4 = true then
 (bd (idxS 8 v0 (.int .i64 0)) fun t15_5 =>
 (bd (ldN 8 t15_5 (H.more 0)) fun t16_6 =>
 (bd (idxS 8 v0 v4) fun t19_7 =>
 (bd (ldN 8 t19_7 (H.more 0)) fun t20_8 =>
 (bd (arA .add v4 (.int .i64 1)) fun t23_9 =>
 (bd (idxS 8 v0 t23_9) fun t24_10 =>
 (bd (ldN 8 t24_10 (H.more 0)) fun t25_11 =>
 (bd (f_ref20_Tri n [t16_6, t20_8, t25_11] (H.more 0)) fun r12 =>
 (bd (ldN 4 v3 r12.2) fun t13_13 =>
 (bd (chk (ldN 4 v3 (H.more 0)) t13_13) fun _ =>
 (bd (f_ref05_Add n [t13_13, r12.1] r12.2) fun r14 =>
 (bd (f_ref05_Low n [r14.1] r14.2) fun r15 =>
 (bd (stA 4 v3 r15.1 r15.2) fun H16 =>
 (bd (arA .add v4 (.int .i64 1)) fun t12_17 =>
 (ref20_Area.l0 n m0 v0 v2 v3 t12_17 H16)))))))))))))))
 else
 (bd (ldN 4 v3 H) fun t29_18 =>
 (bd (stA 4 v2 t29_18 H) fun H19 =>
 (bd (ldN 4 v2 H19) fun t20 =>
 (frzR t20 H19))))))))
theorem ref20_Area.l0_tot {m0 : Nat → Nat} {v0 v2 v3 v4 : V} {H : Heap} {Q : V → Heap → Prop} (hb : Big m0) (h : ∀ m0', Big m0' → Tot (fun n => ref20_Area.l0_b @bnd n (m0' n) v0 v2 v3 v4 H) Q) : Tot (fun n => ref20_Area.l0 n (m0 n) v0 v2 v3 v4 H) Q :=
  Tot.loop (f := fun n k => ref20_Area.l0 n k v0 v2 v3 v4 H) (g := fun n k => ref20_Area.l0_b @bnd n k v0 v2 v3 v4 H) hb (fun n k => bd_bnd (fun bd => ref20_Area.l0_b bd n k v0 v2 v3 v4 H) (by kernel_rfl)) h
@[simp] noncomputable def ref20_Area_b (bd : B2) (n : Nat) (v0 : V) (H : Heap) : Option R :=
 (bd (f_ref05_Long n [(.int .i64 0)] (H.push (.cells [(.int .i64 0), (.slice ⟨none, 0, 0, false⟩), (.int .i64 0), (.slice ⟨none, 0, 0, false⟩)] ty_ref05_Rat false))) fun r1 =>
 (bd (stA 4 (.ptr (some (r1.2.n, 0))) r1.1 (r1.2.push (.cells [(.int .i64 0), (.slice ⟨none, 0, 0, false⟩), (.int .i64 0), (.slice ⟨none, 0, 0, false⟩)] ty_ref05_Rat false))) fun H2 =>
 (ref20_Area.l0 n n v0 (.ptr (some (H.n, 0))) (.ptr (some (r1.2.n, 0))) (.int .i64 1) H2)))
theorem ref20_Area_in (n : Nat) (a : List V) (H : Heap) : f_ref20_Area (n + 1) a H = pureA a H (fun a => E C n 18 [] (argsA 0 a) ⟨0, .nil⟩ (kR C 18)) := by unfold f_ref20_Area; kernel_rfl
theorem ref20_Area_tot {v0 : V} {H : Heap} {Q : V → Heap → Prop} (hf : List.all [v0] V.fro = true) (hg : V.frees [v0] = true) (h : Tot (fun n => ref20_Area_b @bnd n v0 E0) fun v _ => v.free = true ∧ Q v H) : Tot (fun n => f_ref20_Area n [v0] H) Q := Tot.pu (k := fun n a => E C n 18 [] (argsA 0 a) ⟨0, .nil⟩ (kR C 18)) hf hg (fun n => ref20_Area_in n _ _) (fun n => bd_bnd (fun bd => ref20_Area_b bd n v0 E0) (by kernel_rfl)) h
@[simp] noncomputable def ref05_Div_b (bd : B2) (n : Nat) (v0 v1 : V) (H : Heap) : Option R :=
 (bd (boxA ty_ref05_Rat v0) fun o1 =>
 (bd (boxA ty_ref05_Rat v1) fun o2 =>
 (bd (faA 0 (.ptr (some (H.n, 0)))) fun t5_3 =>
 (bd (ldN 2 t5_3 ((((H.push o1).push o2).push (.cells [(.int .i64 0), (.slice ⟨none, 0, 0, false⟩), (.int .i64 0), (.slice ⟨none, 0, 0, false⟩)] ty_ref05_Rat false)).more 0)) fun t6_4 =>
 (bd (faA 2 (.ptr (some ((H.push o1).n, 0)))) fun t7_5 =>
 (bd (ldN 2 t7_5 ((((H.push o1).push o2).push (.cells [(.int .i64 0), (.slice ⟨none, 0, 0, false⟩), (.int .i64 0), (.slice ⟨none, 0, 0, false⟩)] ty_ref05_Rat false)).more 0)) fun t8_6 =>
 (bd (f_ref04_Mul n [t6_4, t8_6] ((((H.push o1).push o2).push (.cells [(.int .i64 0), (.slice ⟨none, 0, 0, false⟩), (.int .i64 0), (.slice ⟨none, 0, 0, false⟩)] ty_ref05_Rat false)).more 0)) fun r7 =>
 (bd (faA 2 (.ptr (some (H.n, 0)))) fun t10_8 =>
 (bd (ldN 2 t10_8 r7.2) fun t11_9 =>
 (bd (chk (ldN 2 t10_8 ((((H.push o1).push o2).push (.cells [(.int .i64 0), (.slice ⟨none, 0, 0, false⟩), (.int .i64 0), (.slice ⟨none, 0, 0, false⟩)] ty_ref05_Rat false)).more 0)) t11_9) fun _ =>
 (bd (faA 0 (.ptr (some ((H.push o1).n, 0)))) fun t12_10 =>
 (bd (ldN 2 t12_10 r7.2) fun t13_11 =>
 (bd (chk (ldN 2 t12_10 ((((H.push o1).push o2).push (.cells [(.int .i64 0), (.slice ⟨none, 0, 0, false⟩), (.int .i64 0), (.slice ⟨none, 0, 0, false⟩)] ty_ref05_Rat false)).more 0)) t13_11) fun _ =>
 (bd (f_ref04_Mul n [t11_9, t13_11] r7.2) fun r12 =>
 (bd (f_ref05_Over n [r7.1, r12.1] r12.2) fun r13 =>
 (bd (stA 4 (.ptr (some (((H.push o1).push o2).n, 0))) r13.1 r13.2) fun H14 =>
 (bd (ldN 4 (.ptr (some (((H.push o1).push o2).n, 0))) H14) fun t15 =>
 (frzR t15 H14))))))))))))))))))
theorem ref05_Div_in (n : Nat) (a : List V) (H : Heap) : f_ref05_Div (n + 1) a H = pureA a H (fun a => E C n 22 [] (argsA 0 a) ⟨0, .nil⟩ (kR C 22)) := by unfold f_ref05_Div; kernel_rfl
theorem ref05_Div_tot {v0 v1 : V} {H : Heap} {Q : V → Heap → Prop} (hf : List.all [v0, v1] V.fro = true) (hg : V.frees [v0, v1] = true) (h : Tot (fun n => ref05_Div_b @bnd n v0 v1 E0) fun v _ => v.free = true ∧ Q v H) : Tot (fun n => f_ref05_Div n [v0, v1] H) Q := Tot.pu (k := fun n a => E C n 22 [] (argsA 0 a) ⟨0, .nil⟩ (kR C 22)) hf hg (fun n => ref05_Div_in n _ _) (fun n => bd_bnd (fun bd => ref05_Div_b bd n v0 v1 E0) (by kernel_rfl)) h
@[simp] noncomputable def ref09_Same_b (bd : B2) (n : Nat) (v0 v1 : V) (H : Heap) : Option R :=
 (bd (boxA ty_api_Spot v0) fun o1 =>
 (bd (boxA ty_ref09_Spot v1) fun o2 =>
 (bd (faA 0 (.ptr (some (H.n, 0)))) fun t5_3 =>
 (bd (ldN 3 t5_3 ((H.push o1).push o2)) fun t6_4 =>
 (bd (faA 0 (.ptr (some ((H.push o1).n, 0)))) fun t7_5 =>
 (bd (ldN 4 t7_5 ((H.push o1).push o2)) fun t8_6 =>
 (bd (f_ref05_Same n [t6_4, t8_6] ((H.push o1).push o2)) fun r7 =>
 (bd (asB r7.1) fun b8 =>
 if b8 = true then
 (bd (faA 3 (.ptr (some (H.n, 0)))) fun t11_9 =>
 (bd (ldN 3 t11_9 r7.2) fun t12_10 =>
 (bd (faA 4 (.ptr (some ((H.push o1).n, 0)))) fun t13_11 =>
 (bd (ldN 4 t13_11 r7.2) fun t14_12 =>
 (bd (f_ref05_Same n [t12_10, t14_12] r7.2) fun r13 =>
 (some (r13.1, r13.2)))))))
 else
 (some ((.bool false), r7.2))))))))))
theorem ref09_Same_in (n : Nat) (a : List V) (H : Heap) : f_ref09_Same (n + 1) a H = pureA a H (fun a => E C n 23 [] (argsA 0 a) ⟨0, .nil⟩ (kR C 23)) := by unfold f_ref09_Same; kernel_rfl
theorem ref09_Same_tot {v0 v1 : V} {H : Heap} {Q : V → Heap → Prop} (hf : List.all [v0, v1] V.fro = true) (hg : V.frees [v0, v1] = true) (h : Tot (fun n => ref09_Same_b @bnd n v0 v1 E0) fun v _ => v.free = true ∧ Q v H) : Tot (fun n => f_ref09_Same n [v0, v1] H) Q := Tot.pu (k := fun n a => E C n 23 [] (argsA 0 a) ⟨0, .nil⟩ (kR C 23)) hf hg (fun n => ref09_Same_in n _ _) (fun n => bd_bnd (fun bd => ref09_Same_b bd n v0 v1 E0) (by kernel_rfl)) h
@[simp] noncomputable def ref09_Nought_b (bd : B2) (n : Nat) (H : Heap) : Option R :=
 (bd (f_ref05_Long n [(.int .i64 0)] (H.push (.cells [(.int .i64 0), (.slice ⟨none, 0, 0, false⟩), (.int .i64 0), (.slice ⟨none, 0, 0, false⟩), (.int .i64 0), (.slice ⟨none, 0, 0, false⟩), (.int .i64 0), (.slice ⟨none, 0, 0, false⟩)] ty_ref09_Spot false))) fun r1 =>
 (bd (f_ref05_Long n [(.int .i64 0)] r1.2) fun r2 =>
 (bd (flA [(0, 4), (4, 4)] [(.int .i64 0), (.slice ⟨none, 0, 0, false⟩), (.int .i64 0), (.slice ⟨none, 0, 0, false⟩), (.int .i64 0), (.slice ⟨none, 0, 0, false⟩), (.int .i64 0), (.slice ⟨none, 0, 0, false⟩)] [(0, r1.1), (1, r2.1)]) fun t3_3 =>
 (bd (stA 8 (.ptr (some (H.n, 0))) t3_3 r2.2) fun H4 =>
 (bd (ldN 8 (.ptr (some (H.n, 0))) H4) fun t5 =>
 (frzR t5 H4))))))
theorem ref09_Nought_in (n : Nat) (a : List V) (H : Heap) : f_ref09_Nought (n + 1) a H = pureA a H (fun a => E C n 24 [] (argsA 0 a) ⟨0, .nil⟩ (kR C 24)) := by unfold f_ref09_Nought; kernel_rfl
theorem ref09_Nought_tot {H : Heap} {Q : V → Heap → Prop} (hf : List.all [] V.fro = true) (hg : V.frees [] = true) (h : Tot (fun n => ref09_Nought_b @bnd n E0) fun v _ => v.free = true ∧ Q v H) : Tot (fun n => f_ref09_Nought n [] H) Q := Tot.pu (k := fun n a => E C n 24 [] (argsA 0 a) ⟨0, .nil⟩ (kR C 24)) hf hg (fun n => ref09_Nought_in n _ _) (fun n => bd_bnd (fun bd => ref09_Nought_b bd n E0) (by kernel_rfl)) h
@[simp] noncomputable def ref04_Same_b (bd : B2) (n : Nat) (v0 v1 : V) (H : Heap) : Option R :=
 (bd (boxA ty_api_Int v0) fun o1 =>
 (bd (boxA ty_ref04_Int v1) fun o2 =>
 (bd (faA 1 (.ptr (some (H.n, 0)))) fun t5_3 =>
 (bd (ld1 t5_3 ((H.push o1).push o2)) fun t6_4 =>
 (bd (faA 1 (.ptr (some ((H.push o1).n, 0)))) fun t7_5 =>
 (bd (ld1 t7_5 ((H.push o1).push o2)) fun t8_6 =>
 (bd (f_ref03_Same n [t6_4, t8_6] ((H.push o1).push o2)) fun r7 =>
 (bd (asB r7.1) fun b8 =>
 if b8 = true then
 (bd (faA 0 (.ptr (some (H.n, 0)))) fun t11_9 =>
 (bd (ld1 t11_9 r7.2) fun t12_10 =>
 (bd (faA 0 (.ptr (some ((H.push o1).n, 0)))) fun t13_11 =>
 (bd (ld1 t13_11 r7.2) fun t14_12 =>
 (bd (arA .lss t14_12 (.int .i64 0)) fun t15_13 =>
 (bd (eqlA P ty_bool t12_10 t15_13) fun t16_14 =>
 (some (t16_14, r7.2))))))))
 else
 (some ((.bool false), r7.2))))))))))
theorem ref04_Same_in (n : Nat) (a : List V) (H : Heap) : f_ref04_Same (n + 1) a H = pureA a H (fun a => E C n 26 [] (argsA 0 a) ⟨0, .nil⟩ (kR C 26)) := by unfold f_ref04_Same; kernel_rfl
theorem ref04_Same_tot {v0 v1 : V} {H : Heap} {Q : V → Heap → Prop} (hf : List.all [v0, v1] V.fro = true) (hg : V.frees [v0, v1] = true) (h : Tot (fun n => ref04_Same_b @bnd n v0 v1 E0) fun v _ => v.free = true ∧ Q v H) : Tot (fun n => f_ref04_Same n [v0, v1] H) Q := Tot.pu (k := fun n a => E C n 26 [] (argsA 0 a) ⟨0, .nil⟩ (kR C 26)) hf hg (fun n => ref04_Same_in n _ _) (fun n => bd_bnd (fun bd => ref04_Same_b bd n v0 v1 E0) (by kernel_rfl)) h
@[irreducible] noncomputable def ref03_Same.l0 (n m0 : Nat) (v0 v5 v6 : V) (H : Heap) : Option R := Lp C n 27 [1, 1, 1, 0, 1, 0, 0] m0 [(0, v0), (5, v5), (6, v6)] H (kB 0 (kC C n 27 [1, 1, 1, 1] (kR C 27)))
@[simp] noncomputable def ref03_Same.l0_b (bd : B2) (n m0 : Nat) (v0 v5 v6 : V) (H : Heap) : Option R :=
 (bd (lenSl v0) fun t16_1 =>
 (bd (arA .lss v6 t16_1) fun t17_2 =>
 (bd (asB t17_2) fun b3 =>
 if b3 = true then
 (bd (idxS 1 v0 v6) fun t22_4 =>
 (bd (ld1 t22_4 (H.more 0)) fun t23_5 =>
 (bd (idxS 1 v5 v6) fun t26_6 =>
 (bd (ld1 t26_6 (H.more 0)) fun t27_7 =>
 (bd (arA .neq t23_5 t27_7) fun t28_8 =>
 (bd (asB t28_8) fun b9 =>
 if b9 = true then
 (some ((.bool false), (H.more 0)))
 else
 (bd (arA .add v6 (.int .i64 1)) fun t19_10 =>
 (ref03_Same.l0 n m0 v0 v5 t19_10 (H.more 0)))))))))
 else
 (some ((.bool true), H)))))
theorem ref03_Same.l0_tot {m0 : Nat → Nat} {v0 v5 v6 : V} {H : Heap} {Q : V → Heap → Prop} (hb : Big m0) (h : ∀ m0', Big m0' → Tot (fun n => ref03_Same.l0_b @bnd n (m0' n) v0 v5 v6 H) Q) : Tot (fun n => ref03_Same.l0 n (m0 n) v0 v5 v6 H) Q :=
  Tot.loop (f := fun n k => ref03_Same.l0 n k v0 v5 v6 H) (g := fun n k => ref03_Same.l0_b @bnd n k v0 v5 v6 H) hb (fun n k => bd_bnd (fun bd => ref03_Same.l0_b bd n k v0 v5 v6 H) (by kernel_rfl)) h
@[simp] noncomputable def ref03_Same_b (bd : B2) (n : Nat) (v0 v1 : V) (H : Heap) : Option R :=
 (bd (f_ref03_Nat n [v1] H) fun r1 =>
 (bd (lenSl v0) fun t10_2 =>
 (bd (lenSl r1.1) fun t12_3 =>
 (bd (arA .neq t10_2 t12_3) fun t13_4 =>
 (bd (asB t13_4) fun b5 =>
 if b5 = true then
 (some ((.bool false), r1.2))
 else
 (ref03_Same.l0 n n v0 r1.1 (.int .i64 0) r1.2))))))
theorem ref03_Same_in (n : Nat) (a : List V) (H : Heap) : f_ref03_Same (n + 1) a H = pureA a H (fun a => E C n 27 [] (argsA 0 a) ⟨0, .nil⟩ (kR C 27)) := by unfold f_ref03_Same; kernel_rfl
theorem ref03_Same_tot {v0 v1 : V} {H : Heap} {Q : V → Heap → Prop} (hf : List.all [v0, v1] V.fro = true) (hg : V.frees [v0, v1] = true) (h : Tot (fun n => ref03_Same_b @bnd n v0 v1 E0) fun v _ => v.free = true ∧ Q v H) : Tot (fun n => f_ref03_Same n [v0, v1] H) Q := Tot.pu (k := fun n a => E C n 27 [] (argsA 0 a) ⟨0, .nil⟩ (kR C 27)) hf hg (fun n => ref03_Same_in n _ _) (fun n => bd_bnd (fun bd => ref03_Same_b bd n v0 v1 E0) (by kernel_rfl)) h
@[irreducible] noncomputable def energy_moment.l0 (n m0 : Nat) (v0 v3 v4 v5 v13 v14 : V) (H : Heap) : Option R := Lp C n 28 [1, 1, 1, 0, 1, 0, 0] m0 [(0, v0), (3, v3), (4, v4), (5, v5), (13, v13), (14, v14)] H (kB 0 (kC C n 28 [1, 1, 1, 1] (kR C 28)))
@[simp] noncomputable def energy_moment.l0_b (bd : B2) (n m0 : Nat) (v0 v3 v4 v5 v13 v14 : V) (H : Heap) : Option R :=
 (bd (arA .lss v14 v13) fun t15_1 =>
 (bd (asB t15_1) fun b2 =>
 if b2 = true then
 (bd (idxS 6 v0 v14) fun t20_3 =>
 (bd (ldN 6 t20_3 (H.more 0)) fun t21_4 =>
 (bd (ldN 6 v3 (H.more 0)) fun t22_5 =>
 (bd (f_energy_seen n [t21_4, t22_5] (H.more 0)) fun r6 =>
 (bd (arA .add v14 (.int .i64 1)) fun t26_7 =>
 (bd (lenSl v0) fun t28_8 =>
 (bd (arA .rem t26_7 t28_8) fun t29_9 =>
 (bd (idxS 6 v0 t29_9) fun t30_10 =>
 (bd (ldN 6 t30_10 r6.2) fun t31_11 =>
 (bd (chk (ldN 6 t30_10 (H.more 0)) t31_11) fun _ =>
 (bd (ldN 6 v3 r6.2) fun t32_12 =>
 (bd (chk (ldN 6 v3 (H.more 0)) t32_12) fun _ =>
 (bd (f_energy_seen n [t31_11, t32_12] r6.2) fun r13 =>
 (bd (f_energy_part n [r6.1, r13.1] r13.2) fun r14 =>
 (bd (ldN 3 v5 r14.2) fun t17_15 =>
 (bd (chk (ldN 3 v5 r13.2) t17_15) fun _ =>
 (bd (chk (ldN 3 v5 r6.2) t17_15) fun _ =>
 (bd (chk (ldN 3 v5 (H.more 0)) t17_15) fun _ =>
 (bd (f_rat_Add n [t17_15, r14.1] r14.2) fun r16 =>
 (bd (stA 3 v5 r16.1 r16.2) fun H17 =>
 (bd (arA .add v14 (.int .i64 1)) fun t36_18 =>
 (energy_moment.l0 n m0 v0 v3 v4 v5 v13 t36_18 H17))))))))))))))))))))))
 else
 (bd (ldN 3 v5 H) fun t37_19 =>
 (bd (stA 3 v4 t37_19 H) fun H20 =>
 (bd (ldN 3 v4 H20) fun t21 =>
 (frzR t21 H20))))))
theorem energy_moment.l0_tot {m0 : Nat → Nat} {v0 v3 v4 v5 v13 v14 : V} {H : Heap} {Q : V → Heap → Prop} (hb : Big m0) (h : ∀ m0', Big m0' → Tot (fun n => energy_moment.l0_b @bnd n (m0' n) v0 v3 v4 v5 v13 v14 H) Q) : Tot (fun n => energy_moment.l0 n (m0 n) v0 v3 v4 v5 v13 v14 H) Q :=
  Tot.loop (f := fun n k => energy_moment.l0 n k v0 v3 v4 v5 v13 v14 H) (g := fun n k => energy_moment.l0_b @bnd n k v0 v3 v4 v5 v13 v14 H) hb (fun n k => bd_bnd (fun bd => energy_moment.l0_b bd n k v0 v3 v4 v5 v13 v14 H) (by kernel_rfl)) h
@[simp] noncomputable def energy_moment_b (bd : B2) (n : Nat) (v0 v1 : V) (H : Heap) : Option R :=
 (bd (boxA ty_api_Spot v1) fun o1 =>
 (bd (f_rat_Of n [(.int .i64 0)] ((H.push o1).push (.cells [(.bool false), (.slice ⟨none, 0, 0, false⟩), (.slice ⟨none, 0, 0, false⟩)] ty_api_Rat false))) fun r2 =>
 (bd (stA 3 (.ptr (some (r2.2.n, 0))) r2.1 (r2.2.push (.cells [(.bool false), (.slice ⟨none, 0, 0, false⟩), (.slice ⟨none, 0, 0, false⟩)] ty_api_Rat false))) fun H3 =>
 (bd (lenSl v0) fun t9_4 =>
 (bd (arA .lss t9_4 (.int .i64 3)) fun t10_5 =>
 (bd (asB t10_5) fun b6 =>
 if b6 = true then
 (bd (ldN 3 (.ptr (some (r2.2.n, 0))) H3) fun t11_7 =>
 (bd (stA 3 (.ptr (some ((H.push o1).n, 0))) t11_7 H3) fun H8 =>
 (bd (ldN 3 (.ptr (some ((H.push o1).n, 0))) H8) fun t9 =>
 (frzR t9 H8))))
 else
 (bd (lenSl v0) fun t13_10 =>
 (energy_moment.l0 n n v0 (.ptr (some (H.n, 0))) (.ptr (some ((H.push o1).n, 0))) (.ptr (some (r2.2.n, 0))) t13_10 (.int .i64 0) H3))))))))
theorem energy_moment_in (n : Nat) (a : List V) (H : Heap) : f_energy_moment (n + 1) a H = pureA a H (fun a => E C n 28 [] (argsA 0 a) ⟨0, .nil⟩ (kR C 28)) := by unfold f_energy_moment; kernel_rfl
theorem energy_moment_tot {v0 v1 : V} {H : Heap} {Q : V → Heap → Prop} (hf : List.all [v0, v1] V.fro = true) (hg : V.frees [v0, v1] = true) (h : Tot (fun n => energy_moment_b @bnd n v0 v1 E0) fun v _ => v.free = true ∧ Q v H) : Tot (fun n => f_energy_moment n [v0, v1] H) Q := Tot.pu (k := fun n a => E C n 28 [] (argsA 0 a) ⟨0, .nil⟩ (kR C 28)) hf hg (fun n => energy_moment_in n _ _) (fun n => bd_bnd (fun bd => energy_moment_b bd n v0 v1 E0) (by kernel_rfl)) h
@[simp] noncomputable def ref42_Tri_b (bd : B2) (n : Nat) (v0 v1 v2 : V) (H : Heap) : Option R :=
 (bd (boxA ty_ref09_Spot v0) fun o1 =>
 (bd (boxA ty_ref09_Spot v1) fun o2 =>
 (bd (boxA ty_ref09_Spot v2) fun o3 =>
 (bd (faA 0 (.ptr (some ((H.push o1).n, 0)))) fun t14_4 =>
 (bd (ldN 4 t14_4 (((((H.push o1).push o2).push o3).push (.cells [(.int .i64 0), (.slice ⟨none, 0, 0, false⟩), (.int .i64 0), (.slice ⟨none, 0, 0, false⟩)] ty_ref05_Rat false)).more 4)) fun t15_5 =>
 (bd (faA 0 (.ptr (some (H.n, 0)))) fun t16_6 =>
 (bd (ldN 4 t16_6 (((((H.push o1).push o2).push o3).push (.cells [(.int .i64 0), (.slice ⟨none, 0, 0, false⟩), (.int .i64 0), (.slice ⟨none, 0, 0, false⟩)] ty_ref05_Rat false)).more 4)) fun t17_7 =>
 (bd (f_ref05_Sub n [t15_5, t17_7] (((((H.push o1).push o2).push o3).push (.cells [(.int .i64 0), (.slice ⟨none, 0, 0, false⟩), (.int .i64 0), (.slice ⟨none, 0, 0, false⟩)] ty_ref05_Rat false)).more 4)) fun r8 =>
 (bd (faA 4 (.ptr (some ((H.push o1).n, 0)))) fun t19_9 =>
 (bd (ldN 4 t19_9 r8.2) fun t20_10 =>
 (bd (chk (ldN 4 t19_9 (((((H.push o1).push o2).push o3).push (.cells [(.int .i64 0), (.slice ⟨none, 0, 0, false⟩), (.int .i64 0), (.slice ⟨none, 0, 0, false⟩)] ty_ref05_Rat false)).more 4)) t20_10) fun _ =>
 (bd (faA 4 (.ptr (some (H.n, 0)))) fun t21_11 =>
 (bd (ldN 4 t21_11 r8.2) fun t22_12 =>
 (bd (chk (ldN 4 t21_11 (((((H.push o1).push o2).push o3).push (.cells [(.int .i64 0), (.slice ⟨none, 0, 0, false⟩), (.int .i64 0), (.slice ⟨none, 0, 0, false⟩)] ty_ref05_Rat false)).more 4)) t22_12) fun _ =>
 (bd (f_ref05_Sub n [t20_10, t22_12] r8.2) fun r13 =>
 (bd (faA 0 (.ptr (some (((H.push o1).push o2).n, 0)))) fun t24_14 =>
 (bd (ldN 4 t24_14 r13.2) fun t25_15 =>
 (bd (chk (ldN 4 t24_14 r8.2) t25_15) fun _ =>
 (bd (chk (ldN 4 t24_14 (((((H.push o1).push o2).push o3).push (.cells [(.int .i64 0), (.slice ⟨none, 0, 0, false⟩), (.int .i64 0), (.slice ⟨none, 0, 0, false⟩)] ty_ref05_Rat false)).more 4)) t25_15) fun _ =>
 (bd (faA 0 (.ptr (some (H.n, 0)))) fun t26_16 =>
 (bd (ldN 4 t26_16 r13.2) fun t27_17 =>
 (bd (chk (ldN 4 t26_16 r8.2) t27_17) fun _ =>
 (bd (chk (ldN 4 t26_16 (((((H.push o1).push o2).push o3).push (.cells [(.int .i64 0), (.slice ⟨none, 0, 0, false⟩), (.int .i64 0), (.slice ⟨none, 0, 0, false⟩)] ty_ref05_Rat false)).more 4)) t27_17) fun _ =>
 (bd (f_ref05_Sub n [t25_15, t27_17] r13.2) fun r18 =>
 (bd (faA 4 (.ptr (some (((H.push o1).push o2).n, 0)))) fun t29_19 =>
 (bd (ldN 4 t29_19 r18.2) fun t30_20 =>
 (bd (chk (ldN 4 t29_19 r13.2) t30_20) fun _ =>
 (bd (chk (ldN 4 t29_19 r8.2) t30_20) fun _ =>
 (bd (chk (ldN 4 t29_19 (((((H.push o1).push o2).push o3).push (.cells [(.int .i64 0), (.slice ⟨none, 0, 0, false⟩), (.int .i64 0), (.slice ⟨none, 0, 0, false⟩)] ty_ref05_Rat false)).more 4)) t30_20) fun _ =>
 (bd (faA 4 (.ptr (some (H.n, 0)))) fun t31_21 =>
 (bd (ldN 4 t31_21 r18.2) fun t32_22 =>
 (bd (chk (ldN 4 t31_21 r13.2) t32_22) fun _ =>
 (bd (chk (ldN 4 t31_21 r8.2) t32_22) fun _ =>
 (bd (chk (ldN 4 t31_21 (((((H.push o1).push o2).push o3).push (.cells [(.int .i64 0), (.slice ⟨none, 0, 0, false⟩), (.int .i64 0), (.slice ⟨none, 0, 0, false⟩)] ty_ref05_Rat false)).more 4)) t32_22) fun _ =>
 (bd (f_ref05_Sub n [t30_20, t32_22] r18.2) fun r23 =>
 (bd (stA 4 (.ptr (some ((((((H.push o1).push o2).push o3).push (.cells [(.int .i64 0), (.slice ⟨none, 0, 0, false⟩), (.int .i64 0), (.slice ⟨none, 0, 0, false⟩)] ty_ref05_Rat false)).n + 0), 0))) r8.1 ((((r23.2.set (((((H.push o1).push o2).push o3).push (.cells [(.int .i64 0), (.slice ⟨none, 0, 0, false⟩), (.int .i64 0), (.slice ⟨none, 0, 0, false⟩)] ty_ref05_Rat false)).n + 0) (.cells [(.int .i64 0), (.slice ⟨none, 0, 0, false⟩), (.int .i64 0), (.slice ⟨none, 0, 0, false⟩)] ty_ref05_Rat false)).set (((((H.push o1).push o2).push o3).push (.cells [(.int .i64 0), (.slice ⟨none, 0, 0, false⟩), (.int .i64 0), (.slice ⟨none, 0, 0, false⟩)] ty_ref05_Rat false)).n + 1) (.cells [(.int .i64 0), (.slice ⟨none, 0, 0, false⟩), (.int .i64 0), (.slice ⟨none, 0, 0, false⟩)] ty_ref05_Rat false)).set (((((H.push o1).push o2).push o3).push (.cells [(.int .i64 0), (.slice ⟨none, 0, 0, false⟩), (.int .i64 0), (.slice ⟨none, 0, 0, false⟩)] ty_ref05_Rat false)).n + 2) (.cells [(.int .i64 0), (.slice ⟨none, 0, 0, false⟩), (.int .i64 0), (.slice ⟨none, 0, 0, false⟩)] ty_ref05_Rat false)).set (((((H.push o1).push o2).push o3).push (.cells [(.int .i64 0), (.slice ⟨none, 0, 0, false⟩), (.int .i64 0), (.slice ⟨none, 0, 0, false⟩)] ty_ref05_Rat false)).n + 3) (.cells [(.int .i64 0), (.slice ⟨none, 0, 0, false⟩), (.int .i64 0), (.slice ⟨none, 0, 0, false⟩)] ty_ref05_Rat false))) fun H24 =>
 (bd (stA 4 (.ptr (some ((((((H.push o1).push o2).push o3).push (.cells [(.int .i64 0), (.slice ⟨none, 0, 0, false⟩), (.int .i64 0), (.slice ⟨none, 0, 0, false⟩)] ty_ref05_Rat false)).n + 1), 0))) r13.1 H24) fun H25 =>
 (bd (stA 4 (.ptr (some ((((((H.push o1).push o2).push o3).push (.cells [(.int .i64 0), (.slice ⟨none, 0, 0, false⟩), (.int .i64 0), (.slice ⟨none, 0, 0, false⟩)] ty_ref05_Rat false)).n + 2), 0))) r18.1 H25) fun H26 =>
 (bd (stA 4 (.ptr (some ((((((H.push o1).push o2).push o3).push (.cells [(.int .i64 0), (.slice ⟨none, 0, 0, false⟩), (.int .i64 0), (.slice ⟨none, 0, 0, false⟩)] ty_ref05_Rat false)).n + 3), 0))) r23.1 H26) fun H27 =>
 (bd (ldN 4 (.ptr (some ((((((H.push o1).push o2).push o3).push (.cells [(.int .i64 0), (.slice ⟨none, 0, 0, false⟩), (.int .i64 0), (.slice ⟨none, 0, 0, false⟩)] ty_ref05_Rat false)).n + 0), 0))) (H27.more 1)) fun t34_28 =>
 (bd (ldN 4 (.ptr (some ((((((H.push o1).push o2).push o3).push (.cells [(.int .i64 0), (.slice ⟨none, 0, 0, false⟩), (.int .i64 0), (.slice ⟨none, 0, 0, false⟩)] ty_ref05_Rat false)).n + 0), 0))) (H27.more 1)) fun t35_29 =>
 (bd (f_ref05_Mul n [t34_28, t35_29] (H27.more 1)) fun r30 =>
 (bd (ldN 4 (.ptr (some ((((((H.push o1).push o2).push o3).push (.cells [(.int .i64 0), (.slice ⟨none, 0, 0, false⟩), (.int .i64 0), (.slice ⟨none, 0, 0, false⟩)] ty_ref05_Rat false)).n + 1), 0))) r30.2) fun t37_31 =>
 (bd (chk (ldN 4 (.ptr (some ((((((H.push o1).push o2).push o3).push (.cells [(.int .i64 0), (.slice ⟨none, 0, 0, false⟩), (.int .i64 0), (.slice ⟨none, 0, 0, false⟩)] ty_ref05_Rat false)).n + 1), 0))) (H27.more 1)) t37_31) fun _ =>
 (bd (ldN 4 (.ptr (some ((((((H.push o1).push o2).push o3).push (.cells [(.int .i64 0), (.slice ⟨none, 0, 0, false⟩), (.int .i64 0), (.slice ⟨none, 0, 0, false⟩)] ty_ref05_Rat false)).n + 1), 0))) r30.2) fun t38_32 =>
 (bd (chk (ldN 4 (.ptr (some ((((((H.push o1).push o2).push o3).push (.cells [(.int .i64 0), (.slice ⟨none, 0, 0, false⟩), (.int .i64 0), (.slice ⟨none, 0, 0, false⟩)] ty_ref05_Rat false)).n + 1), 0))) (H27.more 1)) t38_32) fun _ =>
 (bd (f_ref05_Mul n [t37_31, t38_32] r30.2) fun r33 =>
 (bd (f_ref05_Add n [r30.1, r33.1] r33.2) fun r34 =>
 (bd (stA 4 (.ptr (some ((H27.n + 0), 0))) r34.1 (r34.2.set (H27.n + 0) (.cells [(.int .i64 0), (.slice ⟨none, 0, 0, false⟩), (.int .i64 0), (.slice ⟨none, 0, 0, false⟩)] ty_ref05_Rat false))) fun H35 =>
 (bd (ldN 4 (.ptr (some ((((((H.push o1).push o2).push o3).push (.cells [(.int .i64 0), (.slice ⟨none, 0, 0, false⟩), (.int .i64 0), (.slice ⟨none, 0, 0, false⟩)] ty_ref05_Rat false)).n + 2), 0))) (H35.more 1)) fun t41_36 =>
 (bd (ldN 4 (.ptr (some ((((((H.push o1).push o2).push o3).push (.cells [(.int .i64 0), (.slice ⟨none, 0, 0, false⟩), (.int .i64 0), (.slice ⟨none, 0, 0, false⟩)] ty_ref05_Rat false)).n + 2), 0))) (H35.more 1)) fun t42_37 =>
 (bd (f_ref05_Mul n [t41_36, t42_37] (H35.more 1)) fun r38 =>
 (bd (ldN 4 (.ptr (some ((((((H.push o1).push o2).push o3).push (.cells [(.int .i64 0), (.slice ⟨none, 0, 0, false⟩), (.int .i64 0), (.slice ⟨none, 0, 0, false⟩)] ty_ref05_Rat false)).n + 3), 0))) r38.2) fun t44_39 =>
 (bd (chk (ldN 4 (.ptr (some ((((((H.push o1).push o2).push o3).push (.cells [(.int .i64 0), (.slice ⟨none, 0, 0, false⟩), (.int .i64 0), (.slice ⟨none, 0, 0, false⟩)] ty_ref05_Rat false)).n + 3), 0))) (H35.more 1)) t44_39) fun _ =>
 (bd (ldN 4 (.ptr (some ((((((H.push o1).push o2).push o3).push (.cells [(.int .i64 0), (.slice ⟨none, 0, 0, false⟩), (.int .i64 0), (.slice ⟨none, 0, 0, false⟩)] ty_ref05_Rat false)).n + 3), 0))) r38.2) fun t45_40 =>
 (bd (chk (ldN 4 (.ptr (some ((((((H.push o1).push o2).push o3).push (.cells [(.int .i64 0), (.slice ⟨none, 0, 0, false⟩), (.int .i64 0), (.slice ⟨none, 0, 0, false⟩)] ty_ref05_Rat false)).n + 3), 0))) (H35.more 1)) t45_40) fun _ =>
 (bd (f_ref05_Mul n [t44_39, t45_40] r38.2) fun r41 =>
 (bd (f_ref05_Add n [r38.1, r41.1] r41.2) fun r42 =>
 (bd (stA 4 (.ptr (some ((H35.n + 0), 0))) r42.1 (r42.2.set (H35.n + 0) (.cells [(.int .i64 0), (.slice ⟨none, 0, 0, false⟩), (.int .i64 0), (.slice ⟨none, 0, 0, false⟩)] ty_ref05_Rat false))) fun H43 =>
 (bd (ldN 4 (.ptr (some ((((((H.push o1).push o2).push o3).push (.cells [(.int .i64 0), (.slice ⟨none, 0, 0, false⟩), (.int .i64 0), (.slice ⟨none, 0, 0, false⟩)] ty_ref05_Rat false)).n + 0), 0))) (H43.more 1)) fun t48_44 =>
 (bd (ldN 4 (.ptr (some ((((((H.push o1).push o2).push o3).push (.cells [(.int .i64 0), (.slice ⟨none, 0, 0, false⟩), (.int .i64 0), (.slice ⟨none, 0, 0, false⟩)] ty_ref05_Rat false)).n + 2), 0))) (H43.more 1)) fun t49_45 =>
 (bd (f_ref05_Mul n [t48_44, t49_45] (H43.more 1)) fun r46 =>
 (bd (ldN 4 (.ptr (some ((((((H.push o1).push o2).push o3).push (.cells [(.int .i64 0), (.slice ⟨none, 0, 0, false⟩), (.int .i64 0), (.slice ⟨none, 0, 0, false⟩)] ty_ref05_Rat false)).n + 1), 0))) r46.2) fun t51_47 =>
 (bd (chk (ldN 4 (.ptr (some ((((((H.push o1).push o2).push o3).push (.cells [(.int .i64 0), (.slice ⟨none, 0, 0, false⟩), (.int .i64 0), (.slice ⟨none, 0, 0, false⟩)] ty_ref05_Rat false)).n + 1), 0))) (H43.more 1)) t51_47) fun _ =>
 (bd (ldN 4 (.ptr (some ((((((H.push o1).push o2).push o3).push (.cells [(.int .i64 0), (.slice ⟨none, 0, 0, false⟩), (.int .i64 0), (.slice ⟨none, 0, 0, false⟩)] ty_ref05_Rat false)).n + 3), 0))) r46.2) fun t52_48 =>
 (bd (chk (ldN 4 (.ptr (some ((((((H.push o1).push o2).push o3).push (.cells [(.int .i64 0), (.slice ⟨none, 0, 0, false⟩), (.int .i64 0), (.slice ⟨none, 0, 0, false⟩)] ty_ref05_Rat false)).n + 3), 0))) (H43.more 1)) t52_48) fun _ =>
 (bd (f_ref05_Mul n [t51_47, t52_48] r46.2) fun r49 =>
 (bd (f_ref05_Add n [r46.1, r49.1] r49.2) fun r50 =>
 (bd (stA 4 (.ptr (some ((H43.n + 0), 0))) r50.1 (r50.2.set (H43.n + 0) (.cells [(.int .i64 0), (.slice ⟨none, 0, 0, false⟩), (.int .i64 0), (.slice ⟨none, 0, 0, false⟩)] ty_ref05_Rat false))) fun H51 =>
 (bd (ldN 8 (.ptr (some (H.n, 0))) (H51.more 0)) fun t55_52 =>
 (bd (ldN 8 (.ptr (some ((H.push o1).n, 0))) (H51.more 0)) fun t56_53 =>
 (bd (ldN 8 (.ptr (some (((H.push o1).push o2).n, 0))) (H51.more 0)) fun t57_54 =>
 (bd (f_ref20_Tri n [t55_52, t56_53, t57_54] (H51.more 0)) fun r55 =>
 (bd (ldN 4 (.ptr (some ((H27.n + 0), 0))) r55.2) fun t59_56 =>
 (bd (chk (ldN 4 (.ptr (some ((H27.n + 0), 0))) (H51.more 0)) t59_56) fun _ =>
 (bd (f_ref05_Low n [t59_56] r55.2) fun r57 =>
 (bd (ldN 4 (.ptr (some ((H35.n + 0), 0))) r57.2) fun t61_58 =>
 (bd (chk (ldN 4 (.ptr (some ((H35.n + 0), 0))) r55.2) t61_58) fun _ =>
 (bd (chk (ldN 4 (.ptr (some ((H35.n + 0), 0))) (H51.more 0)) t61_58) fun _ =>
 (bd (f_ref05_Low n [t61_58] r57.2) fun r59 =>
 (bd (f_ref05_Add n [r57.1, r59.1] r59.2) fun r60 =>
 (bd (ldN 4 (.ptr (some ((H43.n + 0), 0))) r60.2) fun t64_61 =>
 (bd (chk (ldN 4 (.ptr (some ((H43.n + 0), 0))) r59.2) t64_61) fun _ =>
 (bd (chk (ldN 4 (.ptr (some ((H43.n + 0), 0))) r57.2) t64_61) fun _ =>
 (bd (chk (ldN 4 (.ptr (some ((H43.n + 0), 0))) r55.2) t64_61) fun _ =>
 (bd (chk (ldN 4 (.ptr (some ((H43.n + 0), 0))) (H51.more 0)) t64_61) fun _ =>
 (bd (f_ref05_Low n [t64_61] r60.2) fun r62 =>
 (bd (f_ref05_Add n [r60.1, r62.1] r62.2) fun r63 =>
 (bd (f_ref05_Low n [r63.1] r63.2) fun r64 =>
 (bd (f_ref05_Mul n [r55.1, r64.1] r64.2) fun r65 =>
 (bd (f_ref05_Low n [r65.1] r65.2) fun r66 =>
 (bd (stA 4 (.ptr (some ((((H.push o1).push o2).push o3).n, 0))) r66.1 r66.2) fun H67 =>
 (bd (ldN 4 (.ptr (some ((((H.push o1).push o2).push o3).n, 0))) H67) fun t68 =>
 (frzR t68 H67))))))))))))))))))))))))))))))))))))))))))))))))))))))))))))))))))))))))))))))))))))))))))))))
theorem ref42_Tri_in (n : Nat) (a : List V) (H : Heap) : f_ref42_Tri (n + 1) a H = pureA a H (fun a => E C n 29 [] (argsA 0 a) ⟨0, .nil⟩ (kR C 29)) := by unfold f_ref42_Tri; kernel_rfl
theorem ref42_Tri_tot {v0 v1 v2 : V} {H : Heap} {Q : V → Heap → Prop} (hf : List.all [v0, v1, v2] V.fro = true) (hg : V.frees [v0, v1, v2] = true) (h : Tot (fun n => ref42_Tri_b @bnd n v0 v1 v2 E0) fun v _ => v.free = true ∧ Q v H) : Tot (fun n => f_ref42_Tri n [v0, v1, v2] H) Q := Tot.pu (k := fun n a => E C n 29 [] (argsA 0 a) ⟨0, .nil⟩ (kR C 29)) hf hg (fun n => ref42_Tri_in n _ _) (fun n => bd_bnd (fun bd => ref42_Tri_b bd n v0 v1 v2 E0) (by kernel_rfl)) h
end Go.AM.N
end
section
set_option linter.unusedVariables false
set_option linter.unusedSimpArgs false
set_option maxRecDepth 1000000
set_option linter.unusedVariables false
namespace Go.AM.N
@[simp] noncomputable def ref20_Tri_b (bd : B2) (n : Nat) (v0 v1 v2 : V) (H : Heap) : Option R :=
 (bd (boxA ty_ref09_Spot v0) fun o1 =>
 (bd (boxA ty_ref09_Spot v1) fun o2 =>
 (bd (boxA ty_ref09_Spot v2) fun o3 =>
 (bd (faA 0 (.ptr (some ((H.push o1).n, 0)))) fun t9_4 =>
 (bd (ldN 4 t9_4 (((((H.push o1).push o2).push o3).push (.cells [(.int .i64 0), (.slice ⟨none, 0, 0, false⟩), (.int .i64 0), (.slice ⟨none, 0, 0, false⟩)] ty_ref05_Rat false)).more 2)) fun t10_5 =>
 (bd (faA 0 (.ptr (some (H.n, 0)))) fun t11_6 =>
 (bd (ldN 4 t11_6 (((((H.push o1).push o2).push o3).push (.cells [(.int .i64 0), (.slice ⟨none, 0, 0, false⟩), (.int .i64 0), (.slice ⟨none, 0, 0, false⟩)] ty_ref05_Rat false)).more 2)) fun t12_7 =>
 (bd (f_ref05_Sub n [t10_5, t12_7] (((((H.push o1).push o2).push o3).push (.cells [(.int .i64 0), (.slice ⟨none, 0, 0, false⟩), (.int .i64 0), (.slice ⟨none, 0, 0, false⟩)] ty_ref05_Rat false)).more 2)) fun r8 =>
 (bd (faA 4 (.ptr (some (((H.push o1).push o2).n, 0)))) fun t14_9 =>
 (bd (ldN 4 t14_9 r8.2) fun t15_10 =>
 (bd (chk (ldN 4 t14_9 (((((H.push o1).push o2).push o3).push (.cells [(.int .i64 0), (.slice ⟨none, 0, 0, false⟩), (.int .i64 0), (.slice ⟨none, 0, 0, false⟩)] ty_ref05_Rat false)).more 2)) t15_10) fun _ =>
 (bd (faA 4 (.ptr (some (H.n, 0)))) fun t16_11 =>
 (bd (ldN 4 t16_11 r8.2) fun t17_12 =>
 (bd (chk (ldN 4 t16_11 (((((H.push o1).push o2).push o3).push (.cells [(.int .i64 0), (.slice ⟨none, 0, 0, false⟩), (.int .i64 0), (.slice ⟨none, 0, 0, false⟩)] ty_ref05_Rat false)).more 2)) t17_12) fun _ =>
 (bd (f_ref05_Sub n [t15_10, t17_12] r8.2) fun r13 =>
 (bd (f_ref05_Mul n [r8.1, r13.1] r13.2) fun r14 =>
 (bd (faA 4 (.ptr (some ((H.push o1).n, 0)))) fun t20_15 =>
 (bd (ldN 4 t20_15 r14.2) fun t21_16 =>
 (bd (chk (ldN 4 t20_15 r13.2) t21_16) fun _ =>
 (bd (chk (ldN 4 t20_15 r8.2) t21_16) fun _ =>
 (bd (chk (ldN 4 t20_15 (((((H.push o1).push o2).push o3).push (.cells [(.int .i64 0), (.slice ⟨none, 0, 0, false⟩), (.int .i64 0), (.slice ⟨none, 0, 0, false⟩)] ty_ref05_Rat false)).more 2)) t21_16) fun _ =>
 (bd (faA 4 (.ptr (some (H.n, 0)))) fun t22_17 =>
 (bd (ldN 4 t22_17 r14.2) fun t23_18 =>
 (bd (chk (ldN 4 t22_17 r13.2) t23_18) fun _ =>
 (bd (chk (ldN 4 t22_17 r8.2) t23_18) fun _ =>
 (bd (chk (ldN 4 t22_17 (((((H.push o1).push o2).push o3).push (.cells [(.int .i64 0), (.slice ⟨none, 0, 0, false⟩), (.int .i64 0), (.slice ⟨none, 0, 0, false⟩)] ty_ref05_Rat false)).more 2)) t23_18) fun _ =>
 (bd (f_ref05_Sub n [t21_16, t23_18] r14.2) fun r19 =>
 (bd (faA 0 (.ptr (some (((H.push o1).push o2).n, 0)))) fun t25_20 =>
 (bd (ldN 4 t25_20 r19.2) fun t26_21 =>
 (bd (chk (ldN 4 t25_20 r14.2) t26_21) fun _ =>
 (bd (chk (ldN 4 t25_20 r13.2) t26_21) fun _ =>
 (bd (chk (ldN 4 t25_20 r8.2) t26_21) fun _ =>
 (bd (chk (ldN 4 t25_20 (((((H.push o1).push o2).push o3).push (.cells [(.int .i64 0), (.slice ⟨none, 0, 0, false⟩), (.int .i64 0), (.slice ⟨none, 0, 0, false⟩)] ty_ref05_Rat false)).more 2)) t26_21) fun _ =>
 (bd (faA 0 (.ptr (some (H.n, 0)))) fun t27_22 =>
 (bd (ldN 4 t27_22 r19.2) fun t28_23 =>
 (bd (chk (ldN 4 t27_22 r14.2) t28_23) fun _ =>
 (bd (chk (ldN 4 t27_22 r13.2) t28_23) fun _ =>
 (bd (chk (ldN 4 t27_22 r8.2) t28_23) fun _ =>
 (bd (chk (ldN 4 t27_22 (((((H.push o1).push o2).push o3).push (.cells [(.int .i64 0), (.slice ⟨none, 0, 0, false⟩), (.int .i64 0), (.slice ⟨none, 0, 0, false⟩)] ty_ref05_Rat false)).more 2)) t28_23) fun _ =>
 (bd (f_ref05_Sub n [t26_21, t28_23] r19.2) fun r24 =>
 (bd (f_ref05_Mul n [r19.1, r24.1] r24.2) fun r25 =>
 (bd (stA 4 (.ptr (some ((((((H.push o1).push o2).push o3).push (.cells [(.int .i64 0), (.slice ⟨none, 0, 0, false⟩), (.int .i64 0), (.slice ⟨none, 0, 0, false⟩)] ty_ref05_Rat false)).n + 0), 0))) r14.1 ((r25.2.set (((((H.push o1).push o2).push o3).push (.cells [(.int .i64 0), (.slice ⟨none, 0, 0, false⟩), (.int .i64 0), (.slice ⟨none, 0, 0, false⟩)] ty_ref05_Rat false)).n + 0) (.cells [(.int .i64 0), (.slice ⟨none, 0, 0, false⟩), (.int .i64 0), (.slice ⟨none, 0, 0, false⟩)] ty_ref05_Rat false)).set (((((H.push o1).push o2).push o3).push (.cells [(.int .i64 0), (.slice ⟨none, 0, 0, false⟩), (.int .i64 0), (.slice ⟨none, 0, 0, false⟩)] ty_ref05_Rat false)).n + 1) (.cells [(.int .i64 0), (.slice ⟨none, 0, 0, false⟩), (.int .i64 0), (.slice ⟨none, 0, 0, false⟩)] ty_ref05_Rat false))) fun H26 =>
 (bd (stA 4 (.ptr (some ((((((H.push o1).push o2).push o3).push (.cells [(.int .i64 0), (.slice ⟨none, 0, 0, false⟩), (.int .i64 0), (.slice ⟨none, 0, 0, false⟩)] ty_ref05_Rat false)).n + 1), 0))) r25.1 H26) fun H27 =>
 (bd (ldN 4 (.ptr (some ((((((H.push o1).push o2).push o3).push (.cells [(.int .i64 0), (.slice ⟨none, 0, 0, false⟩), (.int .i64 0), (.slice ⟨none, 0, 0, false⟩)] ty_ref05_Rat false)).n + 0), 0))) H27) fun t31_28 =>
 (bd (ldN 4 (.ptr (some ((((((H.push o1).push o2).push o3).push (.cells [(.int .i64 0), (.slice ⟨none, 0, 0, false⟩), (.int .i64 0), (.slice ⟨none, 0, 0, false⟩)] ty_ref05_Rat false)).n + 1), 0))) H27) fun t32_29 =>
 (bd (f_ref05_Sub n [t31_28, t32_29] H27) fun r30 =>
 (bd (f_ref05_Low n [r30.1] r30.2) fun r31 =>
 (bd (stA 4 (.ptr (some ((((H.push o1).push o2).push o3).n, 0))) r31.1 r31.2) fun H32 =>
 (bd (ldN 4 (.ptr (some ((((H.push o1).push o2).push o3).n, 0))) H32) fun t33 =>
 (frzR t33 H32))))))))))))))))))))))))))))))))))))))))))))))))))
theorem ref20_Tri_in (n : Nat) (a : List V) (H : Heap) : f_ref20_Tri (n + 1) a H = pureA a H (fun a => E C n 33 [] (argsA 0 a) ⟨0, .nil⟩ (kR C 33)) := by unfold f_ref20_Tri; kernel_rfl
theorem ref20_Tri_tot {v0 v1 v2 : V} {H : Heap} {Q : V → Heap → Prop} (hf : List.all [v0, v1, v2] V.fro = true) (hg : V.frees [v0, v1, v2] = true) (h : Tot (fun n => ref20_Tri_b @bnd n v0 v1 v2 E0) fun v _ => v.free = true ∧ Q v H) : Tot (fun n => f_ref20_Tri n [v0, v1, v2] H) Q := Tot.pu (k := fun n a => E C n 33 [] (argsA 0 a) ⟨0, .nil⟩ (kR C 33)) hf hg (fun n => ref20_Tri_in n _ _) (fun n => bd_bnd (fun bd => ref20_Tri_b bd n v0 v1 v2 E0) (by kernel_rfl)) h
@[simp] noncomputable def ref20_mean_b (bd : B2) (n : Nat) (v0 v1 v2 : V) (H : Heap) : Option R :=
 (bd (boxA ty_ref05_Rat v0) fun o1 =>
 (bd (boxA ty_ref05_Rat v1) fun o2 =>
 (bd (boxA ty_ref05_Rat v2) fun o3 =>
 (bd (ldN 4 (.ptr (some (H.n, 0))) (((((H.push o1).push o2).push o3).push (.cells [(.int .i64 0), (.slice ⟨none, 0, 0, false⟩), (.int .i64 0), (.slice ⟨none, 0, 0, false⟩)] ty_ref05_Rat false)).more 0)) fun t7_4 =>
 (bd (ldN 4 (.ptr (some ((H.push o1).n, 0))) (((((H.push o1).push o2).push o3).push (.cells [(.int .i64 0), (.slice ⟨none, 0, 0, false⟩), (.int .i64 0), (.slice ⟨none, 0, 0, false⟩)] ty_ref05_Rat false)).more 0)) fun t8_5 =>
 (bd (f_ref05_Add n [t7_4, t8_5] (((((H.push o1).push o2).push o3).push (.cells [(.int .i64 0), (.slice ⟨none, 0, 0, false⟩), (.int .i64 0), (.slice ⟨none, 0, 0, false⟩)] ty_ref05_Rat false)).more 0)) fun r6 =>
 (bd (ldN 4 (.ptr (some (((H.push o1).push o2).n, 0))) r6.2) fun t10_7 =>
 (bd (chk (ldN 4 (.ptr (some (((H.push o1).push o2).n, 0))) (((((H.push o1).push o2).push o3).push (.cells [(.int .i64 0), (.slice ⟨none, 0, 0, false⟩), (.int .i64 0), (.slice ⟨none, 0, 0, false⟩)] ty_ref05_Rat false)).more 0)) t10_7) fun _ =>
 (bd (f_ref05_Add n [r6.1, t10_7] r6.2) fun r8 =>
 (bd (f_ref05_Low n [r8.1] r8.2) fun r9 =>
 (bd (f_ref04_Long n [(.int .i64 1)] r9.2) fun r10 =>
 (bd (f_ref04_Long n [(.int .i64 3)] r10.2) fun r11 =>
 (bd (flA [(0, 2), (2, 2)] [(.int .i64 0), (.slice ⟨none, 0, 0, false⟩), (.int .i64 0), (.slice ⟨none, 0, 0, false⟩)] [(0, r10.1), (1, r11.1)]) fun t15_12 =>
 (bd (f_ref05_Mul n [r9.1, t15_12] r11.2) fun r13 =>
 (bd (stA 4 (.ptr (some ((((H.push o1).push o2).push o3).n, 0))) r13.1 r13.2) fun H14 =>
 (bd (ldN 4 (.ptr (some ((((H.push o1).push o2).push o3).n, 0))) H14) fun t15 =>
 (frzR t15 H14)))))))))))))))))
theorem ref20_mean_in (n : Nat) (a : List V) (H : Heap) : f_ref20_mean (n + 1) a H = pureA a H (fun a => E C n 34 [] (argsA 0 a) ⟨0, .nil⟩ (kR C 34)) := by unfold f_ref20_mean; kernel_rfl
theorem ref20_mean_tot {v0 v1 v2 : V} {H : Heap} {Q : V → Heap → Prop} (hf : List.all [v0, v1, v2] V.fro = true) (hg : V.frees [v0, v1, v2] = true) (h : Tot (fun n => ref20_mean_b @bnd n v0 v1 v2 E0) fun v _ => v.free = true ∧ Q v H) : Tot (fun n => f_ref20_mean n [v0, v1, v2] H) Q := Tot.pu (k := fun n a => E C n 34 [] (argsA 0 a) ⟨0, .nil⟩ (kR C 34)) hf hg (fun n => ref20_mean_in n _ _) (fun n => bd_bnd (fun bd => ref20_mean_b bd n v0 v1 v2 E0) (by kernel_rfl)) h
@[simp] noncomputable def ref05_Over_b (bd : B2) (n : Nat) (v0 v1 : V) (H : Heap) : Option R :=
 (bd (boxA ty_ref04_Int v0) fun o1 =>
 (bd (boxA ty_ref04_Int v1) fun o2 =>
 (bd (faA 0 (.ptr (some ((H.push o1).n, 0)))) fun t5_3 =>
 (bd (ld1 t5_3 (((H.push o1).push o2).push (.cells [(.int .i64 0), (.slice ⟨none, 0, 0, false⟩), (.int .i64 0), (.slice ⟨none, 0, 0, false⟩)] ty_ref05_Rat false))) fun t6_4 =>
 (bd (arA .lss t6_4 (.int .i64 0)) fun t7_5 =>
 (bd (asB t7_5) fun b6 =>
 if b6 = true then
 (bd (ldN 2 (.ptr (some (H.n, 0))) ((((H.push o1).push o2).push (.cells [(.int .i64 0), (.slice ⟨none, 0, 0, false⟩), (.int .i64 0), (.slice ⟨none, 0, 0, false⟩)] ty_ref05_Rat false)).more 0)) fun t8_7 =>
 (bd (f_ref04_Neg n [t8_7] ((((H.push o1).push o2).push (.cells [(.int .i64 0), (.slice ⟨none, 0, 0, false⟩), (.int .i64 0), (.slice ⟨none, 0, 0, false⟩)] ty_ref05_Rat false)).more 0)) fun r8 =>
 (bd (ldN 2 (.ptr (some ((H.push o1).n, 0))) r8.2) fun t10_9 =>
 (bd (chk (ldN 2 (.ptr (some ((H.push o1).n, 0))) ((((H.push o1).push o2).push (.cells [(.int .i64 0), (.slice ⟨none, 0, 0, false⟩), (.int .i64 0), (.slice ⟨none, 0, 0, false⟩)] ty_ref05_Rat false)).more 0)) t10_9) fun _ =>
 (bd (f_ref04_Neg n [t10_9] r8.2) fun r10 =>
 (bd (flA [(0, 2), (2, 2)] [(.int .i64 0), (.slice ⟨none, 0, 0, false⟩), (.int .i64 0), (.slice ⟨none, 0, 0, false⟩)] [(0, r8.1), (1, r10.1)]) fun t12_11 =>
 (bd (stA 4 (.ptr (some (((H.push o1).push o2).n, 0))) t12_11 r10.2) fun H12 =>
 (bd (ldN 4 (.ptr (some (((H.push o1).push o2).n, 0))) H12) fun t13 =>
 (frzR t13 H12)))))))))
 else
 (bd (ldN 2 (.ptr (some (H.n, 0))) (((H.push o1).push o2).push (.cells [(.int .i64 0), (.slice ⟨none, 0, 0, false⟩), (.int .i64 0), (.slice ⟨none, 0, 0, false⟩)] ty_ref05_Rat false))) fun t13_14 =>
 (bd (ldN 2 (.ptr (some ((H.push o1).n, 0))) (((H.push o1).push o2).push (.cells [(.int .i64 0), (.slice ⟨none, 0, 0, false⟩), (.int .i64 0), (.slice ⟨none, 0, 0, false⟩)] ty_ref05_Rat false))) fun t14_15 =>
 (bd (flA [(0, 2), (2, 2)] [(.int .i64 0), (.slice ⟨none, 0, 0, false⟩), (.int .i64 0), (.slice ⟨none, 0, 0, false⟩)] [(0, t13_14), (1, t14_15)]) fun t15_16 =>
 (bd (stA 4 (.ptr (some (((H.push o1).push o2).n, 0))) t15_16 (((H.push o1).push o2).push (.cells [(.int .i64 0), (.slice ⟨none, 0, 0, false⟩), (.int .i64 0), (.slice ⟨none, 0, 0, false⟩)] ty_ref05_Rat false))) fun H17 =>
 (bd (ldN 4 (.ptr (some (((H.push o1).push o2).n, 0))) H17) fun t18 =>
 (frzR t18 H17))))))))))))
theorem ref05_Over_in (n : Nat) (a : List V) (H : Heap) : f_ref05_Over (n + 1) a H = pureA a H (fun a => E C n 42 [] (argsA 0 a) ⟨0, .nil⟩ (kR C 42)) := by unfold f_ref05_Over; kernel_rfl
theorem ref05_Over_tot {v0 v1 : V} {H : Heap} {Q : V → Heap → Prop} (hf : List.all [v0, v1] V.fro = true) (hg : V.frees [v0, v1] = true) (h : Tot (fun n => ref05_Over_b @bnd n v0 v1 E0) fun v _ => v.free = true ∧ Q v H) : Tot (fun n => f_ref05_Over n [v0, v1] H) Q := Tot.pu (k := fun n a => E C n 42 [] (argsA 0 a) ⟨0, .nil⟩ (kR C 42)) hf hg (fun n => ref05_Over_in n _ _) (fun n => bd_bnd (fun bd => ref05_Over_b bd n v0 v1 E0) (by kernel_rfl)) h
@[irreducible] noncomputable def ref03_Nat.l0 (n m0 : Nat) (v0 v3 v4 : V) (H : Heap) : Option R := Lp C n 45 [1, 1, 0, 1, 0, 0] m0 [(0, v0), (3, v3), (4, v4)] H (kB 0 (kC C n 45 [1, 1, 1] (kR C 45)))
@[simp] noncomputable def ref03_Nat.l0_b (bd : B2) (n m0 : Nat) (v0 v3 v4 : V) (H : Heap) : Option R :=
 (bd (lenSl v0) fun t9_1 =>
 (bd (arA .lss v4 t9_1) fun t10_2 =>
 (bd (asB t10_2) fun b3 =>
 if b3 = true then
 (bd (idxS 1 v0 v4) fun t15_4 =>
 (bd (ld1 t15_4 H) fun t16_5 =>
 (bd (arA .add v4 (.int .i64 1)) fun t18_6 =>
 (bd (lenSl v0) fun t20_7 =>
 (bd (arA .lss t18_6 t20_7) fun t21_8 =>
 (bd (asB t21_8) fun b9 =>
 if b9 = true then
 (bd (arA .add v4 (.int .i64 1)) fun t25_10 =>
 (bd (idxS 1 v0 t25_10) fun t26_11 =>
 (bd (ld1 t26_11 H) fun t27_12 =>
 (bd (arA .mul (.int .i64 65536) t27_12) fun t28_13 =>
 (bd (arA .add t16_5 t28_13) fun t29_14 =>
 (bd (cvInt .u32 t29_14) fun t32_15 =>
 (bd (bSl 1 ty_uint32 [(.int .u32 0)] 1 [(0, t32_15)]) fun o16 =>
 (bd (appA 1 4 ty_uint32 v3 (.slice ⟨some (H.n, 0), 1, 1, false⟩) (H.push o16)) fun p17 =>
 (bd (arA .add v4 (.int .i64 2)) fun t12_18 =>
 (ref03_Nat.l0 n m0 v0 p17.1 t12_18 p17.2))))))))))
 else
 (bd (cvInt .u32 t16_5) fun t32_19 =>
 (bd (bSl 1 ty_uint32 [(.int .u32 0)] 1 [(0, t32_19)]) fun o20 =>
 (bd (appA 1 4 ty_uint32 v3 (.slice ⟨some (H.n, 0), 1, 1, false⟩) (H.push o20)) fun p21 =>
 (bd (arA .add v4 (.int .i64 2)) fun t12_22 =>
 (ref03_Nat.l0 n m0 v0 p21.1 t12_22 p21.2)))))))))))
 else
 (frzR v3 H))))
theorem ref03_Nat.l0_tot {m0 : Nat → Nat} {v0 v3 v4 : V} {H : Heap} {Q : V → Heap → Prop} (hb : Big m0) (h : ∀ m0', Big m0' → Tot (fun n => ref03_Nat.l0_b @bnd n (m0' n) v0 v3 v4 H) Q) : Tot (fun n => ref03_Nat.l0 n (m0 n) v0 v3 v4 H) Q :=
  Tot.loop (f := fun n k => ref03_Nat.l0 n k v0 v3 v4 H) (g := fun n k => ref03_Nat.l0_b @bnd n k v0 v3 v4 H) hb (fun n k => bd_bnd (fun bd => ref03_Nat.l0_b bd n k v0 v3 v4 H) (by kernel_rfl)) h
@[simp] noncomputable def ref03_Nat_b (bd : B2) (n : Nat) (v0 : V) (H : Heap) : Option R :=
 (bd (bSl 1 ty_uint32 [(.int .u32 0)] 0 []) fun o1 =>
 (ref03_Nat.l0 n n v0 (.slice ⟨some (H.n, 0), 0, 1, false⟩) (.int .i64 0) (H.push o1)))
theorem ref03_Nat_in (n : Nat) (a : List V) (H : Heap) : f_ref03_Nat (n + 1) a H = pureA a H (fun a => E C n 45 [] (argsA 0 a) ⟨0, .nil⟩ (kR C 45)) := by unfold f_ref03_Nat; kernel_rfl
theorem ref03_Nat_tot {v0 : V} {H : Heap} {Q : V → Heap → Prop} (hf : List.all [v0] V.fro = true) (hg : V.frees [v0] = true) (h : Tot (fun n => ref03_Nat_b @bnd n v0 E0) fun v _ => v.free = true ∧ Q v H) : Tot (fun n => f_ref03_Nat n [v0] H) Q := Tot.pu (k := fun n a => E C n 45 [] (argsA 0 a) ⟨0, .nil⟩ (kR C 45)) hf hg (fun n => ref03_Nat_in n _ _) (fun n => bd_bnd (fun bd => ref03_Nat_b bd n v0 E0) (by kernel_rfl)) h
@[simp] noncomputable def rat_Of_b (bd : B2) (n : Nat) (v0 : V) (H : Heap) : Option R :=
 (bd (f_whole_Of n [v0] (H.push (.cells [(.bool false), (.slice ⟨none, 0, 0, false⟩), (.slice ⟨none, 0, 0, false⟩)] ty_api_Rat false))) fun r1 =>
 (bd (bSl 1 ty_uint32 [(.int .u32 0)] 1 [(0, (.int .u32 1))]) fun o2 =>
 (bd (flA [(0, 2), (2, 1)] [(.bool false), (.slice ⟨none, 0, 0, false⟩), (.slice ⟨none, 0, 0, false⟩)] [(0, r1.1), (1, (.slice ⟨some (r1.2.n, 0), 1, 1, false⟩))]) fun t6_3 =>
 (bd (stA 3 (.ptr (some (H.n, 0))) t6_3 (r1.2.push o2)) fun H4 =>
 (bd (ldN 3 (.ptr (some (H.n, 0))) H4) fun t5 =>
 (frzR t5 H4))))))
theorem rat_Of_in (n : Nat) (a : List V) (H : Heap) : f_rat_Of (n + 1) a H = pureA a H (fun a => E C n 46 [] (argsA 0 a) ⟨0, .nil⟩ (kR C 46)) := by unfold f_rat_Of; kernel_rfl
theorem rat_Of_tot {v0 : V} {H : Heap} {Q : V → Heap → Prop} (hf : List.all [v0] V.fro = true) (hg : V.frees [v0] = true) (h : Tot (fun n => rat_Of_b @bnd n v0 E0) fun v _ => v.free = true ∧ Q v H) : Tot (fun n => f_rat_Of n [v0] H) Q := Tot.pu (k := fun n a => E C n 46 [] (argsA 0 a) ⟨0, .nil⟩ (kR C 46)) hf hg (fun n => rat_Of_in n _ _) (fun n => bd_bnd (fun bd => rat_Of_b bd n v0 E0) (by kernel_rfl)) h
@[simp] noncomputable def rat_Add_b (bd : B2) (n : Nat) (v0 v1 : V) (H : Heap) : Option R :=
 (bd (boxA ty_api_Rat v0) fun o1 =>
 (bd (boxA ty_api_Rat v1) fun o2 =>
 (bd (ldN 3 (.ptr (some (H.n, 0))) ((((H.push o1).push o2).push (.cells [(.bool false), (.slice ⟨none, 0, 0, false⟩), (.slice ⟨none, 0, 0, false⟩)] ty_api_Rat false)).more 0)) fun t5_3 =>
 (bd (f_rat_norm n [t5_3] ((((H.push o1).push o2).push (.cells [(.bool false), (.slice ⟨none, 0, 0, false⟩), (.slice ⟨none, 0, 0, false⟩)] ty_api_Rat false)).more 0)) fun r4 =>
 (bd (ldN 3 (.ptr (some ((H.push o1).n, 0))) r4.2) fun t7_5 =>
 (bd (chk (ldN 3 (.ptr (some ((H.push o1).n, 0))) ((((H.push o1).push o2).push (.cells [(.bool false), (.slice ⟨none, 0, 0, false⟩), (.slice ⟨none, 0, 0, false⟩)] ty_api_Rat false)).more 0)) t7_5) fun _ =>
 (bd (f_rat_norm n [t7_5] r4.2) fun r6 =>
 (bd (f_rat_add n [r4.1, r6.1] r6.2) fun r7 =>
 (bd (stA 3 (.ptr (some (((H.push o1).push o2).n, 0))) r7.1 r7.2) fun H8 =>
 (bd (ldN 3 (.ptr (some (((H.push o1).push o2).n, 0))) H8) fun t9 =>
 (frzR t9 H8)))))))))))
theorem rat_Add_in (n : Nat) (a : List V) (H : Heap) : f_rat_Add (n + 1) a H = pureA a H (fun a => E C n 47 [] (argsA 0 a) ⟨0, .nil⟩ (kR C 47)) := by unfold f_rat_Add; kernel_rfl
theorem rat_Add_tot {v0 v1 : V} {H : Heap} {Q : V → Heap → Prop} (hf : List.all [v0, v1] V.fro = true) (hg : V.frees [v0, v1] = true) (h : Tot (fun n => rat_Add_b @bnd n v0 v1 E0) fun v _ => v.free = true ∧ Q v H) : Tot (fun n => f_rat_Add n [v0, v1] H) Q := Tot.pu (k := fun n a => E C n 47 [] (argsA 0 a) ⟨0, .nil⟩ (kR C 47)) hf hg (fun n => rat_Add_in n _ _) (fun n => bd_bnd (fun bd => rat_Add_b bd n v0 v1 E0) (by kernel_rfl)) h
@[simp] noncomputable def energy_part_b (bd : B2) (n : Nat) (v0 v1 : V) (H : Heap) : Option R :=
 (bd (boxA ty_api_Spot v0) fun o1 =>
 (bd (boxA ty_api_Spot v1) fun o2 =>
 (bd (faA 0 (.ptr (some (H.n, 0)))) fun t8_3 =>
 (bd (ldN 3 t8_3 ((((H.push o1).push o2).push (.cells [(.bool false), (.slice ⟨none, 0, 0, false⟩), (.slice ⟨none, 0, 0, false⟩)] ty_api_Rat false)).more 1)) fun t9_4 =>
 (bd (faA 3 (.ptr (some ((H.push o1).n, 0)))) fun t10_5 =>
 (bd (ldN 3 t10_5 ((((H.push o1).push o2).push (.cells [(.bool false), (.slice ⟨none, 0, 0, false⟩), (.slice ⟨none, 0, 0, false⟩)] ty_api_Rat false)).more 1)) fun t11_6 =>
 (bd (f_rat_Mul n [t9_4, t11_6] ((((H.push o1).push o2).push (.cells [(.bool false), (.slice ⟨none, 0, 0, false⟩), (.slice ⟨none, 0, 0, false⟩)] ty_api_Rat false)).more 1)) fun r7 =>
 (bd (faA 3 (.ptr (some (H.n, 0)))) fun t13_8 =>
 (bd (ldN 3 t13_8 r7.2) fun t14_9 =>
 (bd (chk (ldN 3 t13_8 ((((H.push o1).push o2).push (.cells [(.bool false), (.slice ⟨none, 0, 0, false⟩), (.slice ⟨none, 0, 0, false⟩)] ty_api_Rat false)).more 1)) t14_9) fun _ =>
 (bd (faA 0 (.ptr (some ((H.push o1).n, 0)))) fun t15_10 =>
 (bd (ldN 3 t15_10 r7.2) fun t16_11 =>
 (bd (chk (ldN 3 t15_10 ((((H.push o1).push o2).push (.cells [(.bool false), (.slice ⟨none, 0, 0, false⟩), (.slice ⟨none, 0, 0, false⟩)] ty_api_Rat false)).more 1)) t16_11) fun _ =>
 (bd (f_rat_Mul n [t14_9, t16_11] r7.2) fun r12 =>
 (bd (f_rat_Sub n [r7.1, r12.1] r12.2) fun r13 =>
 (bd (stA 3 (.ptr (some (((((H.push o1).push o2).push (.cells [(.bool false), (.slice ⟨none, 0, 0, false⟩), (.slice ⟨none, 0, 0, false⟩)] ty_api_Rat false)).n + 0), 0))) r13.1 (r13.2.set ((((H.push o1).push o2).push (.cells [(.bool false), (.slice ⟨none, 0, 0, false⟩), (.slice ⟨none, 0, 0, false⟩)] ty_api_Rat false)).n + 0) (.cells [(.bool false), (.slice ⟨none, 0, 0, false⟩), (.slice ⟨none, 0, 0, false⟩)] ty_api_Rat false))) fun H14 =>
 (bd (faA 0 (.ptr (some (H.n, 0)))) fun t19_15 =>
 (bd (ldN 3 t19_15 (H14.more 2)) fun t20_16 =>
 (bd (faA 0 (.ptr (some (H.n, 0)))) fun t21_17 =>
 (bd (ldN 3 t21_17 (H14.more 2)) fun t22_18 =>
 (bd (f_rat_Mul n [t20_16, t22_18] (H14.more 2)) fun r19 =>
 (bd (faA 0 (.ptr (some (H.n, 0)))) fun t24_20 =>
 (bd (ldN 3 t24_20 r19.2) fun t25_21 =>
 (bd (chk (ldN 3 t24_20 (H14.more 2)) t25_21) fun _ =>
 (bd (faA 0 (.ptr (some ((H.push o1).n, 0)))) fun t26_22 =>
 (bd (ldN 3 t26_22 r19.2) fun t27_23 =>
 (bd (chk (ldN 3 t26_22 (H14.more 2)) t27_23) fun _ =>
 (bd (f_rat_Mul n [t25_21, t27_23] r19.2) fun r24 =>
 (bd (faA 0 (.ptr (some ((H.push o1).n, 0)))) fun t29_25 =>
 (bd (ldN 3 t29_25 r24.2) fun t30_26 =>
 (bd (chk (ldN 3 t29_25 r19.2) t30_26) fun _ =>
 (bd (chk (ldN 3 t29_25 (H14.more 2)) t30_26) fun _ =>
 (bd (faA 0 (.ptr (some ((H.push o1).n, 0)))) fun t31_27 =>
 (bd (ldN 3 t31_27 r24.2) fun t32_28 =>
 (bd (chk (ldN 3 t31_27 r19.2) t32_28) fun _ =>
 (bd (chk (ldN 3 t31_27 (H14.more 2)) t32_28) fun _ =>
 (bd (f_rat_Mul n [t30_26, t32_28] r24.2) fun r29 =>
 (bd (bSl 3 ty_api_Rat [(.bool false), (.slice ⟨none, 0, 0, false⟩), (.slice ⟨none, 0, 0, false⟩)] 3 [(0, r19.1), (1, r24.1), (2, r29.1)]) fun o30 =>
 (bd (f_energy_sum n [(.slice ⟨some ((H14.n + 0), 0), 3, 3, false⟩)] (r29.2.set (H14.n + 0) o30)) fun r31 =>
 (bd (stA 3 (.ptr (some ((H14.n + 1), 0))) r31.1 (r31.2.set (H14.n + 1) (.cells [(.bool false), (.slice ⟨none, 0, 0, false⟩), (.slice ⟨none, 0, 0, false⟩)] ty_api_Rat false))) fun H32 =>
 (bd (faA 3 (.ptr (some (H.n, 0)))) fun t36_33 =>
 (bd (ldN 3 t36_33 (H32.more 2)) fun t37_34 =>
 (bd (faA 3 (.ptr (some (H.n, 0)))) fun t38_35 =>
 (bd (ldN 3 t38_35 (H32.more 2)) fun t39_36 =>
 (bd (f_rat_Mul n [t37_34, t39_36] (H32.more 2)) fun r37 =>
 (bd (faA 3 (.ptr (some (H.n, 0)))) fun t41_38 =>
 (bd (ldN 3 t41_38 r37.2) fun t42_39 =>
 (bd (chk (ldN 3 t41_38 (H32.more 2)) t42_39) fun _ =>
 (bd (faA 3 (.ptr (some ((H.push o1).n, 0)))) fun t43_40 =>
 (bd (ldN 3 t43_40 r37.2) fun t44_41 =>
 (bd (chk (ldN 3 t43_40 (H32.more 2)) t44_41) fun _ =>
 (bd (f_rat_Mul n [t42_39, t44_41] r37.2) fun r42 =>
 (bd (faA 3 (.ptr (some ((H.push o1).n, 0)))) fun t46_43 =>
 (bd (ldN 3 t46_43 r42.2) fun t47_44 =>
 (bd (chk (ldN 3 t46_43 r37.2) t47_44) fun _ =>
 (bd (chk (ldN 3 t46_43 (H32.more 2)) t47_44) fun _ =>
 (bd (faA 3 (.ptr (some ((H.push o1).n, 0)))) fun t48_45 =>
 (bd (ldN 3 t48_45 r42.2) fun t49_46 =>
 (bd (chk (ldN 3 t48_45 r37.2) t49_46) fun _ =>
 (bd (chk (ldN 3 t48_45 (H32.more 2)) t49_46) fun _ =>
 (bd (f_rat_Mul n [t47_44, t49_46] r42.2) fun r47 =>
 (bd (bSl 3 ty_api_Rat [(.bool false), (.slice ⟨none, 0, 0, false⟩), (.slice ⟨none, 0, 0, false⟩)] 3 [(0, r37.1), (1, r42.1), (2, r47.1)]) fun o48 =>
 (bd (f_energy_sum n [(.slice ⟨some ((H32.n + 0), 0), 3, 3, false⟩)] (r47.2.set (H32.n + 0) o48)) fun r49 =>
 (bd (stA 3 (.ptr (some ((H32.n + 1), 0))) r49.1 (r49.2.set (H32.n + 1) (.cells [(.bool false), (.slice ⟨none, 0, 0, false⟩), (.slice ⟨none, 0, 0, false⟩)] ty_api_Rat false))) fun H50 =>
 (bd (ldN 3 (.ptr (some ((H14.n + 1), 0))) (H50.more 0)) fun t54_51 =>
 (bd (ldN 3 (.ptr (some ((H32.n + 1), 0))) (H50.more 0)) fun t55_52 =>
 (bd (f_rat_Add n [t54_51, t55_52] (H50.more 0)) fun r53 =>
 (bd (ldN 3 (.ptr (some (((((H.push o1).push o2).push (.cells [(.bool false), (.slice ⟨none, 0, 0, false⟩), (.slice ⟨none, 0, 0, false⟩)] ty_api_Rat false)).n + 0), 0))) r53.2) fun t53_54 =>
 (bd (chk (ldN 3 (.ptr (some (((((H.push o1).push o2).push (.cells [(.bool false), (.slice ⟨none, 0, 0, false⟩), (.slice ⟨none, 0, 0, false⟩)] ty_api_Rat false)).n + 0), 0))) (H50.more 0)) t53_54) fun _ =>
 (bd (f_rat_Mul n [t53_54, r53.1] r53.2) fun r55 =>
 (bd (stA 3 (.ptr (some (((H.push o1).push o2).n, 0))) r55.1 r55.2) fun H56 =>
 (bd (ldN 3 (.ptr (some (((H.push o1).push o2).n, 0))) H56) fun t57 =>
 (frzR t57 H56)))))))))))))))))))))))))))))))))))))))))))))))))))))))))))))))))))))))))
theorem energy_part_in (n : Nat) (a : List V) (H : Heap) : f_energy_part (n + 1) a H = pureA a H (fun a => E C n 48 [] (argsA 0 a) ⟨0, .nil⟩ (kR C 48)) := by unfold f_energy_part; kernel_rfl
theorem energy_part_tot {v0 v1 : V} {H : Heap} {Q : V → Heap → Prop} (hf : List.all [v0, v1] V.fro = true) (hg : V.frees [v0, v1] = true) (h : Tot (fun n => energy_part_b @bnd n v0 v1 E0) fun v _ => v.free = true ∧ Q v H) : Tot (fun n => f_energy_part n [v0, v1] H) Q := Tot.pu (k := fun n a => E C n 48 [] (argsA 0 a) ⟨0, .nil⟩ (kR C 48)) hf hg (fun n => energy_part_in n _ _) (fun n => bd_bnd (fun bd => energy_part_b bd n v0 v1 E0) (by kernel_rfl)) h
@[simp] noncomputable def energy_seen_b (bd : B2) (n : Nat) (v0 v1 : V) (H : Heap) : Option R :=
 (bd (boxA ty_api_Spot v0) fun o1 =>
 (bd (boxA ty_api_Spot v1) fun o2 =>
 (bd (faA 0 (.ptr (some (H.n, 0)))) fun t5_3 =>
 (bd (ldN 3 t5_3 ((((H.push o1).push o2).push (.cells [(.bool false), (.slice ⟨none, 0, 0, false⟩), (.slice ⟨none, 0, 0, false⟩), (.bool false), (.slice ⟨none, 0, 0, false⟩), (.slice ⟨none, 0, 0, false⟩)] ty_api_Spot false)).more 0)) fun t6_4 =>
 (bd (faA 0 (.ptr (some ((H.push o1).n, 0)))) fun t7_5 =>
 (bd (ldN 3 t7_5 ((((H.push o1).push o2).push (.cells [(.bool false), (.slice ⟨none, 0, 0, false⟩), (.slice ⟨none, 0, 0, false⟩), (.bool false), (.slice ⟨none, 0, 0, false⟩), (.slice ⟨none, 0, 0, false⟩)] ty_api_Spot false)).more 0)) fun t8_6 =>
 (bd (f_rat_Sub n [t6_4, t8_6] ((((H.push o1).push o2).push (.cells [(.bool false), (.slice ⟨none, 0, 0, false⟩), (.slice ⟨none, 0, 0, false⟩), (.bool false), (.slice ⟨none, 0, 0, false⟩), (.slice ⟨none, 0, 0, false⟩)] ty_api_Spot false)).more 0)) fun r7 =>
 (bd (faA 3 (.ptr (some (H.n, 0)))) fun t10_8 =>
 (bd (ldN 3 t10_8 r7.2) fun t11_9 =>
 (bd (chk (ldN 3 t10_8 ((((H.push o1).push o2).push (.cells [(.bool false), (.slice ⟨none, 0, 0, false⟩), (.slice ⟨none, 0, 0, false⟩), (.bool false), (.slice ⟨none, 0, 0, false⟩), (.slice ⟨none, 0, 0, false⟩)] ty_api_Spot false)).more 0)) t11_9) fun _ =>
 (bd (faA 3 (.ptr (some ((H.push o1).n, 0)))) fun t12_10 =>
 (bd (ldN 3 t12_10 r7.2) fun t13_11 =>
 (bd (chk (ldN 3 t12_10 ((((H.push o1).push o2).push (.cells [(.bool false), (.slice ⟨none, 0, 0, false⟩), (.slice ⟨none, 0, 0, false⟩), (.bool false), (.slice ⟨none, 0, 0, false⟩), (.slice ⟨none, 0, 0, false⟩)] ty_api_Spot false)).more 0)) t13_11) fun _ =>
 (bd (f_rat_Sub n [t11_9, t13_11] r7.2) fun r12 =>
 (bd (flA [(0, 3), (3, 3)] [(.bool false), (.slice ⟨none, 0, 0, false⟩), (.slice ⟨none, 0, 0, false⟩), (.bool false), (.slice ⟨none, 0, 0, false⟩), (.slice ⟨none, 0, 0, false⟩)] [(0, r7.1), (1, r12.1)]) fun t15_13 =>
 (bd (stA 6 (.ptr (some (((H.push o1).push o2).n, 0))) t15_13 r12.2) fun H14 =>
 (bd (ldN 6 (.ptr (some (((H.push o1).push o2).n, 0))) H14) fun t15 =>
 (frzR t15 H14))))))))))))))))))
theorem energy_seen_in (n : Nat) (a : List V) (H : Heap) : f_energy_seen (n + 1) a H = pureA a H (fun a => E C n 49 [] (argsA 0 a) ⟨0, .nil⟩ (kR C 49)) := by unfold f_energy_seen; kernel_rfl
theorem energy_seen_tot {v0 v1 : V} {H : Heap} {Q : V → Heap → Prop} (hf : List.all [v0, v1] V.fro = true) (hg : V.frees [v0, v1] = true) (h : Tot (fun n => energy_seen_b @bnd n v0 v1 E0) fun v _ => v.free = true ∧ Q v H) : Tot (fun n => f_energy_seen n [v0, v1] H) Q := Tot.pu (k := fun n a => E C n 49 [] (argsA 0 a) ⟨0, .nil⟩ (kR C 49)) hf hg (fun n => energy_seen_in n _ _) (fun n => bd_bnd (fun bd => energy_seen_b bd n v0 v1 E0) (by kernel_rfl)) h
@[simp] noncomputable def rat_add_b (bd : B2) (n : Nat) (v0 v1 : V) (H : Heap) : Option R :=
 (bd (boxA ty_api_Rat v0) fun o1 =>
 (bd (boxA ty_api_Rat v1) fun o2 =>
 (bd (ldN 3 (.ptr (some (H.n, 0))) ((((H.push o1).push o2).push (.cells [(.bool false), (.slice ⟨none, 0, 0, false⟩), (.slice ⟨none, 0, 0, false⟩)] ty_api_Rat false)).more 0)) fun t5_3 =>
 (bd (ldN 3 (.ptr (some ((H.push o1).n, 0))) ((((H.push o1).push o2).push (.cells [(.bool false), (.slice ⟨none, 0, 0, false⟩), (.slice ⟨none, 0, 0, false⟩)] ty_api_Rat false)).more 0)) fun t6_4 =>
 (bd (f_rat_cross n [t5_3, t6_4] ((((H.push o1).push o2).push (.cells [(.bool false), (.slice ⟨none, 0, 0, false⟩), (.slice ⟨none, 0, 0, false⟩)] ty_api_Rat false)).more 0)) fun r5 =>
 (bd (ldN 3 (.ptr (some ((H.push o1).n, 0))) r5.2) fun t8_6 =>
 (bd (chk (ldN 3 (.ptr (some ((H.push o1).n, 0))) ((((H.push o1).push o2).push (.cells [(.bool false), (.slice ⟨none, 0, 0, false⟩), (.slice ⟨none, 0, 0, false⟩)] ty_api_Rat false)).more 0)) t8_6) fun _ =>
 (bd (ldN 3 (.ptr (some (H.n, 0))) r5.2) fun t9_7 =>
 (bd (chk (ldN 3 (.ptr (some (H.n, 0))) ((((H.push o1).push o2).push (.cells [(.bool false), (.slice ⟨none, 0, 0, false⟩), (.slice ⟨none, 0, 0, false⟩)] ty_api_Rat false)).more 0)) t9_7) fun _ =>
 (bd (f_rat_cross n [t8_6, t9_7] r5.2) fun r8 =>
 (bd (f_whole_Add n [r5.1, r8.1] r8.2) fun r9 =>
 (bd (faA 2 (.ptr (some (H.n, 0)))) fun t12_10 =>
 (bd (ld1 t12_10 r9.2) fun t13_11 =>
 (bd (chk (ld1 t12_10 r8.2) t13_11) fun _ =>
 (bd (chk (ld1 t12_10 r5.2) t13_11) fun _ =>
 (bd (chk (ld1 t12_10 ((((H.push o1).push o2).push (.cells [(.bool false), (.slice ⟨none, 0, 0, false⟩), (.slice ⟨none, 0, 0, false⟩)] ty_api_Rat false)).more 0)) t13_11) fun _ =>
 (bd (faA 2 (.ptr (some ((H.push o1).n, 0)))) fun t14_12 =>
 (bd (ld1 t14_12 r9.2) fun t15_13 =>
 (bd (chk (ld1 t14_12 r8.2) t15_13) fun _ =>
 (bd (chk (ld1 t14_12 r5.2) t15_13) fun _ =>
 (bd (chk (ld1 t14_12 ((((H.push o1).push o2).push (.cells [(.bool false), (.slice ⟨none, 0, 0, false⟩), (.slice ⟨none, 0, 0, false⟩)] ty_api_Rat false)).more 0)) t15_13) fun _ =>
 (bd (f_nat_Mul n [t13_11, t15_13] r9.2) fun r14 =>
 (bd (f_rat_lowest n [r9.1, r14.1] r14.2) fun r15 =>
 (bd (stA 3 (.ptr (some (((H.push o1).push o2).n, 0))) r15.1 r15.2) fun H16 =>
 (bd (ldN 3 (.ptr (some (((H.push o1).push o2).n, 0))) H16) fun t17 =>
 (frzR t17 H16))))))))))))))))))))))))))
theorem rat_add_in (n : Nat) (a : List V) (H : Heap) : f_rat_add (n + 1) a H = pureA a H (fun a => E C n 66 [] (argsA 0 a) ⟨0, .nil⟩ (kR C 66)) := by unfold f_rat_add; kernel_rfl
theorem rat_add_tot {v0 v1 : V} {H : Heap} {Q : V → Heap → Prop} (hf : List.all [v0, v1] V.fro = true) (hg : V.frees [v0, v1] = true) (h : Tot (fun n => rat_add_b @bnd n v0 v1 E0) fun v _ => v.free = true ∧ Q v H) : Tot (fun n => f_rat_add n [v0, v1] H) Q := Tot.pu (k := fun n a => E C n 66 [] (argsA 0 a) ⟨0, .nil⟩ (kR C 66)) hf hg (fun n => rat_add_in n _ _) (fun n => bd_bnd (fun bd => rat_add_b bd n v0 v1 E0) (by kernel_rfl)) h
@[simp] noncomputable def rat_Sub_b (bd : B2) (n : Nat) (v0 v1 : V) (H : Heap) : Option R :=
 (bd (boxA ty_api_Rat v0) fun o1 =>
 (bd (boxA ty_api_Rat v1) fun o2 =>
 (bd (ldN 3 (.ptr (some (H.n, 0))) ((((H.push o1).push o2).push (.cells [(.bool false), (.slice ⟨none, 0, 0, false⟩), (.slice ⟨none, 0, 0, false⟩)] ty_api_Rat false)).more 0)) fun t5_3 =>
 (bd (f_rat_norm n [t5_3] ((((H.push o1).push o2).push (.cells [(.bool false), (.slice ⟨none, 0, 0, false⟩), (.slice ⟨none, 0, 0, false⟩)] ty_api_Rat false)).more 0)) fun r4 =>
 (bd (ldN 3 (.ptr (some ((H.push o1).n, 0))) r4.2) fun t7_5 =>
 (bd (chk (ldN 3 (.ptr (some ((H.push o1).n, 0))) ((((H.push o1).push o2).push (.cells [(.bool false), (.slice ⟨none, 0, 0, false⟩), (.slice ⟨none, 0, 0, false⟩)] ty_api_Rat false)).more 0)) t7_5) fun _ =>
 (bd (f_rat_norm n [t7_5] r4.2) fun r6 =>
 (bd (f_rat_neg n [r6.1] r6.2) fun r7 =>
 (bd (f_rat_add n [r4.1, r7.1] r7.2) fun r8 =>
 (bd (stA 3 (.ptr (some (((H.push o1).push o2).n, 0))) r8.1 r8.2) fun H9 =>
 (bd (ldN 3 (.ptr (some (((H.push o1).push o2).n, 0))) H9) fun t10 =>
 (frzR t10 H9))))))))))))
theorem rat_Sub_in (n : Nat) (a : List V) (H : Heap) : f_rat_Sub (n + 1) a H = pureA a H (fun a => E C n 68 [] (argsA 0 a) ⟨0, .nil⟩ (kR C 68)) := by unfold f_rat_Sub; kernel_rfl
theorem rat_Sub_tot {v0 v1 : V} {H : Heap} {Q : V → Heap → Prop} (hf : List.all [v0, v1] V.fro = true) (hg : V.frees [v0, v1] = true) (h : Tot (fun n => rat_Sub_b @bnd n v0 v1 E0) fun v _ => v.free = true ∧ Q v H) : Tot (fun n => f_rat_Sub n [v0, v1] H) Q := Tot.pu (k := fun n a => E C n 68 [] (argsA 0 a) ⟨0, .nil⟩ (kR C 68)) hf hg (fun n => rat_Sub_in n _ _) (fun n => bd_bnd (fun bd => rat_Sub_b bd n v0 v1 E0) (by kernel_rfl)) h
@[irreducible] noncomputable def energy_sum.l0 (n m0 : Nat) (v2 v3 v7 v8 v9 : V) (H : Heap) : Option R := Lp C n 70 [1, 1, 0, 1, 0, 0] m0 [(2, v2), (3, v3), (7, v7), (8, v8), (9, v9)] H (kB 0 (kC C n 70 [1, 1, 1] (kR C 70)))
@[simp] noncomputable def energy_sum.l0_b (bd : B2) (n m0 : Nat) (v2 v3 v7 v8 v9 : V) (H : Heap) : Option R :=
 (bd (arA .lss v9 v8) fun t10_1 =>
 (bd (asB t10_1) fun b2 =>
 if b2 = true then
 (bd (idxS 3 v7 v9) fun t11_3 =>
 (bd (ldN 3 t11_3 H) fun t12_4 =>
 (bd (stA 3 (.ptr (some (H.n, 0))) t12_4 (H.push (.cells [(.bool false), (.slice ⟨none, 0, 0, false⟩), (.slice ⟨none, 0, 0, false⟩)] ty_api_Rat false))) fun H5 =>
 (bd (ldN 3 v3 H5) fun t13_6 =>
 (bd (ldN 3 (.ptr (some (H.n, 0))) H5) fun t14_7 =>
 (bd (f_rat_Add n [t13_6, t14_7] H5) fun r8 =>
 (bd (stA 3 v3 r8.1 r8.2) fun H9 =>
 (bd (arA .add v9 (.int .i64 1)) fun t16_10 =>
 (energy_sum.l0 n m0 v2 v3 v7 v8 t16_10 H9)))))))))
 else
 (bd (ldN 3 v3 H) fun t17_11 =>
 (bd (stA 3 v2 t17_11 H) fun H12 =>
 (bd (ldN 3 v2 H12) fun t13 =>
 (frzR t13 H12))))))
theorem energy_sum.l0_tot {m0 : Nat → Nat} {v2 v3 v7 v8 v9 : V} {H : Heap} {Q : V → Heap → Prop} (hb : Big m0) (h : ∀ m0', Big m0' → Tot (fun n => energy_sum.l0_b @bnd n (m0' n) v2 v3 v7 v8 v9 H) Q) : Tot (fun n => energy_sum.l0 n (m0 n) v2 v3 v7 v8 v9 H) Q :=
  Tot.loop (f := fun n k => energy_sum.l0 n k v2 v3 v7 v8 v9 H) (g := fun n k => energy_sum.l0_b @bnd n k v2 v3 v7 v8 v9 H) hb (fun n k => bd_bnd (fun bd => energy_sum.l0_b bd n k v2 v3 v7 v8 v9 H) (by kernel_rfl)) h
@[simp] noncomputable def energy_sum_b (bd : B2) (n : Nat) (v0 : V) (H : Heap) : Option R :=
 (bd (f_rat_Of n [(.int .i64 0)] (H.push (.cells [(.bool false), (.slice ⟨none, 0, 0, false⟩), (.slice ⟨none, 0, 0, false⟩)] ty_api_Rat false))) fun r1 =>
 (bd (stA 3 (.ptr (some (r1.2.n, 0))) r1.1 (r1.2.push (.cells [(.bool false), (.slice ⟨none, 0, 0, false⟩), (.slice ⟨none, 0, 0, false⟩)] ty_api_Rat false))) fun H2 =>
 (bd (lenSl v0) fun t8_3 =>
 (energy_sum.l0 n n (.ptr (some (H.n, 0))) (.ptr (some (r1.2.n, 0))) v0 t8_3 (.int .i64 0) H2))))
theorem energy_sum_in (n : Nat) (a : List V) (H : Heap) : f_energy_sum (n + 1) a H = pureA a H (fun a => E C n 70 [] (argsA 0 a) ⟨0, .nil⟩ (kR C 70)) := by unfold f_energy_sum; kernel_rfl
theorem energy_sum_tot {v0 : V} {H : Heap} {Q : V → Heap → Prop} (hf : List.all [v0] V.fro = true) (hg : V.frees [v0] = true) (h : Tot (fun n => energy_sum_b @bnd n v0 E0) fun v _ => v.free = true ∧ Q v H) : Tot (fun n => f_energy_sum n [v0] H) Q := Tot.pu (k := fun n a => E C n 70 [] (argsA 0 a) ⟨0, .nil⟩ (kR C 70)) hf hg (fun n => energy_sum_in n _ _) (fun n => bd_bnd (fun bd => energy_sum_b bd n v0 E0) (by kernel_rfl)) h
@[simp] noncomputable def rat_cross_b (bd : B2) (n : Nat) (v0 v1 : V) (H : Heap) : Option R :=
 (bd (boxA ty_api_Rat v0) fun o1 =>
 (bd (boxA ty_api_Rat v1) fun o2 =>
 (bd (faA 2 (.ptr (some ((H.push o1).n, 0)))) fun t7_3 =>
 (bd (ld1 t7_3 ((((H.push o1).push o2).push (.cells [(.bool false), (.slice ⟨none, 0, 0, false⟩)] ty_api_Int false)).more 0)) fun t8_4 =>
 (bd (f_rat_plain n [t8_4] ((((H.push o1).push o2).push (.cells [(.bool false), (.slice ⟨none, 0, 0, false⟩)] ty_api_Int false)).more 0)) fun r5 =>
 (bd (faA 0 (.ptr (some (H.n, 0)))) fun t5_6 =>
 (bd (ldN 2 t5_6 r5.2) fun t6_7 =>
 (bd (chk (ldN 2 t5_6 ((((H.push o1).push o2).push (.cells [(.bool false), (.slice ⟨none, 0, 0, false⟩)] ty_api_Int false)).more 0)) t6_7) fun _ =>
 (bd (f_whole_Mul n [t6_7, r5.1] r5.2) fun r8 =>
 (bd (stA 2 (.ptr (some (((H.push o1).push o2).n, 0))) r8.1 r8.2) fun H9 =>
 (bd (ldN 2 (.ptr (some (((H.push o1).push o2).n, 0))) H9) fun t10 =>
 (frzR t10 H9))))))))))))
theorem rat_cross_in (n : Nat) (a : List V) (H : Heap) : f_rat_cross (n + 1) a H = pureA a H (fun a => E C n 81 [] (argsA 0 a) ⟨0, .nil⟩ (kR C 81)) := by unfold f_rat_cross; kernel_rfl
theorem rat_cross_tot {v0 v1 : V} {H : Heap} {Q : V → Heap → Prop} (hf : List.all [v0, v1] V.fro = true) (hg : V.frees [v0, v1] = true) (h : Tot (fun n => rat_cross_b @bnd n v0 v1 E0) fun v _ => v.free = true ∧ Q v H) : Tot (fun n => f_rat_cross n [v0, v1] H) Q := Tot.pu (k := fun n a => E C n 81 [] (argsA 0 a) ⟨0, .nil⟩ (kR C 81)) hf hg (fun n => rat_cross_in n _ _) (fun n => bd_bnd (fun bd => rat_cross_b bd n v0 v1 E0) (by kernel_rfl)) h
@[simp] noncomputable def rat_neg_b (bd : B2) (n : Nat) (v0 : V) (H : Heap) : Option R :=
 (bd (boxA ty_api_Rat v0) fun o1 =>
 (bd (faA 0 (.ptr (some (H.n, 0)))) fun t3_2 =>
 (bd (ldN 2 t3_2 (((H.push o1).push (.cells [(.bool false), (.slice ⟨none, 0, 0, false⟩), (.slice ⟨none, 0, 0, false⟩)] ty_api_Rat false)).more 0)) fun t4_3 =>
 (bd (f_whole_Neg n [t4_3] (((H.push o1).push (.cells [(.bool false), (.slice ⟨none, 0, 0, false⟩), (.slice ⟨none, 0, 0, false⟩)] ty_api_Rat false)).more 0)) fun r4 =>
 (bd (faA 2 (.ptr (some (H.n, 0)))) fun t6_5 =>
 (bd (ld1 t6_5 r4.2) fun t7_6 =>
 (bd (chk (ld1 t6_5 (((H.push o1).push (.cells [(.bool false), (.slice ⟨none, 0, 0, false⟩), (.slice ⟨none, 0, 0, false⟩)] ty_api_Rat false)).more 0)) t7_6) fun _ =>
 (bd (flA [(0, 2), (2, 1)] [(.bool false), (.slice ⟨none, 0, 0, false⟩), (.slice ⟨none, 0, 0, false⟩)] [(0, r4.1), (1, t7_6)]) fun t8_7 =>
 (bd (stA 3 (.ptr (some ((H.push o1).n, 0))) t8_7 r4.2) fun H8 =>
 (bd (ldN 3 (.ptr (some ((H.push o1).n, 0))) H8) fun t9 =>
 (frzR t9 H8)))))))))))
theorem rat_neg_in (n : Nat) (a : List V) (H : Heap) : f_rat_neg (n + 1) a H = pureA a H (fun a => E C n 83 [] (argsA 0 a) ⟨0, .nil⟩ (kR C 83)) := by unfold f_rat_neg; kernel_rfl
theorem rat_neg_tot {v0 : V} {H : Heap} {Q : V → Heap → Prop} (hf : List.all [v0] V.fro = true) (hg : V.frees [v0] = true) (h : Tot (fun n => rat_neg_b @bnd n v0 E0) fun v _ => v.free = true ∧ Q v H) : Tot (fun n => f_rat_neg n [v0] H) Q := Tot.pu (k := fun n a => E C n 83 [] (argsA 0 a) ⟨0, .nil⟩ (kR C 83)) hf hg (fun n => rat_neg_in n _ _) (fun n => bd_bnd (fun bd => rat_neg_b bd n v0 E0) (by kernel_rfl)) h
@[simp] noncomputable def rat_plain_b (bd : B2) (n : Nat) (v0 : V) (H : Heap) : Option R :=
 (bd (flA [(0, 1), (1, 1)] [(.bool false), (.slice ⟨none, 0, 0, false⟩)] [(1, v0)]) fun t4_1 =>
 (bd (stA 2 (.ptr (some (H.n, 0))) t4_1 (H.push (.cells [(.bool false), (.slice ⟨none, 0, 0, false⟩)] ty_api_Int false))) fun H2 =>
 (bd (ldN 2 (.ptr (some (H.n, 0))) H2) fun t3 =>
 (frzR t3 H2))))
theorem rat_plain_in (n : Nat) (a : List V) (H : Heap) : f_rat_plain (n + 1) a H = pureA a H (fun a => E C n 99 [] (argsA 0 a) ⟨0, .nil⟩ (kR C 99)) := by unfold f_rat_plain; kernel_rfl
theorem rat_plain_tot {v0 : V} {H : Heap} {Q : V → Heap → Prop} (hf : List.all [v0] V.fro = true) (hg : V.frees [v0] = true) (h : Tot (fun n => rat_plain_b @bnd n v0 E0) fun v _ => v.free = true ∧ Q v H) : Tot (fun n => f_rat_plain n [v0] H) Q := Tot.pu (k := fun n a => E C n 99 [] (argsA 0 a) ⟨0, .nil⟩ (kR C 99)) hf hg (fun n => rat_plain_in n _ _) (fun n => bd_bnd (fun bd => rat_plain_b bd n v0 E0) (by kernel_rfl)) h
end Go.AM.N
end
section
set_option linter.unusedVariables false
set_option linter.unusedSimpArgs false

end
section
set_option linter.unusedVariables false
set_option linter.unusedSimpArgs false
set_option linter.unusedSimpArgs false
set_option linter.unusedVariables false
namespace Go.AM
abbrev Gv (f : Nat → Option R) (u : V) (H : Heap) : Prop := Tot f fun v H' => H' = H ∧ v = u
theorem Gv.bind {f : Nat → Option R} {u : V} {H : Heap} {k : Nat → R → Option R} {Q : V → Heap → Prop} (hf : Gv f u H) (hk : Tot (fun n => k n (u, H)) Q) : Tot (fun n => bnd (f n) (k n)) Q :=
  Tot.bind hf fun v H' ⟨h1, h2⟩ => by subst h1 h2; exact hk
theorem all1 {a : V} (h : a.fro = true) : List.all [a] V.fro = true := by simp [h]
theorem all2 {a b : V} (h : a.fro = true) (h' : b.fro = true) : List.all [a, b] V.fro = true := by simp [h, h']
theorem fre1 {a : V} (h : a.free = true) : V.frees [a] = true := by simp [V.frees, h]
theorem fre2 {a b : V} (h : a.free = true) (h' : b.free = true) : V.frees [a, b] = true := by simp [V.frees, h, h']
namespace N
variable {H : Heap}
theorem whole_Of_N {z : Int} (h : -9223372036854775808 ≤ z ∧ z ≤ 9223372036854775807) : Gv (fun n => f_whole_Of n [.int .i64 z] H) (intW z) H :=
  whole_Of_ext (ext_tot rfl (by simp only [dZ]; rw [if_pos h]; rfl) ⟨rfl, rfl⟩)
theorem whole_Neg_N {z : Int} (h : szW z.natAbs) : Gv (fun n => f_whole_Neg n [intW z] H) (intW (-z)) H :=
  whole_Neg_ext (ext_tot (all1 intW_fro) (by simp only [dI, decI_intW h]; rfl) ⟨rfl, rfl⟩)
theorem whole_Add_N {x y : Int} (h : szW x.natAbs) (h' : szW y.natAbs) : Gv (fun n => f_whole_Add n [intW x, intW y] H) (intW (x + y)) H :=
  whole_Add_ext (ext_tot (all2 intW_fro intW_fro) (by simp only [dII, decI_intW h, decI_intW h']; rfl) ⟨rfl, rfl⟩)
theorem whole_Mul_N {x y : Int} (h : szW x.natAbs) (h' : szW y.natAbs) : Gv (fun n => f_whole_Mul n [intW x, intW y] H) (intW (x * y)) H :=
  whole_Mul_ext (ext_tot (all2 intW_fro intW_fro) (by simp only [dII, decI_intW h, decI_intW h']; rfl) ⟨rfl, rfl⟩)
theorem nat_Mul_N {x y : Nat} (h : szW x) (h' : szW y) : Gv (fun n => f_nat_Mul n [natW x, natW y] H) (natW (x * y)) H :=
  nat_Mul_ext (ext_tot (all2 natW_fro natW_fro) (by simp only [dNN, decL_natW h, decL_natW h', val_digK (show 2 ≤ 4294967296 by decide)]; rfl) ⟨rfl, rfl⟩)
theorem rat_norm_N {n : Int} {d : Nat} (h : szW n.natAbs) (h' : szW d) : Gv (fun m => f_rat_norm m [ratW n d] H) (ratQ (mkRat n d)) H :=
  rat_norm_ext (ext_tot (all1 ratW_fro) (by simp only [dR, decR_ratW h h']; rfl) ⟨rfl, by simp only [ratQ, low_mk]⟩)
theorem decQ_intW {z : Int} (h : szW z.natAbs) : decQ (intW z) = some z := by
  simp only [intW, decQ, decL_natW h, val_digK (show 2 ≤ 4294967296 by decide), sgn_dec]
theorem rat_lowest_N {n : Int} {d : Nat} (h : szW n.natAbs) (h' : szW d) : Gv (fun m => f_rat_lowest m [intW n, natW d] H) (ratQ (mkRat n d)) H :=
  rat_lowest_ext (ext_tot (all2 intW_fro natW_fro) (by simp only [dQN, decQ_intW h, decL_natW h', val_digK (show 2 ≤ 4294967296 by decide)]; rfl) ⟨rfl, by simp only [ratQ, low_mk]⟩)
theorem rat_Mul_N {p q : Rat} {k m : Nat} (h : Bq k p) (h' : Bq m q) (hk : k < 1000000) (hm : m < 1000000) : Gv (fun n => f_rat_Mul n [ratQ p, ratQ q] H) (ratQ (p * q)) H :=
  rat_Mul_ext (ext_tot (all2 ratW_fro ratW_fro) (by simp only [dRR, ratQ, decR_ratW (szW_of h.1 hk) (szW_of h.2 hk), decR_ratW (szW_of h'.1 hm) (szW_of h'.2 hm)]; rfl) ⟨rfl, by
    simp only [ratQ, low_mk, Rat.mkRat_self, Rat.mul_def']⟩)
theorem r5_Long_N {z : Int} (h : -9223372036854775808 ≤ z ∧ z ≤ 9223372036854775807) : Gv (fun n => f_ref05_Long n [.int .i64 z] H) (ratD z 1) H :=
  ref05_Long_ext (ext_tot rfl (by simp only [dZ]; rw [if_pos h]; rfl) ⟨rfl, rfl⟩)
end N
end Go.AM
end
