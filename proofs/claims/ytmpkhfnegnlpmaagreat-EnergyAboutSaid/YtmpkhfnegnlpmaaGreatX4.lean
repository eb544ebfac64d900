/- Merged by program from: SpI SpJ SpK SpL SpM0 SqA SqB SqC SqD SqE SqF SqG SqI EnA SrD. -/
import Derived.Test.YtmpkhfnegnlpmaaGreatX3
section
set_option linter.unusedVariables false
set_option linter.unusedSimpArgs false
set_option linter.unusedSimpArgs false
set_option linter.unusedVariables false
namespace Go.AM
attribute [local congr] bnd_weak ite_weak
def isI (H : Heap) (lo : Nat) (v : V) (z : Int) : Prop := ∃ s, v = .agg [.bool (decide (z < 0)), .slice s] ∧ Row H .u32 s (dig 4294967296 z.natAbs) ∧ Fr lo s
theorem isI.keep {H H' : Heap} {lo : Nat} {v : V} {z : Int} (h : isI H lo v z) (c : Keep lo H H') : isI H' lo v z := by
  obtain ⟨s, rfl, r, f⟩ := h; exact ⟨s, rfl, r.keep f c, f⟩
theorem isI.mono {H : Heap} {lo lo' : Nat} {v : V} {z : Int} (h : isI H lo v z) (c : lo' ≤ lo) : isI H lo' v z := by
  obtain ⟨s, rfl, r, f⟩ := h; exact ⟨s, rfl, r, f.mono c⟩
theorem isI.shape {H : Heap} {lo : Nat} {v : V} {z : Int} (h : isI H lo v z) : ∃ b s, v = .agg [.bool b, .slice s] ∧ b = decide (z < 0) ∧ Row H .u32 s (dig 4294967296 z.natAbs) ∧ Fr lo s := by
  obtain ⟨s, rfl, r, f⟩ := h; exact ⟨_, s, rfl, rfl, r, f⟩
theorem dig_pos_len {x : Nat} : 0 < (dig 4294967296 x).length ↔ x ≠ 0 := by
  have := dig_eq_nil (b := 4294967296) (x := x) (by decide)
  constructor
  · intro h e; rw [this.2 e] at h; simp at h
  · intro h
    rcases Nat.eq_zero_or_pos (dig 4294967296 x).length with e | e
    · exact (h (this.1 (List.eq_nil_of_length_eq_zero e))).elim
    · exact e
def sgn (b : Bool) (x : Nat) : Int := if b then -(x : Int) else x
theorem sgn_abs {b : Bool} {x : Nat} : (sgn b x).natAbs = x := by unfold sgn; split <;> simp
theorem sgn_neg {b : Bool} {x : Nat} : decide (sgn b x < 0) = (b && decide (x ≠ 0)) := by
  cases b
  · simp [sgn]
  · by_cases h : x = 0
    · subst h; simp [sgn]
    · have : (0:Int) < x := by omega
      simp [sgn, h]; omega
theorem whole_norm_spec {H : Heap} {lo : Nat} {b : Bool} {s : Sl} {l : List Nat} (h : Row H .u32 s l) (hm : l.length < 2000000000) (hL : Lim 4294967296 l) :
    Tot (fun n => f_whole_norm n [.bool b, .slice s] H) fun v H' => Ext0 H H' ∧ isI H' H.n v (sgn b (val 4294967296 l)) := by
  refine Tot.of fun Q hQ => ?_
  refine whole_norm_tot ?_
  simp only [whole_norm_b]
  refine Tot.bind (nat_Trim_spec (h.ext Ch.push) hm hL) ?_
  rintro v H1 ⟨c1, s1, rfl, o1, f1⟩
  have n1 := c1.n; try simp only [npz, nsz, nmz] at n1
  have r1 := o1.row
  simp (disch := first | omega | (simp only [npz, nsz, nmz] <;> omega) | (simp <;> omega) | fail) [lhz, lgz, sgz, faA_mk, boxA_agg, Heap.gqz, Heap.gpz, Heap.gtz, Heap.gsz, gmz, npz, nsz, nmz, chk_agg, r1.lenSl, c1.g]
  have fin : ∀ (H2 : Heap) (b' : Bool), H2 = H1.set H.n (.cells [.bool b', .slice s1] ty_api_Int false) → b' = (b && decide (val 4294967296 l ≠ 0)) → Q (.agg [.bool b', .slice s1]) H2 := by
    rintro H2 b' rfl hb
    refine hQ _ _ ⟨Keep.ext (Keep.auto), s1, ?_, ?_, ?_⟩
    · rw [sgn_neg, hb]
    · rw [sgn_abs]; exact r1.keep (lo := H.n + 1) (fun i hi => by have := f1 i hi; simpa using this) (Keep.auto)
    · exact fun i hi => by have := f1 i hi; simp at this; omega
  cases b
  · simp (disch := first | omega | (simp only [npz, nsz, nmz] <;> omega) | (simp <;> omega) | fail) [lhz, lgz, sgz, faA_mk, boxA_agg, Heap.gqz, Heap.gpz, Heap.gtz, Heap.gsz, gmz, npz, nsz, nmz, chk_agg, c1.g]
    exact Tot.ret (fin _ _ rfl rfl)
  · simp (disch := first | omega | (simp only [npz, nsz, nmz] <;> omega) | (simp <;> omega) | fail) [lhz, lgz, sgz, faA_mk, boxA_agg, Heap.gqz, Heap.gpz, Heap.gtz, Heap.gsz, gmz, npz, nsz, nmz, chk_agg, c1.g]
    refine Tot.ret (fin _ _ rfl ?_)
    have := dig_pos_len (x := val 4294967296 l)
    simp [this]
theorem isI.out {H1 H2 : Heap} {lo n : Nat} {v : V} {z : Int} (h : isI H1 lo v z) (c : Keep lo H1 H2) (hn : n ≤ lo) : isI H2 n v z := (h.keep c).mono hn
theorem whole_Norm_spec {H : Heap} {b : Bool} {s : Sl} {l : List Nat} (h : Row H .u32 s l) (hm : l.length < 2000000000) (hL : Lim 4294967296 l) :
    Tot (fun n => f_whole_Norm n [.agg [.bool b, .slice s]] H) fun v H' => Ext0 H H' ∧ isI H' H.n v (sgn b (val 4294967296 l)) := by
  refine Tot.of fun Q hQ => ?_
  refine whole_Norm_tot ?_
  simp (disch := first | omega | (simp only [npz, nsz, nmz] <;> omega) | (simp <;> omega) | fail) [lhz, lgz, sgz, faA_mk, boxA_agg, Heap.gqz, Heap.gpz, Heap.gtz, Heap.gsz, gmz, npz, nsz, nmz, chk_agg, ]
  refine Tot.bind (whole_norm_spec (lo := 0) (h.keep Fr.zero (Keep.auto)) hm hL) ?_
  rintro v H1 ⟨c1, i1⟩
  obtain ⟨b1, s1, rfl, -⟩ := i1.shape
  have n1 := c1.n; try simp only [npz, nsz, nmz] at n1
  simp (disch := first | omega | (simp only [npz, nsz, nmz] <;> omega) | (simp <;> omega) | fail) [lhz, lgz, sgz, faA_mk, boxA_agg, Heap.gqz, Heap.gpz, Heap.gtz, Heap.gsz, gmz, npz, nsz, nmz, chk_agg, c1.g]
  exact Tot.ret (hQ _ _ ⟨Keep.ext (Keep.auto), i1.out (Keep.auto) (by simp; omega)⟩)
theorem sgn_of (z : Int) : sgn (decide (z < 0)) z.natAbs = z := by
  unfold sgn; by_cases h : z < 0 <;> simp [h] <;> omega
theorem whole_Of_spec {H : Heap} {z : Int} (hz : -9223372036854775808 ≤ z ∧ z ≤ 9223372036854775807) :
    Tot (fun n => f_whole_Of n [.int .i64 z] H) fun v H' => Ext0 H H' ∧ isI H' H.n v z := by
  refine Tot.of fun Q hQ => ?_
  refine whole_Of_tot ?_
  have hsz : (dig 4294967296 z.natAbs).length ≤ 2 := dig_len_le (by decide) (by omega)
  simp (disch := first | omega | (simp only [npz, nsz, nmz] <;> omega) | (simp <;> omega) | fail) [lhz, lgz, sgz, faA_mk, boxA_agg, Heap.gqz, Heap.gpz, Heap.gtz, Heap.gsz, gmz, npz, nsz, nmz, chk_agg, ]
  refine Tot.ite (fun h => ?_) (fun h => ?_)
  · try simp (disch := first | omega | (simp only [npz, nsz, nmz] <;> omega) | (simp <;> omega) | fail) [lhz, lgz, sgz, faA_mk, boxA_agg, Heap.gqz, Heap.gpz, Heap.gtz, Heap.gsz, gmz, npz, nsz, nmz, chk_agg, ]
    refine Tot.bind (nat_Of_spec (x := z.natAbs) (by first | omega | (simp only [wrap_u64m]; omega)) (by omega)) ?_
    rintro v H1 ⟨c1, s1, rfl, o1, f1⟩
    have n1 := c1.n; try simp only [npz, nsz, nmz] at n1
    dsimp only
    refine Tot.bind (whole_norm_spec (lo := 0) o1.row (by omega) (digL _)) ?_
    rintro v H2 ⟨c2, i2⟩
    obtain ⟨b2, s2, rfl, -⟩ := i2.shape
    have n2 := c2.n; try simp only [npz, nsz, nmz] at n2
    rw [digV, show sgn true z.natAbs = z by unfold sgn; simp; omega] at i2
    simp (disch := first | omega | (simp only [npz, nsz, nmz] <;> omega) | (simp <;> omega) | fail) [lhz, lgz, sgz, faA_mk, boxA_agg, Heap.gqz, Heap.gpz, Heap.gtz, Heap.gsz, gmz, npz, nsz, nmz, chk_agg, c1.g, c2.g]
    exact Tot.ret (hQ _ _ ⟨Keep.ext (Keep.auto), i2.out (Keep.auto) (by omega)⟩)
  · refine Tot.bind (nat_Of_spec (x := z.natAbs) (by first | omega | (simp only [wrap_u64m]; omega)) (by omega)) ?_
    rintro v H1 ⟨c1, s1, rfl, o1, f1⟩
    have n1 := c1.n; try simp only [npz, nsz, nmz] at n1
    dsimp only
    refine Tot.bind (whole_norm_spec (lo := 0) o1.row (by omega) (digL _)) ?_
    rintro v H2 ⟨c2, i2⟩
    obtain ⟨b2, s2, rfl, -⟩ := i2.shape
    have n2 := c2.n; try simp only [npz, nsz, nmz] at n2
    rw [digV, show sgn false z.natAbs = z by unfold sgn; simp; omega] at i2
    simp (disch := first | omega | (simp only [npz, nsz, nmz] <;> omega) | (simp <;> omega) | fail) [lhz, lgz, sgz, faA_mk, boxA_agg, Heap.gqz, Heap.gpz, Heap.gtz, Heap.gsz, gmz, npz, nsz, nmz, chk_agg, c1.g, c2.g]
    exact Tot.ret (hQ _ _ ⟨Keep.ext (Keep.auto), i2.out (Keep.auto) (by omega)⟩)
theorem whole_neg_spec {H : Heap} {lo : Nat} {a : V} {z : Int} (h : isI H lo a z) (hm : (dig 4294967296 z.natAbs).length < 2000000000) :
    Tot (fun n => f_whole_neg n [a] H) fun v H' => Ext0 H H' ∧ isI H' H.n v (-z) := by
  obtain ⟨ba, s, rfl, hba, r, f⟩ := h.shape
  refine Tot.of fun Q hQ => ?_
  refine whole_neg_tot ?_
  simp (disch := first | omega | (simp only [npz, nsz, nmz] <;> omega) | (simp <;> omega) | fail) [lhz, lgz, sgz, faA_mk, boxA_agg, Heap.gqz, Heap.gpz, Heap.gtz, Heap.gsz, gmz, npz, nsz, nmz, chk_agg, ]
  refine Tot.bind (whole_norm_spec (lo := 0) (r.keep Fr.zero (Keep.auto)) hm (digL _)) ?_
  rintro v H1 ⟨c1, i1⟩
  obtain ⟨b1, s1, rfl, -⟩ := i1.shape
  have n1 := c1.n; try simp only [npz, nsz, nmz] at n1
  have e : sgn (!ba) z.natAbs = -z := by subst hba; unfold sgn; by_cases h : z < 0 <;> simp [h] <;> omega
  rw [digV, e] at i1
  simp (disch := first | omega | (simp only [npz, nsz, nmz] <;> omega) | (simp <;> omega) | fail) [lhz, lgz, sgz, faA_mk, boxA_agg, Heap.gqz, Heap.gpz, Heap.gtz, Heap.gsz, gmz, npz, nsz, nmz, chk_agg, c1.g]
  exact Tot.ret (hQ _ _ ⟨Keep.ext (Keep.auto), i1.out (Keep.auto) (by simp; omega)⟩)
theorem whole_Neg_spec {H : Heap} {lo : Nat} {a : V} {z : Int} (h : isI H lo a z) (hm : (dig 4294967296 z.natAbs).length < 2000000000) :
    Tot (fun n => f_whole_Neg n [a] H) fun v H' => Ext0 H H' ∧ isI H' H.n v (-z) := by
  obtain ⟨ba, s, rfl, hba, r, f⟩ := h.shape
  refine Tot.of fun Q hQ => ?_
  refine whole_Neg_tot ?_
  simp (disch := first | omega | (simp only [npz, nsz, nmz] <;> omega) | (simp <;> omega) | fail) [lhz, lgz, sgz, faA_mk, boxA_agg, Heap.gqz, Heap.gpz, Heap.gtz, Heap.gsz, gmz, npz, nsz, nmz, chk_agg, ]
  refine Tot.bind (whole_neg_spec ((h.mono (Nat.zero_le _)).keep (Keep.auto)) hm) ?_
  rintro v H1 ⟨c1, i1⟩
  obtain ⟨b1, s1, rfl, -⟩ := i1.shape
  have n1 := c1.n; try simp only [npz, nsz, nmz] at n1
  simp (disch := first | omega | (simp only [npz, nsz, nmz] <;> omega) | (simp <;> omega) | fail) [lhz, lgz, sgz, faA_mk, boxA_agg, Heap.gqz, Heap.gpz, Heap.gtz, Heap.gsz, gmz, npz, nsz, nmz, chk_agg, c1.g]
  exact Tot.ret (hQ _ _ ⟨Keep.ext (Keep.auto), i1.out (Keep.auto) (by simp; omega)⟩)
set_option maxHeartbeats 2000000 in
theorem whole_add_spec {H : Heap} {lo lo' : Nat} {a b : V} {x y : Int} (h : isI H lo a x) (h' : isI H lo' b y) (hm : (dig 4294967296 x.natAbs).length < 1000000000) (hm' : (dig 4294967296 y.natAbs).length < 1000000000) :
    Tot (fun n => f_whole_add n [a, b] H) fun v H' => Ext0 H H' ∧ isI H' H.n v (x + y) := by
  obtain ⟨ba, s, rfl, hba, r, f⟩ := h.shape
  obtain ⟨bb, s', rfl, hbb, r', f'⟩ := h'.shape
  have hsz : (dig 4294967296 (x.natAbs + y.natAbs)).length < 2000000000 := by
    have h1 := dig_len_lt (b := 4294967296) (x := x.natAbs) (by decide)
    have h2 := dig_len_lt (b := 4294967296) (x := y.natAbs) (by decide)
    refine Nat.lt_of_le_of_lt (dig_len_le (b := 4294967296) (n := (dig 4294967296 x.natAbs).length + (dig 4294967296 y.natAbs).length + 1) (by decide) ?_) (by omega)
    have h3 : 4294967296 ^ (dig 4294967296 x.natAbs).length ≤ 4294967296 ^ ((dig 4294967296 x.natAbs).length + (dig 4294967296 y.natAbs).length) := Nat.pow_le_pow_right (by decide) (by omega)
    have h4 : 4294967296 ^ (dig 4294967296 y.natAbs).length ≤ 4294967296 ^ ((dig 4294967296 x.natAbs).length + (dig 4294967296 y.natAbs).length) := Nat.pow_le_pow_right (by decide) (by omega)
    rw [Nat.pow_succ]; omega
  refine Tot.of fun Q hQ => ?_
  refine whole_add_tot ?_
  simp (disch := first | omega | (simp only [npz, nsz, nmz] <;> omega) | (simp <;> omega) | fail) [lhz, lgz, sgz, faA_mk, boxA_agg, Heap.gqz, Heap.gpz, Heap.gtz, Heap.gsz, gmz, npz, nsz, nmz, chk_agg, ]
  by_cases hs : (x < 0 ↔ y < 0)
  · have hs' : decide (x < 0) = decide (y < 0) := by simpa using hs
    refine Tot.yes (by rw [hba, hbb]; simpa using hs) ?_
    refine Tot.bind (nat_Add_spec (r.keep Fr.zero (Keep.auto)) (r'.keep Fr.zero (Keep.auto)) (by omega) (by omega) (digL _) (digL _)) ?_
    rintro v H1 ⟨c1, s1, rfl, r1, f1⟩
    have n1 := c1.n; try simp only [npz, nsz, nmz] at n1
    rw [digV, digV] at r1
    simp (disch := first | omega | (simp only [npz, nsz, nmz] <;> omega) | (simp <;> omega) | fail) [lhz, lgz, sgz, faA_mk, boxA_agg, Heap.gqz, Heap.gpz, Heap.gtz, Heap.gsz, gmz, npz, nsz, nmz, chk_agg, c1.g]
    refine Tot.bind (whole_norm_spec (lo := 0) r1 hsz (digL _)) ?_
    rintro v H2 ⟨c2, i2⟩
    obtain ⟨b2, s2, rfl, -⟩ := i2.shape
    have n2 := c2.n; try simp only [npz, nsz, nmz] at n2
    have e : sgn ba (x.natAbs + y.natAbs) = x + y := by subst hba hbb; unfold sgn; by_cases h : x < 0 <;> simp [h] <;> omega
    rw [digV, e] at i2
    simp (disch := first | omega | (simp only [npz, nsz, nmz] <;> omega) | (simp <;> omega) | fail) [lhz, lgz, sgz, faA_mk, boxA_agg, Heap.gqz, Heap.gpz, Heap.gtz, Heap.gsz, gmz, npz, nsz, nmz, chk_agg, c1.g, c2.g]
    exact Tot.ret (hQ _ _ ⟨Keep.ext (Keep.auto), i2.out (Keep.auto) (by omega)⟩)
  · refine Tot.no (by rw [hba, hbb]; simpa using hs) ?_
    refine Tot.bind (nat_Sub_spec (r.keep Fr.zero (Keep.auto)) (r'.keep Fr.zero (Keep.auto)) (by omega) (by omega) (digL _) (digL _)) ?_
    rintro v H1 ⟨c1, s1, rfl, r1, f1⟩
    have n1 := c1.n; try simp only [npz, nsz, nmz] at n1
    rw [digV, digV] at r1 ⊢
    simp (disch := first | omega | (simp only [npz, nsz, nmz] <;> omega) | (simp <;> omega) | fail) [lhz, lgz, sgz, faA_mk, boxA_agg, Heap.gqz, Heap.gpz, Heap.gtz, Heap.gsz, gmz, npz, nsz, nmz, chk_agg, c1.g]
    refine Tot.ite (fun hge => ?_) (fun hge => ?_)
    · refine Tot.bind (whole_norm_spec (lo := 0) r1 (Nat.lt_of_le_of_lt (sz_mono (by omega)) hsz) (digL _)) ?_
      rintro v H2 ⟨c2, i2⟩
      obtain ⟨b2, s2, rfl, -⟩ := i2.shape
      have n2 := c2.n; try simp only [npz, nsz, nmz] at n2
      have e : sgn ba (x.natAbs - y.natAbs) = x + y := by subst hba hbb; unfold sgn; by_cases h : x < 0 <;> simp [h] <;> omega
      rw [digV, e] at i2
      simp (disch := first | omega | (simp only [npz, nsz, nmz] <;> omega) | (simp <;> omega) | fail) [lhz, lgz, sgz, faA_mk, boxA_agg, Heap.gqz, Heap.gpz, Heap.gtz, Heap.gsz, gmz, npz, nsz, nmz, chk_agg, c1.g, c2.g]
      exact Tot.ret (hQ _ _ ⟨Keep.ext (Keep.auto), i2.out (Keep.auto) (by omega)⟩)
    · refine Tot.bind (nat_Sub_spec (r'.keep Fr.zero (Keep.auto)) (r.keep Fr.zero (Keep.auto)) (by omega) (by omega) (digL _) (digL _)) ?_
      rintro v H2 ⟨c2, s2, rfl, r2, f2⟩
      have n2 := c2.n; try simp only [npz, nsz, nmz] at n2
      rw [digV, digV] at r2 ⊢
      simp (disch := first | omega | (simp only [npz, nsz, nmz] <;> omega) | (simp <;> omega) | fail) [lhz, lgz, sgz, faA_mk, boxA_agg, Heap.gqz, Heap.gpz, Heap.gtz, Heap.gsz, gmz, npz, nsz, nmz, chk_agg, c1.g, c2.g]
      refine Tot.bind (whole_norm_spec (lo := 0) r2 (Nat.lt_of_le_of_lt (sz_mono (by omega)) hsz) (digL _)) ?_
      rintro v H3 ⟨c3, i3⟩
      obtain ⟨b3, s3, rfl, -⟩ := i3.shape
      have n3 := c3.n; try simp only [npz, nsz, nmz] at n3
      have e : sgn bb (y.natAbs - x.natAbs) = x + y := by subst hba hbb; unfold sgn; by_cases h : y < 0 <;> simp [h] <;> omega
      rw [digV, e] at i3
      simp (disch := first | omega | (simp only [npz, nsz, nmz] <;> omega) | (simp <;> omega) | fail) [lhz, lgz, sgz, faA_mk, boxA_agg, Heap.gqz, Heap.gpz, Heap.gtz, Heap.gsz, gmz, npz, nsz, nmz, chk_agg, c1.g, c2.g, c3.g]
      exact Tot.ret (hQ _ _ ⟨Keep.ext (Keep.auto), i3.out (Keep.auto) (by omega)⟩)
theorem whole_Add_spec {H : Heap} {lo lo' : Nat} {a b : V} {x y : Int} (h : isI H lo a x) (h' : isI H lo' b y) (hm : (dig 4294967296 x.natAbs).length < 1000000000) (hm' : (dig 4294967296 y.natAbs).length < 1000000000) :
    Tot (fun n => f_whole_Add n [a, b] H) fun v H' => Ext0 H H' ∧ isI H' H.n v (x + y) := by
  obtain ⟨ba, s, rfl, hba, r, f⟩ := h.shape
  obtain ⟨bb, s', rfl, hbb, r', f'⟩ := h'.shape
  refine Tot.of fun Q hQ => ?_
  refine whole_Add_tot ?_
  simp (disch := first | omega | (simp only [npz, nsz, nmz] <;> omega) | (simp <;> omega) | fail) [lhz, lgz, sgz, faA_mk, boxA_agg, Heap.gqz, Heap.gpz, Heap.gtz, Heap.gsz, gmz, npz, nsz, nmz, chk_agg, ]
  refine Tot.bind (whole_add_spec ((h.mono (Nat.zero_le _)).keep (Keep.auto)) ((h'.mono (Nat.zero_le _)).keep (Keep.auto)) hm hm') ?_
  rintro v H1 ⟨c1, i1⟩
  obtain ⟨b1, s1, rfl, -⟩ := i1.shape
  have n1 := c1.n; try simp only [npz, nsz, nmz] at n1
  simp (disch := first | omega | (simp only [npz, nsz, nmz] <;> omega) | (simp <;> omega) | fail) [lhz, lgz, sgz, faA_mk, boxA_agg, Heap.gqz, Heap.gpz, Heap.gtz, Heap.gsz, gmz, npz, nsz, nmz, chk_agg, c1.g]
  exact Tot.ret (hQ _ _ ⟨Keep.ext (Keep.auto), i1.out (Keep.auto) (by simp; omega)⟩)
theorem sz_mul {x y : Nat} : (dig 4294967296 (x * y)).length ≤ (dig 4294967296 x).length + (dig 4294967296 y).length := by
  apply dig_len_le (by decide)
  rw [Nat.pow_add]
  rcases Nat.eq_zero_or_pos x with h | h
  · subst h; simp; exact Nat.mul_pos (Nat.pow_pos (by decide)) (Nat.pow_pos (by decide))
  · exact Nat.mul_lt_mul_of_lt_of_le (dig_len_lt (by decide)) (Nat.le_of_lt (dig_len_lt (by decide))) (by have := Nat.pow_pos (n := (dig 4294967296 y).length) (show 0 < 4294967296 by decide); omega)
theorem whole_Mul_spec {H : Heap} {lo lo' : Nat} {a b : V} {x y : Int} (h : isI H lo a x) (h' : isI H lo' b y) (hm : (dig 4294967296 x.natAbs).length + (dig 4294967296 y.natAbs).length < 2000000000) :
    Tot (fun n => f_whole_Mul n [a, b] H) fun v H' => Ext0 H H' ∧ isI H' H.n v (x * y) := by
  obtain ⟨ba, s, rfl, hba, r, f⟩ := h.shape
  obtain ⟨bb, s', rfl, hbb, r', f'⟩ := h'.shape
  refine Tot.of fun Q hQ => ?_
  refine whole_Mul_tot ?_
  simp (disch := first | omega | (simp only [npz, nsz, nmz] <;> omega) | (simp <;> omega) | fail) [lhz, lgz, sgz, faA_mk, boxA_agg, Heap.gqz, Heap.gpz, Heap.gtz, Heap.gsz, gmz, npz, nsz, nmz, chk_agg, ]
  refine Tot.bind (nat_Mul_spec (r.keep Fr.zero (Keep.auto)) (r'.keep Fr.zero (Keep.auto)) hm (digL _) (digL _)) ?_
  rintro v H1 ⟨c1, s1, rfl, r1, f1⟩
  have n1 := c1.n; try simp only [npz, nsz, nmz] at n1
  rw [digV, digV] at r1
  simp (disch := first | omega | (simp only [npz, nsz, nmz] <;> omega) | (simp <;> omega) | fail) [lhz, lgz, sgz, faA_mk, boxA_agg, Heap.gqz, Heap.gpz, Heap.gtz, Heap.gsz, gmz, npz, nsz, nmz, chk_agg, c1.g]
  refine Tot.bind (whole_norm_spec (lo := 0) r1 (Nat.lt_of_le_of_lt sz_mul hm) (digL _)) ?_
  rintro v H2 ⟨c2, i2⟩
  obtain ⟨b2, s2, rfl, -⟩ := i2.shape
  have n2 := c2.n; try simp only [npz, nsz, nmz] at n2
  have e : sgn (!(ba == bb)) (x.natAbs * y.natAbs) = x * y := by
    rw [hba, hbb]; exact sgn_mul0 x y
  rw [digV, e] at i2
  simp (disch := first | omega | (simp only [npz, nsz, nmz] <;> omega) | (simp <;> omega) | fail) [lhz, lgz, sgz, faA_mk, boxA_agg, Heap.gqz, Heap.gpz, Heap.gtz, Heap.gsz, gmz, npz, nsz, nmz, chk_agg, c1.g, c2.g]
  exact Tot.ret (hQ _ _ ⟨Keep.ext (Keep.auto), i2.out (Keep.auto) (by omega)⟩)
end Go.AM
end
section
set_option linter.unusedVariables false
set_option linter.unusedSimpArgs false
set_option linter.unusedSimpArgs false
set_option linter.unusedVariables false
namespace Go.AM
attribute [local congr] bnd_weak ite_weak
theorem whole_sign_spec {H : Heap} {lo : Nat} {a : V} {z : Int} (h : isI H lo a z) (hm : (dig 4294967296 z.natAbs).length < 2000000000) :
    Tot (fun n => f_whole_sign n [a] H) fun v H' => Ext0 H H' ∧ v = .int .i64 z.sign := by
  obtain ⟨ba, s, rfl, hba, r, f⟩ := h.shape
  refine Tot.of fun Q hQ => ?_
  refine whole_sign_tot ?_
  simp (disch := first | omega | (simp only [npz, nsz, nmz] <;> omega) | (simp <;> omega) | fail) [lhz, lgz, sgz, faA_mk, boxA_agg, Heap.gqz, Heap.gpz, Heap.gtz, Heap.gsz, gmz, npz, nsz, nmz, chk_agg, ]
  refine Tot.bind (nat_Bits_spec (r.keep Fr.zero (Keep.auto)) hm (digL _)) ?_
  rintro v H1 ⟨rfl, k, rfl, hk⟩
  rw [digV] at hk
  simp (disch := first | omega | (simp only [npz, nsz, nmz] <;> omega) | (simp <;> omega) | fail) [lhz, lgz, sgz, faA_mk, boxA_agg, Heap.gqz, Heap.gpz, Heap.gtz, Heap.gsz, gmz, npz, nsz, nmz, chk_agg, ]
  refine Tot.ite (fun h0 => ?_) (fun h0 => ?_)
  · have : z = 0 := by omega
    subst this
    exact Tot.ret (hQ _ _ ⟨Ch.push, rfl⟩)
  · try simp (disch := first | omega | (simp only [npz, nsz, nmz] <;> omega) | (simp <;> omega) | fail) [lhz, lgz, sgz, faA_mk, boxA_agg, Heap.gqz, Heap.gpz, Heap.gtz, Heap.gsz, gmz, npz, nsz, nmz, chk_agg, ]
    refine Tot.ite (fun h1 => ?_) (fun h1 => ?_)
    · have : z < 0 := by rw [hba] at h1; simpa using h1
      exact Tot.ret (hQ _ _ ⟨Ch.push, by rw [Int.sign_eq_neg_one_of_neg this]⟩)
    · have : 0 < z := by rw [hba] at h1; have := of_decide_eq_false (p := z < 0) (by simpa using h1); omega
      exact Tot.ret (hQ _ _ ⟨Ch.push, by rw [Int.sign_eq_one_of_pos this]⟩)
theorem whole_Sign_spec {H : Heap} {lo : Nat} {a : V} {z : Int} (h : isI H lo a z) (hm : (dig 4294967296 z.natAbs).length < 2000000000) :
    Tot (fun n => f_whole_Sign n [a] H) fun v H' => Ext0 H H' ∧ v = .int .i64 z.sign := by
  obtain ⟨ba, s, rfl, hba, r, f⟩ := h.shape
  refine Tot.of fun Q hQ => ?_
  refine whole_Sign_tot ?_
  simp (disch := first | omega | (simp only [npz, nsz, nmz] <;> omega) | (simp <;> omega) | fail) [lhz, lgz, sgz, faA_mk, boxA_agg, Heap.gqz, Heap.gpz, Heap.gtz, Heap.gsz, gmz, npz, nsz, nmz, chk_agg, ]
  refine Tot.bind (whole_sign_spec ((h.mono (Nat.zero_le _)).keep (Keep.auto)) hm) ?_
  rintro v H1 ⟨c1, rfl⟩
  exact Tot.ret (hQ _ _ ⟨Ch.push.t c1, rfl⟩)
end Go.AM
end
section
set_option linter.unusedVariables false
set_option linter.unusedSimpArgs false
set_option linter.unusedSimpArgs false
set_option linter.unusedVariables false
namespace Go.AM
attribute [local congr] bnd_weak ite_weak
def isR (H : Heap) (lo : Nat) (v : V) (n : Int) (d : Nat) : Prop :=
  ∃ b s t, v = .agg [.bool b, .slice s, .slice t] ∧ isI H lo (.agg [.bool b, .slice s]) n ∧ Row H .u32 t (dig 4294967296 d) ∧ Fr lo t ∧ 0 < d ∧ Nat.gcd n.natAbs d = 1
theorem isR.keep {H H' : Heap} {lo : Nat} {v : V} {n : Int} {d : Nat} (h : isR H lo v n d) (c : Keep lo H H') : isR H' lo v n d := by
  obtain ⟨b, s, t, rfl, i, r, f, h1, h2⟩ := h; exact ⟨b, s, t, rfl, i.keep c, r.keep f c, f, h1, h2⟩
theorem isR.mono {H : Heap} {lo lo' : Nat} {v : V} {n : Int} {d : Nat} (h : isR H lo v n d) (c : lo' ≤ lo) : isR H lo' v n d := by
  obtain ⟨b, s, t, rfl, i, r, f, h1, h2⟩ := h; exact ⟨b, s, t, rfl, i.mono c, r, f.mono c, h1, h2⟩
theorem isR.out {H1 H2 : Heap} {lo n : Nat} {v : V} {z : Int} {d : Nat} (h : isR H1 lo v z d) (c : Keep lo H1 H2) (hn : n ≤ lo) : isR H2 n v z d := (h.keep c).mono hn
def lowN (n : Int) (d : Nat) : Int := if d = 0 then 0 else sgn (decide (n < 0)) (n.natAbs / Nat.gcd n.natAbs d)
def lowD (n : Int) (d : Nat) : Nat := if d = 0 then 1 else d / Nat.gcd n.natAbs d
theorem lowD_pos {n : Int} {d : Nat} : 0 < lowD n d := by
  unfold lowD; split
  · decide
  · rename_i h
    exact Nat.div_pos (Nat.le_of_dvd (by omega) (Nat.gcd_dvd_right _ _)) (Nat.gcd_pos_of_pos_right _ (by omega))
theorem low_cop {n : Int} {d : Nat} : Nat.gcd (lowN n d).natAbs (lowD n d) = 1 := by
  unfold lowN lowD
  by_cases h : d = 0
  · simp [h]
  · simp only [if_neg h, sgn_abs]
    rw [Nat.gcd_div (Nat.gcd_dvd_left _ _) (Nat.gcd_dvd_right _ _)]
    exact Nat.div_self (Nat.gcd_pos_of_pos_right _ (by omega))
theorem low_zero {d : Nat} : lowN 0 d = 0 ∧ lowD 0 d = 1 := by
  unfold lowN lowD
  by_cases h : d = 0
  · simp [h]
  · simp [h, sgn]; exact Nat.div_self (by omega)
theorem one_row {G : Heap} : Row (G.push (.cells [.int .u32 1] ty_uint32 false)) .u32 ⟨some (G.n, 0), 1, 1, false⟩ (dig 4294967296 1) := by
  rw [dig_one (by decide) (by decide)]
  exact Row.new (l := [1]) (e := ty_uint32) (ro := false) (by simp) (by rw [Heap.gpz rfl]; rfl)
set_option maxHeartbeats 2000000 in
theorem rat_lowest_spec {H : Heap} {b : Bool} {s t : Sl} {l lt : List Nat} (r : Row H .u32 s l) (r' : Row H .u32 t lt) (hm : l.length < 900000000) (hm' : lt.length < 900000000) (hL : Lim 4294967296 l) (hL' : Lim 4294967296 lt) :
    Tot (fun n => f_rat_lowest n [.agg [.bool b, .slice s], .slice t] H) fun v H' => Ext0 H H' ∧ isR H' H.n v (lowN (sgn b (val 4294967296 l)) (val 4294967296 lt)) (lowD (sgn b (val 4294967296 l)) (val 4294967296 lt)) := by
  have k1 := dig_len_le (b := 4294967296) (by decide) (val_lt hL)
  have k2 := dig_len_le (b := 4294967296) (by decide) (val_lt hL')
  refine Tot.of fun Q hQ => ?_
  refine rat_lowest_tot ?_
  simp only [rat_lowest_b]
  repeat (first | refine Tot.autoP ?_ | refine Tot.autoC ?_ | fail)
  refine Tot.bind (whole_Norm_spec (r.keep Fr.zero (Keep.auto)) (by omega) hL) ?_
  rintro v H1 ⟨c1, i1⟩
  have n1 := c1.n; try simp only [npz, nsz, nmz] at n1
  obtain ⟨b1, s1, rfl, hb1, r1, f1⟩ := i1.shape
  rw [sgn_abs] at r1
  obtain ⟨z, hz⟩ : ∃ z, z = sgn b (val 4294967296 l) := ⟨_, rfl⟩
  have hza : z.natAbs = val 4294967296 l := by rw [hz, sgn_abs]
  rw [← hz] at hQ i1 hb1
  dsimp only
  refine Tot.bind (nat_Trim_spec (r'.keep Fr.zero (Keep.auto)) (by omega) hL') ?_
  rintro v H2 ⟨c2, t2, rfl, o2, f2⟩
  have n2 := c2.n; try simp only [npz, nsz, nmz] at n2
  have r2 := o2.row
  have hb0 : bSl 1 ty_uint32 [.int .u32 0] 1 [(0, .int .u32 1)] = some (.cells [.int .u32 1] ty_uint32 false) := by simp [bSl, rowA]
  obtain ⟨d, hd⟩ : ∃ d, d = val 4294967296 lt := ⟨_, rfl⟩
  rw [← hd] at hQ r2 k2
  rw [← hza] at r1 k1
  dsimp only
  repeat (first | refine Tot.pure (by simp (disch := first | omega | (simp only [npz, nsz, nmz] <;> omega) | fail) [lhz, lgz, sgz, boxA, gz, gs, Heap.gqz, Heap.gpz, Heap.gtz, Heap.gsz, gmz, npz, nsz, nmz, c1.g, c2.g, r2.lenSl]; try exact rfl) ?_ | refine Tot.chk (by simp (disch := first | omega | (simp only [npz, nsz, nmz] <;> omega) | fail) [lhz, lgz, sgz, boxA, gz, gs, Heap.gqz, Heap.gpz, Heap.gtz, Heap.gsz, gmz, npz, nsz, nmz, c1.g, c2.g, r2.lenSl]; done) ?_ | fail)
  have fin0 : ∀ (G : Heap), H.n + 2 ≤ G.n → Keep 0 H G → (d = 0 ∨ z = 0) → Q (.agg [.bool false, .slice ⟨none, 0, 0, false⟩, .slice ⟨some (G.n, 0), 1, 1, false⟩]) (((G.push (.cells [.int .u32 1] ty_uint32 false))).set (H.n + 1) (.cells [.bool false, .slice ⟨none, 0, 0, false⟩, .slice ⟨some (G.n, 0), 1, 1, false⟩] ty_api_Rat false)) := by
    intro G hGn kG h0
    have kn := kG.n
    have e1 : lowN z d = 0 := by
      rcases h0 with h0 | h0
      · simp [lowN, h0]
      · rw [h0]; exact low_zero.1
    have e2 : lowD z d = 1 := by
      rcases h0 with h0 | h0
      · simp [lowD, h0]
      · rw [h0]; exact low_zero.2
    refine hQ _ _ ⟨Keep.ext (Keep.set (Keep.push kG) (by omega)), ?_⟩
    rw [e1, e2]
    refine ⟨_, _, _, rfl, ⟨⟨none, 0, 0, false⟩, by simp, by rw [Int.natAbs_zero, dig_zero]; exact Row.nil, Fr.nil⟩, one_row.keep (lo := G.n) (fun i hi => by rw [has_mk] at hi; omega) (Keep.auto), fun i hi => by rw [has_mk] at hi; omega, by decide, by decide⟩
  refine Tot.ite (fun h0 => ?_) (fun h0 => ?_)
  · repeat (first | refine Tot.pure (by simp (disch := first | omega | (simp only [npz, nsz, nmz] <;> omega) | fail) [lhz, lgz, sgz, boxA, gz, gs, Heap.gqz, Heap.gpz, Heap.gtz, Heap.gsz, gmz, npz, nsz, nmz, c1.g, c2.g, hb0]; try exact rfl) ?_ | refine Tot.chk (by simp (disch := first | omega | (simp only [npz, nsz, nmz] <;> omega) | fail) [lhz, lgz, sgz, boxA, gz, gs, Heap.gqz, Heap.gpz, Heap.gtz, Heap.gsz, gmz, npz, nsz, nmz, c1.g, c2.g, hb0]; done) ?_ | fail)
    have hd0 : d = 0 := by
      rw [← dig_eq_nil (b := 4294967296) (by decide)]
      exact List.eq_nil_of_length_eq_zero (by simpa using h0)
    exact Tot.ret (fin0 (H2.set H.n (.cells [.bool b1, .slice s1] ty_api_Int false)) (by simp only [nsz]; omega) (Keep.auto) (.inl hd0))
  · have hd0 : d ≠ 0 := by
      intro e; apply h0; rw [e, dig_zero]; simp
    repeat (first | refine Tot.pure (by simp (disch := first | omega | (simp only [npz, nsz, nmz] <;> omega) | fail) [lhz, lgz, sgz, boxA, gz, gs, Heap.gqz, Heap.gpz, Heap.gtz, Heap.gsz, gmz, npz, nsz, nmz, c1.g, c2.g, r1.lenSl]; try exact rfl) ?_ | refine Tot.chk (by simp (disch := first | omega | (simp only [npz, nsz, nmz] <;> omega) | fail) [lhz, lgz, sgz, boxA, gz, gs, Heap.gqz, Heap.gpz, Heap.gtz, Heap.gsz, gmz, npz, nsz, nmz, c1.g, c2.g, r1.lenSl]; done) ?_ | fail)
    refine Tot.ite (fun h1 => ?_) (fun h1 => ?_)
    · repeat (first | refine Tot.pure (by simp (disch := first | omega | (simp only [npz, nsz, nmz] <;> omega) | fail) [lhz, lgz, sgz, boxA, gz, gs, Heap.gqz, Heap.gpz, Heap.gtz, Heap.gsz, gmz, npz, nsz, nmz, c1.g, c2.g, hb0]; try exact rfl) ?_ | refine Tot.chk (by simp (disch := first | omega | (simp only [npz, nsz, nmz] <;> omega) | fail) [lhz, lgz, sgz, boxA, gz, gs, Heap.gqz, Heap.gpz, Heap.gtz, Heap.gsz, gmz, npz, nsz, nmz, c1.g, c2.g, hb0]; done) ?_ | fail)
      have hz0 : z.natAbs = 0 := by
        rw [← dig_eq_nil (b := 4294967296) (by decide)]
        exact List.eq_nil_of_length_eq_zero (by simpa using h1)
      exact Tot.ret (fin0 (H2.set H.n (.cells [.bool b1, .slice s1] ty_api_Int false)) (by simp only [nsz]; omega) (Keep.auto) (.inr (by omega)))
    · have hz0 : z.natAbs ≠ 0 := by
        intro e; apply h1; rw [e, dig_zero]; simp
      repeat (first | refine Tot.pure (by simp (disch := first | omega | (simp only [npz, nsz, nmz] <;> omega) | fail) [lhz, lgz, sgz, boxA, gz, gs, Heap.gqz, Heap.gpz, Heap.gtz, Heap.gsz, gmz, npz, nsz, nmz, c1.g, c2.g]; try exact rfl) ?_ | refine Tot.chk (by simp (disch := first | omega | (simp only [npz, nsz, nmz] <;> omega) | fail) [lhz, lgz, sgz, boxA, gz, gs, Heap.gqz, Heap.gpz, Heap.gtz, Heap.gsz, gmz, npz, nsz, nmz, c1.g, c2.g]; done) ?_ | fail)
      have hg0 : 0 < Nat.gcd z.natAbs d := Nat.gcd_pos_of_pos_right _ (by omega)
      refine Tot.bind (nat_Gcd_spec (r1.keep f1 (Keep.auto)) (r2.keep (lo := H1.n) f2 (Keep.auto)) (digL _) (digL _) (by omega) (by omega)) ?_
      rintro v H3 ⟨c3, s3, rfl, r3, f3⟩
      have n3 := c3.n; try simp only [npz, nsz, nmz] at n3
      rw [digV, digV] at r3
      have k3 : (dig 4294967296 (Nat.gcd z.natAbs d)).length ≤ (dig 4294967296 d).length := sz_mono (Nat.gcd_le_right _ (by omega))
      generalize hg : Nat.gcd z.natAbs d = g at *
      dsimp only
      repeat (first | refine Tot.pure (by simp (disch := first | omega | (simp only [npz, nsz, nmz] <;> omega) | fail) [lhz, lgz, sgz, boxA, gz, gs, Heap.gqz, Heap.gpz, Heap.gtz, Heap.gsz, gmz, npz, nsz, nmz, c1.g, c2.g, c3.g]; try exact rfl) ?_ | refine Tot.chk (by simp (disch := first | omega | (simp only [npz, nsz, nmz] <;> omega) | fail) [lhz, lgz, sgz, boxA, gz, gs, Heap.gqz, Heap.gpz, Heap.gtz, Heap.gsz, gmz, npz, nsz, nmz, c1.g, c2.g, c3.g]; done) ?_ | fail)
      refine Tot.bind (nat_DivMod_spec (r1.keep f1 (Keep.auto)) r3 (digL _) (digL _) (by omega) (by omega) (by rw [digV]; exact hg0)) ?_
      rintro v H4 ⟨c4, s4, s5, rfl, r4, -, f4, -⟩
      have n4 := c4.n; try simp only [npz, nsz, nmz] at n4
      rw [digV, digV] at r4
      dsimp only
      repeat (first | refine Tot.pure (by simp (disch := first | omega | (simp only [npz, nsz, nmz] <;> omega) | fail) [lhz, lgz, sgz, boxA, gz, gs, Heap.gqz, Heap.gpz, Heap.gtz, Heap.gsz, gmz, npz, nsz, nmz, c1.g, c2.g, c3.g, c4.g]; try exact rfl) ?_ | refine Tot.chk (by simp (disch := first | omega | (simp only [npz, nsz, nmz] <;> omega) | fail) [lhz, lgz, sgz, boxA, gz, gs, Heap.gqz, Heap.gpz, Heap.gtz, Heap.gsz, gmz, npz, nsz, nmz, c1.g, c2.g, c3.g, c4.g]; done) ?_ | fail)
      refine Tot.bind (nat_DivMod_spec (r2.keep (lo := H1.n) f2 (Keep.auto)) (r3.keep f3 (Keep.auto)) (digL _) (digL _) (by omega) (by omega) (by rw [digV]; exact hg0)) ?_
      rintro v H5 ⟨c5, s6, s7, rfl, r5, -, f5, -⟩
      have n5 := c5.n; try simp only [npz, nsz, nmz] at n5
      rw [digV, digV] at r5
      dsimp only
      repeat (first | refine Tot.pure (by simp (disch := first | omega | (simp only [npz, nsz, nmz] <;> omega) | fail) [lhz, lgz, sgz, boxA, gz, gs, Heap.gqz, Heap.gpz, Heap.gtz, Heap.gsz, gmz, npz, nsz, nmz, c1.g, c2.g, c3.g, c4.g, c5.g]; try exact rfl) ?_ | refine Tot.chk (by simp (disch := first | omega | (simp only [npz, nsz, nmz] <;> omega) | fail) [lhz, lgz, sgz, boxA, gz, gs, Heap.gqz, Heap.gpz, Heap.gtz, Heap.gsz, gmz, npz, nsz, nmz, c1.g, c2.g, c3.g, c4.g, c5.g]; done) ?_ | fail)
      refine Tot.ret (hQ _ _ ⟨Keep.ext (Keep.auto), ?_⟩)
      have eN : lowN z d = sgn b1 (z.natAbs / g) := by rw [lowN, if_neg hd0, hb1, hg]
      have eD : lowD z d = d / g := by rw [lowD, if_neg hd0, hg]
      have hqn : z.natAbs / g ≠ 0 := by
        have := Nat.div_pos (Nat.le_of_dvd (by omega) (hg ▸ Nat.gcd_dvd_left z.natAbs d)) hg0
        omega
      refine ⟨b1, s4, s6, rfl, ⟨s4, ?_, ?_, ?_⟩, ?_, ?_, lowD_pos, low_cop⟩
      · rw [eN, sgn_neg]; simp [hqn]
      · rw [eN, sgn_abs]; exact r4.keep f4 (Keep.auto)
      · exact f4.mono (by omega)
      · rw [eD]; exact r5.keep f5 (Keep.auto)
      · exact f5.mono (by simp; omega)
def rawR (H : Heap) (v : V) (n : Int) (d N : Nat) : Prop :=
  ∃ b s t l lt, v = .agg [.bool b, .slice s, .slice t] ∧ Row H .u32 s l ∧ Row H .u32 t lt ∧ Lim 4294967296 l ∧ Lim 4294967296 lt ∧ l.length ≤ N ∧ lt.length ≤ N ∧ n = sgn b (val 4294967296 l) ∧ d = val 4294967296 lt
theorem rawR.ext {H H' : Heap} {v : V} {n : Int} {d N : Nat} (h : rawR H v n d N) (c : Ext0 H H') : rawR H' v n d N := by
  obtain ⟨b, s, t, l, lt, rfl, r1, r2, h⟩ := h
  exact ⟨b, s, t, l, lt, rfl, r1.ext c, r2.ext c, h⟩
theorem rat_norm_spec {H : Heap} {v : V} {n : Int} {d N : Nat} (h : rawR H v n d N) (hm : N < 900000000) :
    Tot (fun n => f_rat_norm n [v] H) fun v H' => Ext0 H H' ∧ isR H' H.n v (lowN n d) (lowD n d) := by
  obtain ⟨b, s, t, l, lt, rfl, r1, r2, hL, hL', hl, hl', rfl, rfl⟩ := h
  refine Tot.of fun Q hQ => ?_
  refine rat_norm_tot ?_
  simp only [rat_norm_b]
  repeat (first | refine Tot.autoP ?_ | refine Tot.autoC ?_ | fail)
  refine Tot.bind (rat_lowest_spec (r1.keep Fr.zero (Keep.auto)) (r2.keep Fr.zero (Keep.auto)) (by omega) (by omega) hL hL') ?_
  rintro v H1 ⟨c1, i1⟩
  have n1 := c1.n; try simp only [npz, nsz, nmz] at n1
  obtain ⟨b1, s1, t1, rfl, -⟩ := id i1
  dsimp only
  repeat (first | refine Tot.pure (by simp (disch := first | omega | (simp only [npz, nsz, nmz] <;> omega) | fail) [lhz, lgz, sgz, boxA, gz, gs, Heap.gqz, Heap.gpz, Heap.gtz, Heap.gsz, gmz, npz, nsz, nmz, c1.g]; try exact rfl) ?_ | refine Tot.chk (by simp (disch := first | omega | (simp only [npz, nsz, nmz] <;> omega) | fail) [lhz, lgz, sgz, boxA, gz, gs, Heap.gqz, Heap.gpz, Heap.gtz, Heap.gsz, gmz, npz, nsz, nmz, c1.g]; done) ?_ | fail)
  exact Tot.ret (hQ _ _ ⟨Keep.ext (Keep.auto), i1.out (Keep.auto) (by simp; omega)⟩)
end Go.AM
end
section
set_option linter.unusedVariables false
set_option linter.unusedSimpArgs false
set_option linter.unusedSimpArgs false
set_option linter.unusedVariables false
namespace Go.AM
attribute [local congr] bnd_weak ite_weak
theorem lowN_le {n : Int} {d : Nat} : (lowN n d).natAbs ≤ n.natAbs := by
  unfold lowN; split
  · simp
  · rw [sgn_abs]; exact Nat.div_le_self _ _
theorem lowD_le {n : Int} {d : Nat} : lowD n d ≤ max d 1 := by
  unfold lowD; split
  · omega
  · have := Nat.div_le_self d (Nat.gcd n.natAbs d); omega
theorem low_sz {H : Heap} {v : V} {n : Int} {d N : Nat} (h : rawR H v n d N) : (dig 4294967296 (lowN n d).natAbs).length ≤ N + 1 ∧ (dig 4294967296 (lowD n d)).length ≤ N + 1 := by
  obtain ⟨b, s, t, l, lt, rfl, r1, r2, hL, hL', hl, hl', rfl, rfl⟩ := h
  have k1 := dig_len_le (b := 4294967296) (by decide) (val_lt hL)
  have k2 := dig_len_le (b := 4294967296) (by decide) (val_lt hL')
  constructor
  · have := sz_mono (lowN_le (n := sgn b (val 4294967296 l)) (d := val 4294967296 lt))
    rw [sgn_abs] at this; omega
  · have h1 := lowD_le (n := sgn b (val 4294967296 l)) (d := val 4294967296 lt)
    have h2 := sz_mono h1
    have h3 : (dig 4294967296 (max (val 4294967296 lt) 1)).length ≤ lt.length + 1 := by
      apply dig_len_le (by decide)
      have := val_lt hL'
      rw [Nat.pow_succ]
      have h4 : 0 < 4294967296 ^ lt.length := Nat.pow_pos (by decide)
      omega
    omega
set_option maxHeartbeats 2000000 in
theorem rat_Mul_spec {H : Heap} {v w : V} {n m : Int} {d e N : Nat} (h : rawR H v n d N) (h' : rawR H w m e N) (hm : N < 100000000) :
    Tot (fun n => f_rat_Mul n [v, w] H) fun v H' => Ext0 H H' ∧ isR H' H.n v (lowN (lowN n d * lowN m e) (lowD n d * lowD m e)) (lowD (lowN n d * lowN m e) (lowD n d * lowD m e)) := by
  have z1 := low_sz h
  have z2 := low_sz h'
  have ha := h
  have hb := h'
  obtain ⟨b, s, t, l, lt, rfl, -⟩ := h
  obtain ⟨b', s', t', l', lt', rfl, -⟩ := h'
  refine Tot.of fun Q hQ => ?_
  refine rat_Mul_tot ?_
  simp only [rat_Mul_b]
  repeat (first | refine Tot.autoP ?_ | refine Tot.autoC ?_ | fail)
  refine Tot.bind (rat_norm_spec (ha.ext (Keep.ext (Keep.auto))) (by omega)) ?_
  rintro v H1 ⟨c1, i1⟩
  have n1 := c1.n; try simp only [npz, nsz, nmz] at n1
  obtain ⟨b1, s1, t1, rfl, -⟩ := id i1
  dsimp only
  repeat (first | refine Tot.pure (by simp (disch := first | omega | (simp only [npz, nsz, nmz] <;> omega) | fail) [lhz, lgz, sgz, boxA, gz, gs, Heap.gqz, Heap.gpz, Heap.gtz, Heap.gsz, gmz, npz, nsz, nmz, c1.g]; try exact rfl) ?_ | refine Tot.chk (by simp (disch := first | omega | (simp only [npz, nsz, nmz] <;> omega) | fail) [lhz, lgz, sgz, boxA, gz, gs, Heap.gqz, Heap.gpz, Heap.gtz, Heap.gsz, gmz, npz, nsz, nmz, c1.g]; done) ?_ | fail)
  refine Tot.bind (rat_norm_spec (hb.ext (Keep.ext (Keep.auto))) (by omega)) ?_
  rintro v H2 ⟨c2, i2⟩
  have n2 := c2.n; try simp only [npz, nsz, nmz] at n2
  obtain ⟨b2, s2, t2, rfl, -⟩ := id i2
  dsimp only
  repeat (first | refine Tot.pure (by simp (disch := first | omega | (simp only [npz, nsz, nmz] <;> omega) | fail) [lhz, lgz, sgz, boxA, gz, gs, Heap.gqz, Heap.gpz, Heap.gtz, Heap.gsz, gmz, npz, nsz, nmz, c1.g, c2.g]; try exact rfl) ?_ | refine Tot.chk (by simp (disch := first | omega | (simp only [npz, nsz, nmz] <;> omega) | fail) [lhz, lgz, sgz, boxA, gz, gs, Heap.gqz, Heap.gpz, Heap.gtz, Heap.gsz, gmz, npz, nsz, nmz, c1.g, c2.g]; done) ?_ | fail)
  generalize lowN n d = x at *
  generalize lowN m e = y at *
  generalize lowD n d = p at *
  generalize lowD m e = q at *
  obtain ⟨_, _, _, e1, j1, r1, f1, -, -⟩ := i1
  simp at e1
  obtain ⟨rfl, rfl, rfl⟩ := e1
  obtain ⟨_, _, _, e2, j2, r2, f2, -, -⟩ := i2
  simp at e2
  obtain ⟨rfl, rfl, rfl⟩ := e2
  refine Tot.bind (whole_Mul_spec (j1.keep (Keep.auto)) (j2.keep (Keep.auto)) (by omega)) ?_
  rintro v H3 ⟨c3, i3⟩
  have n3 := c3.n; try simp only [npz, nsz, nmz] at n3
  obtain ⟨b3, s3, rfl, hb3, r3, f3⟩ := i3.shape
  dsimp only
  repeat (first | refine Tot.pure (by simp (disch := first | omega | (simp only [npz, nsz, nmz] <;> omega) | fail) [lhz, lgz, sgz, boxA, gz, gs, Heap.gqz, Heap.gpz, Heap.gtz, Heap.gsz, gmz, npz, nsz, nmz, c1.g, c2.g, c3.g]; try exact rfl) ?_ | refine Tot.chk (by simp (disch := first | omega | (simp only [npz, nsz, nmz] <;> omega) | fail) [lhz, lgz, sgz, boxA, gz, gs, Heap.gqz, Heap.gpz, Heap.gtz, Heap.gsz, gmz, npz, nsz, nmz, c1.g, c2.g, c3.g]; done) ?_ | fail)
  refine Tot.bind (nat_Mul_spec (r1.keep f1 (Keep.auto)) (r2.keep f2 (Keep.auto)) (by omega) (digL _) (digL _)) ?_
  rintro v H4 ⟨c4, s4, rfl, r4, f4⟩
  have n4 := c4.n; try simp only [npz, nsz, nmz] at n4
  rw [digV, digV] at r4
  dsimp only
  have k3 := sz_mul (x := x.natAbs) (y := y.natAbs)
  have k4 := sz_mul (x := p) (y := q)
  rw [← Int.natAbs_mul] at k3
  refine Tot.bind (rat_lowest_spec (r3.keep f3 (Keep.auto)) r4 (by omega) (by omega) (digL _) (digL _)) ?_
  rintro v H5 ⟨c5, i5⟩
  have n5 := c5.n; try simp only [npz, nsz, nmz] at n5
  obtain ⟨b5, s5, t5, rfl, -⟩ := id i5
  rw [digV, digV, hb3, sgn_of] at i5
  dsimp only
  repeat (first | refine Tot.pure (by simp (disch := first | omega | (simp only [npz, nsz, nmz] <;> omega) | fail) [lhz, lgz, sgz, boxA, gz, gs, Heap.gqz, Heap.gpz, Heap.gtz, Heap.gsz, gmz, npz, nsz, nmz, c1.g, c2.g, c3.g, c4.g, c5.g]; try exact rfl) ?_ | refine Tot.chk (by simp (disch := first | omega | (simp only [npz, nsz, nmz] <;> omega) | fail) [lhz, lgz, sgz, boxA, gz, gs, Heap.gqz, Heap.gpz, Heap.gtz, Heap.gsz, gmz, npz, nsz, nmz, c1.g, c2.g, c3.g, c4.g, c5.g]; done) ?_ | fail)
  exact Tot.ret (hQ _ _ ⟨Keep.ext (Keep.auto), i5.out (Keep.auto) (by omega)⟩)
theorem rat_Make_spec {H : Heap} {lo lo' : Nat} {v w : V} {n : Int} {e : Nat} (h : isI H lo v n) (h' : isI H lo' w (e : Int)) (he : 0 < e) (hm : (dig 4294967296 n.natAbs).length < 100000000) (hm' : (dig 4294967296 e).length < 100000000) :
    Tot (fun n => f_rat_Make n [v, w] H) fun v H' => Ext0 H H' ∧ ∃ v1, v = .tuple [v1, .int .i64 0] ∧ isR H' H.n v1 (lowN n e) (lowD n e) := by
  obtain ⟨b, s, rfl, hb, r, f⟩ := h.shape
  obtain ⟨b', s', rfl, hb', r', f'⟩ := h'.shape
  have hbf : b' = false := by rw [hb']; simp
  subst hbf
  simp only [Int.natAbs_natCast] at r'
  refine Tot.of fun Q hQ => ?_
  refine rat_Make_tot ?_
  simp only [rat_Make_b]
  repeat (first | refine Tot.autoP ?_ | refine Tot.autoC ?_ | fail)
  refine Tot.bind (whole_Sign_spec ((h'.mono (Nat.zero_le _)).keep (Keep.auto)) (by rw [Int.natAbs_natCast]; omega)) ?_
  rintro v H1 ⟨c1, rfl⟩
  have n1 := c1.n; try simp only [npz, nsz, nmz] at n1
  rw [Int.sign_eq_one_of_pos (show (0 : Int) < e by omega)]
  dsimp only
  repeat (first | refine Tot.pure (by simp (disch := first | omega | (simp only [npz, nsz, nmz] <;> omega) | fail) [lhz, lgz, sgz, boxA, gz, gs, Heap.gqz, Heap.gpz, Heap.gtz, Heap.gsz, gmz, npz, nsz, nmz, c1.g]; try exact rfl) ?_ | refine Tot.chk (by simp (disch := first | omega | (simp only [npz, nsz, nmz] <;> omega) | fail) [lhz, lgz, sgz, boxA, gz, gs, Heap.gqz, Heap.gpz, Heap.gtz, Heap.gsz, gmz, npz, nsz, nmz, c1.g]; done) ?_ | fail)
  refine Tot.bind (rat_lowest_spec (r.keep Fr.zero (Keep.auto)) (r'.keep Fr.zero (Keep.auto)) (by omega) (by omega) (digL _) (digL _)) ?_
  rintro v H2 ⟨c2, i2⟩
  have n2 := c2.n; try simp only [npz, nsz, nmz] at n2
  obtain ⟨b2, s2, t2, rfl, -⟩ := id i2
  rw [digV, digV, hb, sgn_of] at i2
  dsimp only
  repeat (first | refine Tot.pure (by simp (disch := first | omega | (simp only [npz, nsz, nmz] <;> omega) | fail) [lhz, lgz, sgz, boxA, gz, gs, Heap.gqz, Heap.gpz, Heap.gtz, Heap.gsz, gmz, npz, nsz, nmz, c1.g, c2.g]; try exact rfl) ?_ | refine Tot.chk (by simp (disch := first | omega | (simp only [npz, nsz, nmz] <;> omega) | fail) [lhz, lgz, sgz, boxA, gz, gs, Heap.gqz, Heap.gpz, Heap.gtz, Heap.gsz, gmz, npz, nsz, nmz, c1.g, c2.g]; done) ?_ | fail)
  exact Tot.ret (hQ _ _ ⟨Keep.ext (Keep.auto), _, rfl, i2.out (Keep.auto) (by omega)⟩)
end Go.AM
end
section
set_option linter.unusedVariables false
set_option linter.unusedSimpArgs false
set_option linter.unusedSimpArgs false
set_option linter.unusedVariables false
namespace Go.AM
attribute [local congr] bnd_weak ite_weak
theorem ar_cat {a b : List UInt8} (h : a.length + b.length < 9223372036854775807) : arA .add (.str a) (.str b) = some (.str (a ++ b)) := by
  simp only [arA, strA, if_pos h]
theorem rawR.mono {H : Heap} {v : V} {n : Int} {d N M : Nat} (h : rawR H v n d N) (hm : N ≤ M) : rawR H v n d M := by
  obtain ⟨b, s, t, l, lt, h0, h1, h2, h3, h4, h5, h6, h7⟩ := h
  exact ⟨b, s, t, l, lt, h0, h1, h2, h3, h4, by omega, by omega, h7⟩
end Go.AM
end
section
set_option linter.unusedVariables false
set_option linter.unusedSimpArgs false
set_option linter.unusedSimpArgs false
set_option linter.unusedVariables false
namespace Go.AM
theorem r_trim {H : Heap} {s : Sl} {l : List Nat} (h : Row H .i64 s l) (hm : l.length < 2147483648) (hL : Lim 65536 l) :
    Tot (fun n => f_ref03_Trim n [.slice s] H) fun v H' => H' = H ∧ ∃ s', v = .slice s' ∧ Row H .i64 s' (dig 65536 (val 65536 l)) ∧ (∀ i, s'.has i → s.has i) ∧ s'.ad = s.ad ∧ s'.esz = 1 := by
  refine Tot.of fun Q hQ => ?_
  refine ref03_Trim_tot ?_
  simp (disch := omega) [h.lenSl]
  have lp : ∀ (j : Nat) (ji : Int), ji = (j : Int) → j ≤ l.length → trimZ (l.take j) = trimZ l → ∀ m, Big m → Tot (fun n => ref03_Trim.l0 n (m n) (.slice s) (.int .i64 ji) H) Q := by
    intro j
    have fin : ∀ (j : Nat), j ≤ l.length → trimZ (l.take j) = trimZ l → trimZ (l.take j) = l.take j → Tot (fun n => ref03_Trim.p1 n (.slice s) (.int .i64 j) H) Q := by
      intro j hj h1 h2
      refine ref03_Trim.p1_tot ?_
      have hs := h.slice (lo := none) (hi := some (.int .i64 (j : Int))) (a := 0) (b := j) rfl (by simp) (by omega) (by omega)
      simp (disch := omega) [hs]
      have hr := h.sub (lo := 0) (hi := j) (by omega) (by omega)
      rw [List.drop_zero, Nat.sub_zero, ← h2, h1, trimZ_dig (b := 65536) (by decide) hL] at hr
      exact Tot.ret (hQ _ _ ⟨rfl, _, rfl, hr, fun i hi => subS_has.1 hi, by simp [subS], rfl⟩)
    induction j with
    | zero =>
      intro ji hji hj ht m hb
      subst hji
      refine ref03_Trim.l0_tot hb fun m' hb' => ?_
      simp (disch := omega) []
      exact fin 0 hj ht (by simp [trimZ])
    | succ j ih =>
      intro ji hji hj ht m hb
      subst hji
      refine ref03_Trim.l0_tot hb fun m' hb' => ?_
      have e : ((j + 1 : Nat) : Int) - 1 = (j : Int) := by omega
      have hts := take_succ_nth (l := l) (i := j) (by omega)
      simp (disch := omega) [e, h.idxN (i := j) (by omega), h.get]
      refine Tot.ite (fun h0 => ?_) (fun h0 => ?_)
      · have h0' : nth l j = 0 := by omega
        rw [hts, h0', trimZ_zero] at ht
        exact ih _ (by omega) (by omega) ht _ hb'
      · have h0' : nth l j ≠ 0 := by omega
        have := fin (j + 1) hj ht (by rw [hts]; exact trimZ_last h0')
        simpa using this
  exact lp l.length _ rfl (Nat.le_refl _) (by rw [List.take_length]) _ Big.id
theorem rdL (x : Nat) : Lim 65536 (dig 65536 x) := dig_lim (by decide) x
theorem rdV (x : Nat) : val 65536 (dig 65536 x) = x := val_dig (by decide) x
theorem r_of {H : Heap} {s : Sl} {l : List Nat} (h : Row H .u32 s l) (hm : l.length < 500000000) (hL : Lim 4294967296 l) :
    Tot (fun n => f_ref03_Of n [.slice s] H) fun v H' => Ext0 H H' ∧ ∃ s', v = .slice s' ∧ Row H' .i64 s' (dig 65536 (val 4294967296 l)) ∧ Fr H.n s' := by
  refine Tot.of fun Q hQ => ?_
  refine ref03_Of_tot ?_
  have hb0 : bSl 1 ty_int [.int .i64 0] 0 [] = some (.cells (nums .i64 []) ty_int false) := by simp [bSl, rowA, fillA, V.one]
  simp only [ref03_Of_b, hb0, bnd_some]
  have lp : ∀ (j i : Nat) (ii : Int) (H' : Heap) (so : Sl) (d : List Nat), i + j = l.length → ii = (i : Int) → Ext0 H H' → Own H' .i64 ty_int so d → Fr H.n so → d.length = 2 * i → Lim 65536 d → val 65536 d = val 4294967296 (l.take i) → ∀ m, Big m →
      Tot (fun n => ref03_Of.l0 n (m n) (.slice s) (.slice so) (.int .i64 ii) H') Q := by
    intro j
    induction j with
    | zero =>
      intro i ii H' so d hi hii c o f hd hLd hv m hb
      subst hii
      refine ref03_Of.l0_tot hb fun m' hb' => ?_
      simp (disch := omega) [(h.ext c).lenSl]
      refine Tot.no (by omega) ?_
      refine Tot.bind (r_trim o.row (by omega) hLd) ?_
      rintro v H' ⟨rfl, s3, rfl, r3, f3, -⟩
      rw [hv, List.take_of_length_le (by omega)] at r3
      exact Tot.ret (hQ _ _ ⟨c, _, rfl, r3, fun i hi => f i (f3 i hi)⟩)
    | succ j ih =>
      intro i ii H' so d hi hii c o f hd hLd hv m hb
      subst hii
      refine ref03_Of.l0_tot hb fun m' hb' => ?_
      have r := h.ext c
      have r' := (h.ext c).ext (Ch.more (m := 1))
      have hx := hL.nth (i := i) (by decide)
      simp (disch := omega) [r.lenSl, r'.idxN (i := i) (by omega), r'.get, ar_rem, ar_quo]
      refine Tot.yes (by omega) ?_
      obtain ⟨x, hxe⟩ : ∃ x, x = nth l i := ⟨_, rfl⟩
      rw [← hxe] at hx ⊢
      have hb1 : bSl 1 ty_int [.int .i64 0] 2 [(0, .int .i64 ((x : Int) % 65536)), (1, .int .i64 ((x : Int) / 65536))] = some (.cells (nums .i64 [x % 65536, x / 65536]) ty_int false) := by
        simp [bSl, rowA, fillA, V.one, V.cells, lset]
      rw [hb1]
      simp only [bnd_some]
      have rr : Row ((H'.more 1).set H'.n (.cells (nums .i64 [x % 65536, x / 65536]) ty_int false)) .i64 ⟨some (H'.n, 0), 2, 1, false⟩ [x % 65536, x / 65536] :=
        Row.new (l := [x % 65536, x / 65536]) (e := ty_int) (ro := false) (by simp) (by rw [Heap.gsz rfl])
      have c1 : Ext0 H' ((H'.more 1).set H'.n (.cells (nums .i64 [x % 65536, x / 65536]) ty_int false)) := ⟨by simp, fun i hi _ => by rw [Heap.gtz (by omega)]; rfl⟩
      obtain ⟨s2, H2, a1, a2, a3, a4⟩ := appA_own (by_ := 8) (o.ext c1) rr.src (by simp; omega) (by decide)
      rw [a1]
      simp only [bnd_some]
      try simp (disch := omega) []
      refine ih (i + 1) _ H2 s2 _ (by omega) (by omega) ((c.t c1).trans a3 fun i hi hx => by have := f i hx; omega) a2 (fun i hi => by rcases a4 i hi with h | h; exact f i h; have := c.n; simp at h; omega) (by simp; omega) (Lim.app.2 ⟨hLd, by intro y hy; simp at hy; omega⟩) ?_ _ hb'
      rw [val_app, hv, take_succ_nth (by omega), val_snoc, hd, ← hxe]
      congr 1
      have e1 : (l.take i).length = i := by simp; omega
      rw [e1, Nat.pow_mul]
      congr 1
      simp only [val]; omega
  exact lp l.length 0 _ _ _ [] (by omega) rfl Ch.push (Own.new (l := [])) (fun i hi => by rw [has_mk] at hi; omega) rfl Lim.nil (by simp [val]) _ Big.id
theorem r_add {H : Heap} {s t : Sl} {l l' : List Nat} (h : Row H .i64 s l) (h' : Row H .i64 t l') (hm : l.length < 1000000000) (hm' : l'.length < 1000000000) (hL : Lim 65536 l) (hL' : Lim 65536 l') :
    Tot (fun n => f_ref03_Add n [.slice s, .slice t] H) fun v H' => Ext0 H H' ∧ ∃ s', v = .slice s' ∧ Row H' .i64 s' (dig 65536 (val 65536 l + val 65536 l')) ∧ Fr H.n s' := by
  refine Tot.of fun Q hQ => ?_
  refine ref03_Add_tot ?_
  have hb0 : bSl 1 ty_int [.int .i64 0] 0 [] = some (.cells (nums .i64 []) ty_int false) := by simp [bSl, rowA, fillA, V.one]
  simp only [ref03_Add_b, hb0, bnd_some]
  suffices lp : ∀ (j i : Nat) (ii ci : Int) (H' : Heap) (so : Sl) (d : List Nat) (c : Nat), i + j = max l.length l'.length → ii = (i : Int) → ci = (c : Int) → Ext0 H H' → Own H' .i64 ty_int so d → Fr H.n so → d.length = i → Lim 65536 d → c ≤ 1 →
      val 65536 d + 65536 ^ d.length * (c + val 65536 (l.drop i) + val 65536 (l'.drop i)) = val 65536 l + val 65536 l' → ∀ m, Big m → Tot (fun n => ref03_Add.l0 n (m n) (.slice s) (.slice t) (.slice so) (.int .i64 ci) (.int .i64 ii) H') Q by
    exact lp (max l.length l'.length) 0 _ _ _ _ [] 0 (by omega) rfl rfl Ch.push (Own.new (l := [])) (fun i hi => by rw [has_mk] at hi; omega) rfl Lim.nil (by omega) (by simp [val]) _ Big.id
  intro j
  induction j with
  | zero =>
    intro i ii ci H' so d c hi hii hci c0 o f hd hLd hc hv m hb
    subst hii hci
    refine ref03_Add.l0_tot hb fun m' hb' => ?_
    simp (disch := omega) [(h.ext c0).lenSl, (h'.ext c0).lenSl]
    refine Tot.no (by omega) ?_
    refine Tot.no (by omega) ?_
    refine ref03_Add.p2_tot ?_
    simp (disch := omega) []
    refine Tot.app1 o (x := c) (by omega) (by omega) (by decide) (by rfl) ?_
    intro s' H2 o2 c2 f2
    rw [val_drop_out (l := l) (by omega), val_drop_out (l := l') (by omega)] at hv
    have hv2 : val 65536 (d ++ [c]) = val 65536 l + val 65536 l' := by rw [val_snoc]; simpa using hv
    refine Tot.bind (r_trim o2.row (by simp; omega) (Lim.app.2 ⟨hLd, Lim.one.2 (by omega)⟩)) ?_
    rintro v H2 ⟨rfl, s3, rfl, r3, f3, -⟩
    rw [hv2] at r3
    exact Tot.ret (hQ _ _ ⟨c0.trans c2 fun i hi hx => by have := f i hx; omega, _, rfl, r3, fun i hi => by rcases f2 i (f3 i hi) with h | h; exact f i h; have := c0.n; omega⟩)
  | succ j ih =>
    intro i ii ci H' so d c hi hii hci c0 o f hd hLd hc hv m hb
    subst hii hci
    refine ref03_Add.l0_tot hb fun m' hb' => ?_
    have r := h.ext c0
    have r' := h'.ext c0
    have hx := hL.nth (i := i) (by decide)
    have hy := hL'.nth (i := i) (by decide)
    have hvx : val 65536 (l.drop i) = nth l i + 65536 * val 65536 (l.drop (i + 1)) := by
      rcases Nat.lt_or_ge i l.length with h1 | h1
      · exact val_drop_nth h1
      · rw [val_drop_out h1, val_drop_out (by omega), nth_out h1]
    have hvy : val 65536 (l'.drop i) = nth l' i + 65536 * val 65536 (l'.drop (i + 1)) := by
      rcases Nat.lt_or_ge i l'.length with h1 | h1
      · exact val_drop_nth h1
      · rw [val_drop_out h1, val_drop_out (by omega), nth_out h1]
    rw [hvx, hvy] at hv
    have p3 : ∀ (w : Int), w = ((c + nth l i + nth l' i : Nat) : Int) → Tot (fun n => ref03_Add.p3 n (m' n) (.slice s) (.slice t) (.slice so) (.int .i64 w) (.int .i64 i) H') Q := by
      intro w hw
      subst hw
      refine ref03_Add.p3_tot ?_
      simp (disch := omega) [ar_rem, ar_quo]
      refine Tot.app1 o (x := (c + nth l i + nth l' i) % 65536) (by omega) (by omega) (by decide) (by rfl) ?_
      intro s' H2 o2 c2 f2
      simp (disch := omega) [ar_quo]
      exact ih (i + 1) _ _ H2 s' _ ((c + nth l i + nth l' i) / 65536) (by omega) (by omega) (by omega) (c0.trans c2 fun i hi hx => by have := f i hx; omega) o2
        (fun i hi => by rcases f2 i hi with h | h; exact f i h; have := c0.n; omega) (by simp; omega) (Lim.app.2 ⟨hLd, Lim.one.2 (Nat.mod_lt _ (by decide))⟩) (by omega) (add_inv (a := []) (a' := []) (l' := []) (p := 0) hv) _ hb'
    have p1 : ∀ (w : Int), w = ((c + nth l i : Nat) : Int) → Tot (fun n => ref03_Add.p1 n (m' n) (.slice s) (.slice t) (.slice so) (.int .i64 w) (.int .i64 i) H') Q := by
      intro w hw
      subst hw
      refine ref03_Add.p1_tot ?_
      simp (disch := omega) [r'.lenSl]
      refine Tot.ite (fun h1 => ?_) (fun h1 => ?_)
      · simp (disch := omega) [r'.idx, r'.get]
        exact p3 _ (by omega)
      · exact p3 _ (by rw [nth_out (l := l') (by omega)]; omega)
    simp (disch := omega) [r.lenSl, r'.lenSl]
    refine Tot.ite (fun h1 => ?_) (fun h1 => ?_)
    · simp (disch := omega) [r.idx, r.get]
      refine Tot.yes (by omega) ?_
      exact p1 _ (by omega)
    · refine Tot.yes (by omega) ?_
      refine Tot.no (by omega) ?_
      exact p1 _ (by rw [nth_out (l := l) (by omega)]; omega)
end Go.AM
end
section
set_option linter.unusedVariables false
set_option linter.unusedSimpArgs false
set_option linter.unusedSimpArgs false
set_option linter.unusedVariables false
namespace Go.AM
theorem r_cmp {H : Heap} {s t : Sl} {x y : Nat} (r1 : Row H .i64 s (dig 65536 x)) (r2 : Row H .i64 t (dig 65536 y)) (hm : (dig 65536 x).length < 1000000000) (hm' : (dig 65536 y).length < 1000000000) :
    Tot (fun n => f_ref03_Cmp n [.slice s, .slice t] H) fun v H' => H' = H ∧ v = .int .i64 (cmpN x y) := by
  refine Tot.of fun Q hQ => ?_
  refine ref03_Cmp_tot ?_
  simp (disch := omega) [r1.lenSl, r2.lenSl]
  refine Tot.ite (fun hlt => ?_) (fun hlt => ?_)
  · exact Tot.ret (hQ _ _ ⟨rfl, by rw [cmpN, if_pos (lt_of_len (b := 65536) (by decide) (by omega))]⟩)
  refine Tot.ite (fun hgt => ?_) (fun hgt => ?_)
  · have := lt_of_len (b := 65536) (x := y) (y := x) (by decide) (by omega)
    exact Tot.ret (hQ _ _ ⟨rfl, by rw [cmpN, if_neg (by omega), if_pos this]⟩)
  have hle : (dig 65536 x).length = (dig 65536 y).length := by omega
  have q1 := dig_lim (b := 65536) (by decide) x
  have q2 := dig_lim (b := 65536) (by decide) y
  have vx := val_dig (b := 65536) (by decide) x
  have vy := val_dig (b := 65536) (by decide) y
  generalize dig 65536 x = a at *
  generalize dig 65536 y = b at *
  suffices key : ∀ (j : Nat), j ≤ a.length → (a.drop j = b.drop j) → ∀ (i : Int), i = (j : Int) - 1 → ∀ m, Big m → Tot (fun n => ref03_Cmp.l0 n (m n) (.slice s) (.slice t) (.int .i64 i) H) Q by
    exact key a.length (Nat.le_refl _) (by rw [List.drop_length, hle, List.drop_length]) _ rfl _ Big.id
  intro j
  induction j with
  | zero =>
    intro hj hd i hi m hb
    refine ref03_Cmp.l0_tot hb fun m' hb' => ?_
    subst hi
    simp
    have : x = y := by rw [← vx, ← vy]; simpa using congrArg (val 65536) hd
    exact Tot.ret (hQ _ _ ⟨rfl, by simp [cmpN, this]⟩)
  | succ j ih =>
    intro hj hd i hi m hb
    refine ref03_Cmp.l0_tot hb fun m' hb' => ?_
    have : i = (j : Int) := by omega
    subst this
    simp (disch := first | omega | (simp only [npz, nsz, nmz] <;> omega) | (simp <;> omega) | fail) [r1.idx, r2.idx, r1.get, r2.get, hle ▸ hj]
    have g1 := take_succ_nth (l := a) (i := j) (by omega)
    have g2 := take_succ_nth (l := b) (i := j) (by omega)
    have p1 := val_take_drop (b := 65536) (n := j + 1) (l := a) (by omega)
    have p2 := val_take_drop (b := 65536) (n := j + 1) (l := b) (by omega)
    rw [hd] at p1
    refine Tot.ite (fun hlt => ?_) (fun hlt => ?_)
    · have := val_lt_of_top (b := 65536) (l := a.take j) (l' := b.take j) (x := nth a j) (y := nth b j) q1.take (by simp; omega) (by omega)
      rw [← g1, ← g2] at this
      exact Tot.ret (hQ _ _ ⟨rfl, by rw [cmpN, if_pos (by omega)]⟩)
    · refine Tot.ite (fun hgt => ?_) (fun hgt => ?_)
      · have := val_lt_of_top (b := 65536) (l := b.take j) (l' := a.take j) (x := nth b j) (y := nth a j) q2.take (by simp; omega) (by omega)
        rw [← g1, ← g2] at this
        exact Tot.ret (hQ _ _ ⟨rfl, by rw [cmpN, if_neg (by omega), if_pos (by omega)]⟩)
      · refine ih (by omega) ?_ _ rfl _ hb'
        rw [drop_eq_nth_cons (l := a) (by omega), drop_eq_nth_cons (l := b) (by omega), hd]
        congr 1; omega
theorem r_sub {H : Heap} {s t : Sl} {l l' : List Nat} (h : Row H .i64 s l) (h' : Row H .i64 t l') (hm : l.length < 1000000000) (hle : l'.length ≤ l.length) (hL : Lim 65536 l) (hL' : Lim 65536 l') (hv : val 65536 l' ≤ val 65536 l) :
    Tot (fun n => f_ref03_Sub n [.slice s, .slice t] H) fun v H' => Ext0 H H' ∧ ∃ s', v = .slice s' ∧ Row H' .i64 s' (dig 65536 (val 65536 l - val 65536 l')) ∧ Fr H.n s' := by
  refine Tot.of fun Q hQ => ?_
  refine ref03_Sub_tot ?_
  have hb0 : bSl 1 ty_int [.int .i64 0] 0 [] = some (.cells (nums .i64 []) ty_int false) := by simp [bSl, rowA, fillA, V.one]
  simp only [ref03_Sub_b, hb0, bnd_some]
  suffices lp : ∀ (j i : Nat) (ii ci : Int) (H' : Heap) (so : Sl) (d : List Nat) (c : Nat), i + j = l.length → ii = (i : Int) → ci = (c : Int) → Ext0 H H' → Own H' .i64 ty_int so d → Fr H.n so → d.length = i → Lim 65536 d → c ≤ 1 →
      val 65536 d + 65536 ^ d.length * val 65536 (l.drop i) + val 65536 l' = val 65536 l + 65536 ^ d.length * (val 65536 (l'.drop i) + c) → ∀ m, Big m → Tot (fun n => ref03_Sub.l0 n (m n) (.slice s) (.slice t) (.slice so) (.int .i64 ci) (.int .i64 ii) H') Q by
    exact lp l.length 0 _ _ _ _ [] 0 (by omega) rfl rfl Ch.push (Own.new (l := [])) (fun i hi => by rw [has_mk] at hi; omega) rfl Lim.nil (by omega) (by simp [val]) _ Big.id
  intro j
  induction j with
  | zero =>
    intro i ii ci H' so d c hi hii hci c0 o f hd hLd hc hv m hb
    subst hii hci
    refine ref03_Sub.l0_tot hb fun m' hb' => ?_
    simp (disch := omega) [(h.ext c0).lenSl]
    refine Tot.no (by omega) ?_
    rw [val_drop_out (l := l) (by omega), val_drop_out (l := l') (by omega)] at hv
    have hlt := val_lt hLd
    have hc0 : c = 0 := by
      rcases Nat.lt_or_ge 0 c with h1 | h1
      · have : c = 1 := by omega
        subst this
        simp at hv
        omega
      · omega
    subst hc0
    simp at hv
    refine Tot.bind (r_trim o.row (by omega) hLd) ?_
    rintro v H' ⟨rfl, s3, rfl, r3, f3, -⟩
    rw [show val 65536 d = val 65536 l - val 65536 l' by omega] at r3
    exact Tot.ret (hQ _ _ ⟨c0, _, rfl, r3, fun i hi => f i (f3 i hi)⟩)
  | succ j ih =>
    intro i ii ci H' so d c hi hii hci c0 o f hd hLd hc hv m hb
    subst hii hci
    refine ref03_Sub.l0_tot hb fun m' hb' => ?_
    have r := h.ext c0
    have r' := h'.ext c0
    have hx := hL.nth (i := i) (by decide)
    have hy := hL'.nth (i := i) (by decide)
    rw [val_drop_nth (l := l) (by omega)] at hv
    have hvy : val 65536 (l'.drop i) = nth l' i + 65536 * val 65536 (l'.drop (i + 1)) := by
      rcases Nat.lt_or_ge i l'.length with h1 | h1
      · exact val_drop_nth h1
      · rw [val_drop_out h1, val_drop_out (by omega), nth_out h1]
    rw [hvy] at hv
    have step : ∀ (w : Int), w = (nth l i : Int) - c - nth l' i → Tot (fun n => ref03_Sub.p1 n (m' n) (.slice s) (.slice t) (.slice so) (.int .i64 i) (.int .i64 w) H') Q := by
      intro w hw
      subst hw
      refine ref03_Sub.p1_tot ?_
      simp (disch := omega) []
      refine Tot.ite (fun hlt => ?_) (fun hlt => ?_)
      · refine Tot.app1 o (x := nth l i + 65536 - c - nth l' i) (by omega) (by omega) (by decide) (by rfl) ?_
        intro s' H2 o2 c2 f2
        try simp (disch := omega) []
        refine ih (i + 1) _ _ H2 s' _ 1 (by omega) (by omega) rfl (c0.trans c2 fun i hi hx => by have := f i hx; omega) o2
          (fun i hi => by rcases f2 i hi with h | h; exact f i h; have := c0.n; omega) (by simp; omega) (Lim.app.2 ⟨hLd, Lim.one.2 (by omega)⟩) (by omega) ?_ _ hb'
        rw [val_snoc, List.length_append, List.length_singleton, Nat.pow_succ]
        exact sub_inv hv (by omega)
      · refine Tot.app1 o (x := nth l i - c - nth l' i) (by omega) (by omega) (by decide) (by rfl) ?_
        intro s' H2 o2 c2 f2
        try simp (disch := omega) []
        refine ih (i + 1) _ _ H2 s' _ 0 (by omega) (by omega) rfl (c0.trans c2 fun i hi hx => by have := f i hx; omega) o2
          (fun i hi => by rcases f2 i hi with h | h; exact f i h; have := c0.n; omega) (by simp; omega) (Lim.app.2 ⟨hLd, Lim.one.2 (by omega)⟩) (by omega) ?_ _ hb'
        rw [val_snoc, List.length_append, List.length_singleton, Nat.pow_succ]
        exact sub_inv hv (by omega)
    simp (disch := omega) [r.idx, r.get, r.lenSl, r'.lenSl]
    refine Tot.yes (by omega) ?_
    refine Tot.ite (fun hlt => ?_) (fun hlt => ?_)
    · simp (disch := omega) [r'.idx, r'.get]
      exact step _ (by omega)
    · exact step _ (by rw [nth_out (l := l') (by omega)]; omega)
theorem r_mul {H : Heap} {s t : Sl} {l l' : List Nat} (h : Row H .i64 s l) (h' : Row H .i64 t l') (hm : l.length + l'.length < 1000000000) (hL : Lim 65536 l) (hL' : Lim 65536 l') :
    Tot (fun n => f_ref03_Mul n [.slice s, .slice t] H) fun v H' => Ext0 H H' ∧ ∃ s', v = .slice s' ∧ Row H' .i64 s' (dig 65536 (val 65536 l * val 65536 l')) ∧ Fr H.n s' := by
  refine Tot.of fun Q hQ => ?_
  refine ref03_Mul_tot ?_
  have e0 : ((l.length : Int) + l'.length).toNat = l.length + l'.length := by omega
  simp (disch := omega) [h.lenSl, h'.lenSl, e0]
  have lp : ∀ (j i : Nat) (ii : Int) (H' : Heap) (o : List Nat) (so : Sl), i + j = l.length → ii = (i : Int) → Ext0 H H' → Mut H' .i64 ty_int H.n [] o [] so → o.length = l.length + l'.length → Lim 65536 o →
      (∀ k, i + l'.length ≤ k → nth o k = 0) → val 65536 o = val 65536 (l.take i) * val 65536 l' → ∀ m, Big m → Tot (fun n => ref03_Mul.l0 n (m n) (.slice s) (.slice t) (.slice so) (.int .i64 ii) H') Q := by
    intro j
    induction j with
    | zero =>
      intro i ii H' o so hi hii c0 mo ho hLo h0 hv m hb
      subst hii
      refine ref03_Mul.l0_tot hb fun m' hb' => ?_
      simp (disch := omega) [(h.ext c0).lenSl]
      refine Tot.no (by omega) ?_
      refine Tot.bind (r_trim mo.row (by omega) hLo) ?_
      rintro v H' ⟨rfl, s3, rfl, r3, f3, -⟩
      rw [hv, List.take_of_length_le (by omega)] at r3
      exact Tot.ret (hQ _ _ ⟨c0, _, rfl, r3, fun i hi => by have := mo.has.1 (f3 i hi); omega⟩)
    | succ j ih =>
      intro i ii H' o so hi hii c0 mo ho hLo h0 hv m hb
      subst hii
      refine ref03_Mul.l0_tot hb fun m' hb' => ?_
      have r := h.ext c0
      have hx := hL.nth (i := i) (by decide)
      simp (disch := omega) [r.lenSl]
      refine Tot.yes (by omega) ?_
      suffices lp2 : ∀ (j2 k : Nat) (kk ci : Int) (H' : Heap) (o2 : List Nat) (c : Nat), k + j2 = l'.length → kk = (k : Int) → ci = (c : Int) → Ext0 H H' → Mut H' .i64 ty_int H.n [] o2 [] so → o2.length = l.length + l'.length → Lim 65536 o2 → c < 65536 →
          (∀ k, i + l'.length ≤ k → nth o2 k = 0) → val 65536 o2 + 65536 ^ (i + k) * c = val 65536 o + 65536 ^ i * (nth l i * val 65536 (l'.take k)) → ∀ m1, Big m1 →
          Tot (fun n => ref03_Mul.l1 n (m' n) (m1 n) (.slice s) (.slice t) (.slice so) (.int .i64 i) (.int .i64 ci) (.int .i64 kk) H') Q by
        exact lp2 l'.length 0 _ _ _ o 0 (by omega) rfl rfl c0 mo ho hLo (by decide) h0 (by simp [val]) _ Big.id
      intro j2
      induction j2 with
      | zero =>
        intro k kk ci H' o2 c hk hkk hci c1 mo2 ho2 hLo2 hc h02 hv2 m1 hb1
        subst hkk hci
        refine ref03_Mul.l1_tot hb1 fun m1' hb1' => ?_
        simp (disch := omega) [(h'.ext c1).lenSl]
        refine Tot.no (by omega) ?_
        refine ref03_Mul.p2_tot ?_
        simp (disch := omega) [(h'.ext c1).lenSl, mo2.row.idxN (i := i + l'.length) (by omega)]
        refine Tot.st mo2 (x := c) (by omega) (by omega) ?_
        intro H3 mo3 c3
        have hkl : k = l'.length := by omega
        subst hkl
        refine ih (i + 1) _ H3 _ so (by omega) (by omega) (c1.trans c3 fun i hi hx => by subst hx; omega) mo3 (by simpa using ho2) (hLo2.set hc) ?_ ?_ _ hb'
        · intro k hk
          rw [nth_set (by omega), if_neg (by omega)]
          exact h02 k (by omega)
        · have e1 := val_set (b := 65536) (l := o2) (i := i + l'.length) (x := c) (by omega)
          rw [h02 _ (Nat.le_refl _)] at e1
          rw [List.take_of_length_le (Nat.le_refl _)] at hv2
          rw [take_succ_nth (by omega), val_snoc, Nat.add_mul, ← hv]
          have e2 : (l.take i).length = i := by simp; omega
          rw [e2]
          have e3 : 65536 ^ i * nth l i * val 65536 l' = 65536 ^ i * (nth l i * val 65536 l') := Nat.mul_assoc _ _ _
          omega
      | succ j2 ih2 =>
        intro k kk ci H' o2 c hk hkk hci c1 mo2 ho2 hLo2 hc h02 hv2 m1 hb1
        subst hkk hci
        refine ref03_Mul.l1_tot hb1 fun m1' hb1' => ?_
        have r' := h'.ext c1
        have r := h.ext c1
        have hy := hL'.nth (i := k) (by decide)
        have hw := hLo2.nth (i := i + k) (by decide)
        have hxy : nth l i * nth l' k ≤ 65535 * 65535 := Nat.mul_le_mul (by omega) (by omega)
        simp (disch := omega) [r'.lenSl, r.idxN (i := i) (by omega), r.get, r'.idx, r'.get, mo2.row.idxN (i := i + k) (by omega), mo2.row.get, ar_rem, ar_quo]
        refine Tot.yes (by omega) ?_
        refine Tot.st mo2 (x := (c + (nth o2 (i + k) + nth l i * nth l' k)) % 65536) (by omega) (by omega) ?_
        intro H3 mo3 c3
        refine ih2 (k + 1) _ _ H3 _ ((c + (nth o2 (i + k) + nth l i * nth l' k)) / 65536) (by omega) (by omega) (by omega) (c1.trans c3 fun i hi hx => by subst hx; omega) mo3 (by simpa using ho2) (hLo2.set (Nat.mod_lt _ (by decide))) (by omega) ?_ ?_ _ hb1'
        · intro q hq
          rw [nth_set (by omega), if_neg (by omega)]
          exact h02 q hq
        · have e1 := val_set (b := 65536) (l := o2) (i := i + k) (x := (c + (nth o2 (i + k) + nth l i * nth l' k)) % 65536) (by omega)
          have e2 := mul_inv e1 hv2
          have e4 : (l'.take k).length = k := by simp; omega
          rw [take_succ_nth (by omega), val_snoc, show i + (k + 1) = i + k + 1 from rfl, Nat.pow_succ, e2, e4, Nat.pow_add]
          grind
  exact lp l.length 0 _ _ (List.replicate (l.length + l'.length) 0) _ (by omega) rfl Ch.push Mut.make (by simp) (by intro x hx; simp at hx; omega) (by intro k _; simp [nth, List.getD_eq_getElem?_getD, List.getElem?_replicate]; split <;> rfl) (by simp [val_zero, val]) _ Big.id
theorem r_half {H : Heap} {s : Sl} {l : List Nat} (h : Row H .i64 s l) (hm : l.length < 1000000000) (hL : Lim 65536 l) :
    Tot (fun n => f_ref03_Half n [.slice s] H) fun v H' => Ext0 H H' ∧ ∃ s', v = .slice s' ∧ Row H' .i64 s' (dig 65536 (val 65536 l / 2)) ∧ Fr H.n s' := by
  refine Tot.of fun Q hQ => ?_
  refine ref03_Half_tot ?_
  simp (disch := omega) [h.lenSl]
  have lp : ∀ (j : Nat) (ii ri : Int) (H' : Heap) (o : List Nat) (so : Sl) (r : Nat), ii = (j : Int) - 1 → ri = (r : Int) → j ≤ l.length → Ext0 H H' → Mut H' .i64 ty_int H.n [] o [] so → o.length = l.length → Lim 65536 o → r < 2 →
      val 65536 (l.drop j) = val 65536 (o.drop j) * 2 + r → ∀ m, Big m → Tot (fun n => ref03_Half.l0 n (m n) (.slice s) (.slice so) (.int .i64 ri) (.int .i64 ii) H') Q := by
    intro j
    induction j with
    | zero =>
      intro ii ri H' o so r hii hri hj c mo ho hLo hr hv m hb
      subst hii hri
      refine ref03_Half.l0_tot hb fun m' hb' => ?_
      simp (disch := omega) []
      simp only [List.drop_zero] at hv
      have h2 := val_inj_div hv hr
      refine Tot.bind (r_trim mo.row (by omega) hLo) ?_
      rintro v H' ⟨rfl, s3, rfl, r3, f3, -⟩
      rw [h2.1] at r3
      exact Tot.ret (hQ _ _ ⟨c, _, rfl, r3, fun i hi => by have := mo.has.1 (f3 i hi); omega⟩)
    | succ j ih =>
      intro ii ri H' o so r hii hri hj c mo ho hLo hr hv m hb
      have : ii = (j : Int) := by omega
      subst this hri
      refine ref03_Half.l0_tot hb fun m' hb' => ?_
      have hx := hL.nth (i := j) (by decide)
      have rr := h.ext c
      simp (disch := omega) [rr.idxN (i := j) (by omega), rr.get, mo.row.idxN (i := j) (by omega), ar_rem, ar_quo]
      refine Tot.st mo (x := (r * 65536 + nth l j) / 2) (by omega) (by omega) ?_
      intro H3 mo3 c3
      refine ih _ _ H3 _ so ((r * 65536 + nth l j) % 2) (by omega) (by omega) (by omega) (c.trans c3 fun i hi hx => by subst hx; omega) mo3 (by simpa using ho) (hLo.set (by omega)) (by omega) ?_ _ hb'
      rw [val_drop_nth (by omega), drop_set_eq (by omega), short_step hv]
      rfl
  exact lp l.length _ _ _ (List.replicate l.length 0) _ 0 rfl rfl (Nat.le_refl _) Ch.push Mut.make (by simp) (by intro x hx; simp at hx; omega) (by decide) (by rw [List.drop_length]; simp [val]) _ Big.id
end Go.AM
end
section
set_option linter.unusedVariables false
set_option linter.unusedSimpArgs false
set_option linter.unusedSimpArgs false
set_option linter.unusedVariables false
namespace Go.AM
theorem rsz_mono {x y : Nat} (h : x ≤ y) : (dig 65536 x).length ≤ (dig 65536 y).length := by
  apply dig_len_le (by decide)
  exact Nat.lt_of_le_of_lt h (dig_len_lt (by decide))
theorem sh_ri {q : IntKind} {a b : Int} (hb : 0 ≤ a ∧ 0 ≤ b ∧ b ≤ 63) : shA .shr (.int .i64 a) (.int q b) = some (.int .i64 (a / 2 ^ b.toNat)) := by
  simp only [shA, shiftA]
  rw [if_neg (by omega), show min b.toNat IntKind.i64.bits = b.toNat by simp only [IntKind.bits]; omega, Int.fdiv_eq_ediv_of_nonneg _ (by exact Int.pow_nonneg (by decide))]
theorem sh_li {q : IntKind} {a b : Int} (hb : 0 ≤ b ∧ b ≤ 63) : shA .shl (.int .i64 a) (.int q b) = some (.int .i64 (IntKind.i64.wrap (a * 2 ^ b.toNat))) := by
  simp only [shA, shiftA]
  rw [if_neg (by omega), show min b.toNat IntKind.i64.bits = b.toNat by simp only [IntKind.bits]; omega]
theorem bit_at {l : List Nat} (hL : Lim 65536 l) {j s : Nat} (hs : s < 16) (hj : j < l.length) : nth l j / 2 ^ s % 2 = val 65536 l / 2 ^ (16 * j + s) % 2 := by
  have h1 := val_take_drop (b := 65536) (n := j) (l := l) (by omega)
  have h2 := val_lt (hL.take (n := j))
  rw [show (l.take j).length = j by simp; omega] at h2
  have hp : 0 < 65536 ^ j := Nat.pow_pos (by decide)
  have h3 : val 65536 l / 65536 ^ j = val 65536 (l.drop j) := by
    rw [h1, Nat.add_mul_div_left _ _ hp, Nat.div_eq_of_lt h2, Nat.zero_add]
  rw [Nat.pow_add, Nat.pow_mul, ← Nat.div_div_eq_div_mul, show (2 : Nat) ^ 16 = 65536 by decide, h3, val_drop_nth hj]
  obtain ⟨t, ht⟩ : ∃ t, 65536 = 2 ^ s * (2 * t) := ⟨2 ^ (15 - s), by
    rw [← Nat.mul_assoc, ← Nat.pow_succ, ← Nat.pow_add, show s.succ + (15 - s) = 16 by omega]⟩
  have h4 : nth l j + 65536 * val 65536 (l.drop (j + 1)) = nth l j + 2 ^ s * (2 * (t * val 65536 (l.drop (j + 1)))) := by
    generalize val 65536 (l.drop (j + 1)) = z
    conv => lhs; rw [ht]
    simp only [Nat.mul_assoc]
  rw [h4, Nat.add_mul_div_left _ _ (Nat.two_pow_pos s), Nat.add_mul_mod_self_left]
theorem bit_room {q : List Nat} (hL : Lim 65536 q) {j s Q : Nat} (hs : s < 16) (hj : j < q.length) (hv : val 65536 q = Q * 2 ^ (16 * j + s + 1)) : nth q j + 2 ^ s < 65536 := by
  have h1 := val_take_drop (b := 65536) (n := j) (l := q) (by omega)
  have h2 := val_lt (hL.take (n := j))
  rw [show (q.take j).length = j by simp; omega] at h2
  have hp : 0 < 65536 ^ j := Nat.pow_pos (by decide)
  have h3 : val 65536 q / 65536 ^ j = val 65536 (q.drop j) := by
    rw [h1, Nat.add_mul_div_left _ _ hp, Nat.div_eq_of_lt h2, Nat.zero_add]
  have h4 : val 65536 q / 65536 ^ j = Q * 2 ^ (s + 1) := by
    rw [hv, show 16 * j + s + 1 = 16 * j + (s + 1) from rfl, Nat.pow_add, Nat.pow_mul, show (2 : Nat) ^ 16 = 65536 by decide, Nat.mul_comm (65536 ^ j), ← Nat.mul_assoc]
    exact Nat.mul_div_cancel _ hp
  have h5 := val_mod (b := 65536) (by decide) hL (i := j)
  rw [← h3, h4] at h5
  obtain ⟨t, ht⟩ : ∃ t, 65536 = 2 ^ (s + 1) * t := ⟨2 ^ (15 - s), by rw [← Nat.pow_add, show s + 1 + (15 - s) = 16 by omega]⟩
  have ht0 : 0 < t := by
    rcases Nat.eq_zero_or_pos t with e | e
    · rw [e] at ht; simp at ht
    · exact e
  have h6 : Q * 2 ^ (s + 1) % 65536 = 2 ^ (s + 1) * (Q % t) := by
    conv => lhs; rw [ht]
    rw [Nat.mul_comm, Nat.mul_mod_mul_left]
  have h7 : 2 ^ (s + 1) * (Q % t + 1) ≤ 2 ^ (s + 1) * t := Nat.mul_le_mul_left _ (Nat.mod_lt _ ht0)
  rw [← ht, Nat.mul_add, Nat.pow_succ] at h7
  rw [h6, Nat.pow_succ] at h5
  have := Nat.two_pow_pos s
  omega
theorem divmod_bit {X bit B R Q : Nat} (hB : 0 < B) (hb : bit < 2) (hR : R = X % B) (hQ : Q = X / B) :
    (B ≤ R + R + bit → (2 * X + bit) / B = 2 * Q + 1 ∧ (2 * X + bit) % B = R + R + bit - B) ∧ (R + R + bit < B → (2 * X + bit) / B = 2 * Q ∧ (2 * X + bit) % B = R + R + bit) := by
  have h1 := Nat.div_add_mod X B
  have h2 := Nat.mod_lt X hB
  rw [← hR, ← hQ] at h1
  rw [← hR] at h2
  subst h1
  clear hR hQ
  constructor
  · intro h
    have e : 2 * (B * Q + R) + bit = (2 * Q + 1) * B + (R + R + bit - B) := by
      have : (2 * Q + 1) * B = 2 * (B * Q) + B := by grind
      omega
    have := val_inj_div e (by omega)
    exact ⟨this.1.symm, this.2.symm⟩
  · intro h
    have e : 2 * (B * Q + R) + bit = (2 * Q) * B + (R + R + bit) := by
      have : (2 * Q) * B = 2 * (B * Q) := by grind
      omega
    have := val_inj_div e h
    exact ⟨this.1.symm, this.2.symm⟩
theorem r_divmod {H : Heap} {s t : Sl} {x y : Nat} (h : Row H .i64 s (dig 65536 x)) (h' : Row H .i64 t (dig 65536 y)) (hm : (dig 65536 x).length < 100000000) (hm' : (dig 65536 y).length < 100000000) (hy : 0 < y) :
    Tot (fun n => f_ref03_DivMod n [.slice s, .slice t] H) fun v H' => Ext0 H H' ∧ ∃ s1 s2, v = .tuple [.slice s1, .slice s2] ∧ Row H' .i64 s1 (dig 65536 (x / y)) ∧ Row H' .i64 s2 (dig 65536 (x % y)) ∧ Fr H.n s1 ∧ Fr H.n s2 := by
  refine Tot.of fun Q hQ => ?_
  refine ref03_DivMod_tot ?_
  have hb0 : bSl 1 ty_int [.int .i64 0] 0 [] = some (.cells (nums .i64 []) ty_int false) := by simp [bSl, rowA, fillA, V.one]
  simp (disch := omega) [h.lenSl, hb0]
  have hLx := rdL x
  have hvx := rdV x
  generalize dig 65536 x = l at *
  have lp : ∀ (k : Nat) (ki : Int) (H' : Heap) (o : List Nat) (so sr : Sl), ki = (k : Int) - 1 → k ≤ 16 * l.length → Ext0 H H' → Mut H' .i64 ty_int H.n [] o [] so → o.length = l.length → Lim 65536 o →
      Row H' .i64 sr (dig 65536 (x / 2 ^ k % y)) → Fr (H.n + 1) sr → val 65536 o = x / 2 ^ k / y * 2 ^ k → ∀ m, Big m →
      Tot (fun n => ref03_DivMod.l0 n (m n) (.slice s) (.slice t) (.slice so) (.slice sr) (.int .i64 ki) H') Q := by
    intro k
    induction k with
    | zero =>
      intro ki H' o so sr hki hk c mo ho hLo rr fr hv m hb
      subst hki
      refine ref03_DivMod.l0_tot hb fun m' hb' => ?_
      simp (disch := omega) []
      refine ref03_DivMod.p2_tot ?_
      simp only [ref03_DivMod.p2_b]
      refine Tot.bind (r_trim mo.row (by omega) hLo) ?_
      rintro v H' ⟨rfl, s3, rfl, r3, f3, -⟩
      simp only [Nat.pow_zero, Nat.div_one, Nat.mul_one] at hv rr
      rw [hv] at r3
      exact Tot.ret (hQ _ _ ⟨c, _, _, rfl, r3, rr, fun i hi => by have := mo.has.1 (f3 i hi); omega, fr.mono (by omega)⟩)
    | succ i ih =>
      intro ki H' o so sr hki hk c mo ho hLo rr fr hv m hb
      have : ki = (i : Int) := by omega
      subst this
      refine ref03_DivMod.l0_tot hb fun m' hb' => ?_
      have hRy : x / 2 ^ (i + 1) % y < y := Nat.mod_lt _ hy
      have hRsz := rsz_mono (Nat.le_of_lt hRy)
      simp (disch := omega) []
      refine Tot.bind (r_add rr rr (by omega) (by omega) (rdL _) (rdL _)) ?_
      rintro v H1 ⟨c1, s1, rfl, r1, f1⟩
      rw [rdV] at r1
      have n1 := c1.n
      have n0 := c.n
      have mlt := mo.lt
      have hj : i / 16 < l.length := by omega
      have hs16 : i % 16 < 16 := Nat.mod_lt _ (by decide)
      have hbit := bit_at hLx hs16 hj
      rw [hvx, Nat.div_add_mod] at hbit
      have rl := (h.ext c).ext c1
      have hx2 : nth l (i / 16) < 65536 := hLx.nth (by decide)
      have hpw : ((nth l (i / 16) : Int)) / 2 ^ (i % 16) = ((nth l (i / 16) / 2 ^ (i % 16) : Nat) : Int) := by simp
      have hdl : nth l (i / 16) / 2 ^ (i % 16) ≤ nth l (i / 16) := Nat.div_le_self _ _
      have hti : ((i : Int) % 16).toNat = i % 16 := by omega
      have hdi : ((i : Int) / 16).toNat = i / 16 := by omega
      have hi63 : (i : Int) / 16 = ((i / 16 : Nat) : Int) := by omega
      have hm63 : (i : Int) % 16 = ((i % 16 : Nat) : Int) := by omega
      obtain ⟨bit, hbe⟩ : ∃ bit, bit = nth l (i / 16) / 2 ^ (i % 16) % 2 := ⟨_, rfl⟩
      have hb2 : bit < 2 := by rw [hbe]; exact Nat.mod_lt _ (by decide)
      have hX : x / 2 ^ i = 2 * (x / 2 ^ (i + 1)) + bit := by
        rw [hbe, hbit, Nat.pow_succ, ← Nat.div_div_eq_div_mul]; omega
      have hdm := divmod_bit hy hb2 (X := x / 2 ^ (i + 1)) rfl rfl
      rw [← hX] at hdm
      have hroom := bit_room hLo hs16 (by omega : i / 16 < o.length) (Q := x / 2 ^ (i + 1) / y) (by rw [Nat.div_add_mod]; exact hv)
      obtain ⟨R, hRe⟩ : ∃ R, R = x / 2 ^ (i + 1) % y := ⟨_, rfl⟩
      rw [← hRe] at hdm hRy hRsz r1
      have e16 : 65536 ^ (i / 16) * 2 ^ (i % 16) = 2 ^ i := by
        rw [show (65536 : Nat) = 2 ^ 16 by decide, ← Nat.pow_mul, ← Nat.pow_add, Nat.div_add_mod]
      have p1 : ∀ (H2 : Heap) (sr2 : Sl), Ext0 H1 H2 → Row H2 .i64 sr2 (dig 65536 (R + R + bit)) → Fr (H.n + 1) sr2 → Tot (fun n => ref03_DivMod.p1 n (m' n) (.slice s) (.slice t) (.slice so) (.slice sr2) (.int .i64 i) H2) Q := by
        intro H2 sr2 c2 r2 f2
        have n2 := c2.n
        have hsz2 : (dig 65536 (R + R + bit)).length ≤ (dig 65536 y).length + 1 := by
          apply dig_len_le (by decide)
          have := dig_len_lt (b := 65536) (x := y) (by decide)
          rw [Nat.pow_succ]; omega
        refine ref03_DivMod.p1_tot ?_
        simp only [ref03_DivMod.p1_b]
        refine Tot.bind (r_cmp r2 (((h'.ext c).ext c1).ext c2) (by omega) (by omega)) ?_
        rintro v H2 ⟨rfl, rfl⟩
        dsimp only
        by_cases hlt : R + R + bit < y
        · obtain ⟨d1, d2⟩ := hdm.2 hlt
          rw [cmpN, if_pos hlt]
          repeat (first | refine Tot.autoP ?_ | refine Tot.autoC ?_ | fail)
          refine Tot.no Bool.false_ne_true ?_
          repeat (first | refine Tot.autoP ?_ | refine Tot.autoC ?_ | fail)
          refine ih _ H2 o so sr2 rfl (by omega) ((c.t c1).t c2) ((mo.ext c1).ext c2) ho hLo (by rw [d2]; exact r2) f2 ?_ _ hb'
          rw [hv, d1, Nat.pow_succ, Nat.mul_comm (2 ^ i) 2, ← Nat.mul_assoc, Nat.mul_comm _ 2]
        · obtain ⟨d1, d2⟩ := hdm.1 (by omega)
          have hc : cmpN (R + R + bit) y ≥ 0 := by rw [cmpN, if_neg hlt]; split <;> omega
          repeat (first | refine Tot.autoP ?_ | refine Tot.autoC ?_ | fail)
          refine Tot.yes (by simpa using hc) ?_
          refine Tot.bind (r_sub r2 (((h'.ext c).ext c1).ext c2) (by omega) (rsz_mono (by omega)) (rdL _) (rdL _) (by rw [rdV, rdV]; omega)) ?_
          rintro v H3 ⟨c3, s3, rfl, r3, f3⟩
          rw [rdV, rdV] at r3
          have n3 := c3.n
          have mo3 := ((mo.ext c1).ext c2).ext c3
          have hqx : nth o (i / 16) < 65536 := hLo.nth (by decide)
          have hp2 : (2 : Nat) ^ (i % 16) ≤ 32768 := by
            have := Nat.pow_le_pow_right (n := 2) (by decide) (show i % 16 ≤ 15 by omega)
            exact this
          have hL4 := hLo.set (i := i / 16) hroom
          obtain ⟨pw, hpwe⟩ : ∃ pw, pw = 2 ^ (i % 16) := ⟨_, rfl⟩
          have hpi : (1 : Int) * 2 ^ (i % 16) = (pw : Int) := by rw [hpwe]; simp
          rw [← hpwe] at hroom hp2 e16 hL4
          dsimp only
          repeat (first | refine Tot.pure (by simp (disch := first | omega | (simp only [npz, nsz, nmz] <;> omega) | fail) [lhz, lgz, sgz, boxA, gz, gs, Heap.gqz, Heap.gpz, Heap.gtz, Heap.gsz, gmz, npz, nsz, nmz, mo3.row.idxN (i := i / 16) (by omega), mo3.row.get, ar_rem, ar_quo, sh_li, hti, hpi]; try exact rfl) ?_ | refine Tot.chk (by simp (disch := first | omega | (simp only [npz, nsz, nmz] <;> omega) | fail) [lhz, lgz, sgz, boxA, gz, gs, Heap.gqz, Heap.gpz, Heap.gtz, Heap.gsz, gmz, npz, nsz, nmz, mo3.row.idxN (i := i / 16) (by omega), mo3.row.get, ar_rem, ar_quo, sh_li, hti, hpi]; done) ?_ | fail)
          refine Tot.st mo3 (x := nth o (i / 16) + pw) (by omega) (by simp) ?_
          intro H4 mo4 c4
          simp (disch := omega) []
          refine ih _ H4 _ so s3 rfl (by omega) ((((c.t c1).t c2).t c3).trans c4 fun i hi e => by omega) mo4 (by simpa using ho) hL4 (by rw [d2]; exact r3.ch c4 fun i hi e => by have := f3 i hi; omega) (fun i hi => by have := f3 i hi; omega) ?_ _ hb'
          have e1 := val_set (b := 65536) (l := o) (i := i / 16) (x := nth o (i / 16) + pw) (by omega)
          rw [Nat.mul_add, e16] at e1
          have e2 : x / 2 ^ (i + 1) / y * 2 ^ (i + 1) = 2 * (x / 2 ^ (i + 1) / y) * 2 ^ i := by rw [Nat.pow_succ]; grind
          rw [d1, Nat.add_mul, Nat.one_mul, ← e2, ← hv]
          omega
      clear hdm hX e16 hroom hbit hv ih
      dsimp only
      have hsh : shA .shr (.int .i64 (nth l (i / 16) : Int)) (.int .u64 ((i : Int) % 16)) = some (.int .i64 ((nth l (i / 16) / 2 ^ (i % 16) : Nat) : Int)) := by
        rw [sh_ri (by omega), hti, hpw]
      generalize nth l (i / 16) / 2 ^ (i % 16) = dq at *
      clear hpw
      repeat (first | refine Tot.pure (by simp (disch := first | omega | (simp only [npz, nsz, nmz] <;> omega) | fail) [lhz, lgz, sgz, boxA, gz, gs, Heap.gqz, Heap.gpz, Heap.gtz, Heap.gsz, gmz, npz, nsz, nmz, rl.idxN (i := i / 16) (by omega), rl.get, ar_rem, ar_quo, hsh]; try exact rfl) ?_ | refine Tot.chk (by simp (disch := first | omega | (simp only [npz, nsz, nmz] <;> omega) | fail) [lhz, lgz, sgz, boxA, gz, gs, Heap.gqz, Heap.gpz, Heap.gtz, Heap.gsz, gmz, npz, nsz, nmz, rl.idxN (i := i / 16) (by omega), rl.get, ar_rem, ar_quo, hsh]; done) ?_ | fail)
      refine Tot.ite (fun h1 => ?_) (fun h1 => ?_)
      · have hb1 : bit = 1 := by
          have := of_decide_eq_true h1
          rw [hbe]; omega
        have hbs : bSl 1 ty_int [.int .i64 0] 1 [(0, .int .i64 1)] = some (.cells [.int .i64 1] ty_int false) := by simp [bSl, rowA]
        repeat (first | refine Tot.pure (by simp (disch := first | omega | (simp only [npz, nsz, nmz] <;> omega) | fail) [lhz, lgz, sgz, boxA, gz, gs, Heap.gqz, Heap.gpz, Heap.gtz, Heap.gsz, gmz, npz, nsz, nmz, hbs]; try exact rfl) ?_ | refine Tot.chk (by simp (disch := first | omega | (simp only [npz, nsz, nmz] <;> omega) | fail) [lhz, lgz, sgz, boxA, gz, gs, Heap.gqz, Heap.gpz, Heap.gtz, Heap.gsz, gmz, npz, nsz, nmz, hbs]; done) ?_ | fail)
        have hrow : ∀ (G : Heap), Row (G.push (.cells [.int .i64 1] ty_int false)) .i64 ⟨some (G.n, 0), 1, 1, false⟩ [1] :=
          fun G => Row.new (l := [1]) (e := ty_int) (ro := false) (by simp) (by rw [Heap.gpz rfl]; rfl)
        have hsz3 : (dig 65536 (R + R)).length ≤ (dig 65536 y).length + 1 := by
          apply dig_len_le (by decide)
          have := dig_len_lt (b := 65536) (x := y) (by decide)
          rw [Nat.pow_succ]; omega
        refine Tot.bind (r_add (r1.ext Ch.push) (hrow _) (by omega) (by simp) (rdL _) (Lim.one.2 (by decide))) ?_
        rintro v H2 ⟨c2, s2, rfl, r2, f2⟩
        rw [rdV, val_one, ← hb1] at r2
        dsimp only
        exact p1 H2 s2 ((Ch.push (X := fun _ => False)).t c2) r2 (fun i hi => by have := f2 i hi; simp at this; omega)
      · have hb0 : bit = 0 := by
          have h1' : ¬ (dq : Int) % 2 = 1 := by simpa using h1
          rw [hbe]; omega
        refine p1 H1 s1 Ch.refl (by rw [hb0]; exact r1) (fun i hi => by have := f1 i hi; omega)
  have hx0 : x / 2 ^ (16 * l.length) = 0 := by
    apply Nat.div_eq_of_lt
    rw [Nat.pow_mul, ← hvx]; exact val_lt hLx
  refine lp (16 * l.length) _ _ (List.replicate l.length 0) _ _ (by omega) (Nat.le_refl _) (Ch.push.push') (Mut.make.ext Ch.push) (by simp) (by intro y hy; simp at hy; omega) ?_ ?_ ?_ _ Big.id
  · rw [hx0, Nat.zero_mod, dig_zero]
    exact Row.new (l := []) (e := ty_int) (ro := false) (by simp) (by rw [Heap.gpz (by simp)]; rfl)
  · intro i hi; rw [has_mk] at hi; omega
  · rw [hx0, val_zero]; simp
end Go.AM
end
section
set_option linter.unusedVariables false
set_option linter.unusedSimpArgs false
set_option linter.unusedSimpArgs false
set_option linter.unusedVariables false
namespace Go.AM
theorem nth_dig0 {x : Nat} (hx : x ≠ 0) : nth (dig 65536 x) 0 = x % 65536 := by rw [dig_pos (by decide) hx]; rfl
theorem rlen_pos {x : Nat} : 0 < (dig 65536 x).length ↔ x ≠ 0 := by
  have := dig_eq_nil (b := 65536) (x := x) (by decide)
  constructor
  · intro h e; rw [this.2 e] at h; simp at h
  · intro h
    rcases Nat.eq_zero_or_pos (dig 65536 x).length with e | e
    · exact (h (this.1 (List.eq_nil_of_length_eq_zero e))).elim
    · exact e
theorem gcd_half {x y : Nat} (hx : x % 2 = 0) (hy : y % 2 = 1) : Nat.gcd (x / 2) y = Nat.gcd x y := by
  have h2 : Nat.gcd 2 y = 1 := by rw [Nat.gcd_rec, hy]; decide
  have : x = 2 * (x / 2) := by omega
  conv => rhs; rw [this]
  exact (Nat.Coprime.gcd_mul_left_cancel _ h2).symm
theorem gcd_sub {x y : Nat} (h : y ≤ x) : Nat.gcd (x - y) y = Nat.gcd x y := by
  have : x = (x - y) + y := by omega
  conv => rhs; rw [this]
  rw [Nat.gcd_add_self_left]
set_option maxHeartbeats 1000000 in
theorem r_gcd {H : Heap} {s t : Sl} {a b : Nat} (h : Row H .i64 s (dig 65536 a)) (h' : Row H .i64 t (dig 65536 b)) (hm : (dig 65536 a).length < 100000000) (hm' : (dig 65536 b).length < 100000000) :
    Tot (fun n => f_ref03_Gcd n [.slice s, .slice t] H) fun v H' => Ext0 H H' ∧ ∃ s1, v = .slice s1 ∧ Row H' .i64 s1 (dig 65536 (Nat.gcd a b)) := by
  refine Tot.of fun Q hQ => ?_
  refine ref03_Gcd_tot ?_
  have hbs : bSl 1 ty_int [.int .i64 0] 1 [(0, .int .i64 1)] = some (.cells [.int .i64 1] ty_int false) := by simp [bSl, rowA]
  simp (disch := omega) [hbs, h.lenSl, h'.lenSl]
  have d1 : dig 65536 1 = [1] := by rw [dig_pos (by decide) (by decide)]; simp [dig_zero]
  refine Tot.ite (fun h0 => ?_) (fun h0 => ?_)
  · have ha : a = 0 := by
      rw [← dig_eq_nil (b := 65536) (by decide)]; simpa using h0
    subst ha
    rw [Nat.gcd_zero_left] at hQ
    exact Tot.ret (hQ _ _ ⟨Ch.push, _, rfl, h'.ext Ch.push⟩)
  have ha : a ≠ 0 := by
    intro e; apply h0; rw [e, dig_zero]; try rfl
  refine Tot.ite (fun h1 => ?_) (fun h1 => ?_)
  · have hb : b = 0 := by
      rw [← dig_eq_nil (b := 65536) (by decide)]; simpa using h1
    subst hb
    rw [Nat.gcd_zero_right] at hQ
    exact Tot.ret (hQ _ _ ⟨Ch.push, _, rfl, h.ext Ch.push⟩)
  have hb : b ≠ 0 := by
    intro e; apply h1; rw [e, dig_zero]; try rfl
  have hone : Row (H.push (.cells [.int .i64 1] ty_int false)) .i64 ⟨some (H.n, 0), 1, 1, false⟩ (dig 65536 1) := by
    rw [d1]
    exact Row.new (l := [1]) (e := ty_int) (ro := false) (by simp) (by rw [Heap.gpz rfl]; rfl)
  have p4 : ∀ (H' : Heap) (s5 sy : Sl) (y two : Nat) (ti : Int), ti = (two : Int) → Ext0 H H' → Row H' .i64 s5 (dig 65536 1) → Row H' .i64 sy (dig 65536 y) → (dig 65536 y).length < 100000000 → 2 ^ two ≤ a → two < 4000000000 → y * 2 ^ two = Nat.gcd a b →
      Tot (fun n => ref03_Gcd.p4 n (.slice s5) (.slice sy) (.int .i64 ti) H') Q := by
    intro H' s5 sy y two ti hti c r5 ry hys hta htl hg
    subst hti
    refine ref03_Gcd.p4_tot ?_
    simp only [ref03_Gcd.p4_b]
    have lp : ∀ (j i : Nat) (ii : Int) (H2 : Heap) (s6 : Sl), i + j = two → ii = (i : Int) → Ext0 H H2 → Row H2 .i64 s6 (dig 65536 (2 ^ i)) → Row H2 .i64 sy (dig 65536 y) → ∀ m, Big m → Tot (fun n => ref03_Gcd.l6 n (m n) (.slice s6) (.slice sy) (.int .i64 two) (.int .i64 ii) H2) Q := by
      intro j
      induction j with
      | zero =>
        intro i ii H2 s6 hi hii c r6 ry m hb
        subst hii
        refine ref03_Gcd.l6_tot hb fun m' hb' => ?_
        simp (disch := omega) []
        refine Tot.no (by omega) ?_
        have : i = two := by omega
        subst this
        refine ref03_Gcd.p8_tot ?_
        simp only [ref03_Gcd.p8_b]
        have := rsz_mono hta
        refine Tot.bind (r_mul ry r6 (by omega) (rdL _) (rdL _)) ?_
        rintro v H3 ⟨c3, s3, rfl, r3, -⟩
        rw [rdV, rdV, hg] at r3
        exact Tot.ret (hQ _ _ ⟨c.t c3, _, rfl, r3⟩)
      | succ j ih =>
        intro i ii H2 s6 hi hii c r6 ry m hb
        subst hii
        refine ref03_Gcd.l6_tot hb fun m' hb' => ?_
        simp (disch := omega) []
        refine Tot.yes (by omega) ?_
        have hle : 2 ^ i ≤ a := Nat.le_trans (Nat.pow_le_pow_right (by decide) (by omega)) hta
        have := rsz_mono hle
        refine Tot.bind (r_add r6 r6 (by omega) (by omega) (rdL _) (rdL _)) ?_
        rintro v H3 ⟨c3, s3, rfl, r3, -⟩
        rw [rdV, ← Nat.two_mul, Nat.mul_comm, ← Nat.pow_succ] at r3
        dsimp only
        try simp (disch := omega) []
        exact ih (i + 1) _ H3 s3 (by omega) (by omega) (c.t c3) r3 (ry.ext c3) _ hb'
    exact lp two 0 _ H' s5 (by omega) rfl c r5 ry _ Big.id
  have l2 : ∀ (N x y : Nat), x + y < N → ∀ (H' : Heap) (s5 sx sy : Sl) (two : Nat), Ext0 H H' → Row H' .i64 s5 (dig 65536 1) → Row H' .i64 sx (dig 65536 x) → Row H' .i64 sy (dig 65536 y) → (dig 65536 x).length < 100000000 → (dig 65536 y).length < 100000000 → y ≠ 0 → (x % 2 = 1 ∨ y % 2 = 1) →
      2 ^ two ≤ a → two < 4000000000 → Nat.gcd x y * 2 ^ two = Nat.gcd a b → ∀ m, Big m → Tot (fun n => ref03_Gcd.l2 n (m n) (.slice s5) (.slice sx) (.slice sy) (.int .i64 two) H') Q := by
    intro N
    induction N with
    | zero => intro x y h; omega
    | succ N ih =>
      intro x y hN H' s5 sx sy two c r5 rx ry hxs hys hy0 hodd hta htl hg m hb
      refine ref03_Gcd.l2_tot hb fun m' hb' => ?_
      simp (disch := omega) [rx.lenSl]
      by_cases hx0 : x = 0
      · subst hx0
        refine Tot.no (by rw [dig_zero]; simp) ?_
        rw [Nat.gcd_zero_left] at hg
        exact p4 H' s5 sy y two _ rfl c r5 ry hys hta htl hg
      refine Tot.yes (by have := rlen_pos.2 hx0; omega) ?_
      have p9 : ∀ (H' : Heap) (sx sy : Sl) (x y : Nat), x + y < N + 1 → Ext0 H H' → Row H' .i64 s5 (dig 65536 1) → Row H' .i64 sx (dig 65536 x) → Row H' .i64 sy (dig 65536 y) → (dig 65536 x).length < 100000000 → (dig 65536 y).length < 100000000 → x % 2 = 1 → y % 2 = 1 → Nat.gcd x y * 2 ^ two = Nat.gcd a b →
          Tot (fun n => ref03_Gcd.p9 n (m' n) (.slice s5) (.slice sx) (.slice sy) (.int .i64 two) H') Q := by
        intro H' sx sy x y hN c r5 rx ry hxs hys hx1 hy1 hg
        refine ref03_Gcd.p9_tot ?_
        simp only [ref03_Gcd.p9_b]
        refine Tot.bind (r_cmp rx ry (by omega) (by omega)) ?_
        rintro v H' ⟨rfl, rfl⟩
        dsimp only
        simp (disch := omega) []
        by_cases hlt : x < y
        · refine Tot.yes (by rw [cmpN, if_pos hlt]; decide) ?_
          refine Tot.bind (r_sub ry rx (by omega) (rsz_mono (by omega)) (rdL _) (rdL _) (by rw [rdV, rdV]; omega)) ?_
          rintro v H3 ⟨c3, s3, rfl, r3, -⟩
          rw [rdV, rdV] at r3
          dsimp only
          exact ih (y - x) x (by omega) H3 s5 s3 sx two (c.t c3) (r5.ext c3) r3 (rx.ext c3) (Nat.lt_of_le_of_lt (rsz_mono (by omega)) hys) hxs (by omega) (.inr hx1) hta htl (by rw [gcd_sub (by omega), Nat.gcd_comm]; exact hg) _ hb'
        · refine Tot.no (by rw [cmpN, if_neg hlt]; split <;> decide) ?_
          refine Tot.bind (r_sub rx ry (by omega) (rsz_mono (by omega)) (rdL _) (rdL _) (by rw [rdV, rdV]; omega)) ?_
          rintro v H3 ⟨c3, s3, rfl, r3, -⟩
          rw [rdV, rdV] at r3
          dsimp only
          exact ih (x - y) y (by omega) H3 s5 s3 sy two (c.t c3) (r5.ext c3) r3 (ry.ext c3) (Nat.lt_of_le_of_lt (rsz_mono (by omega)) hxs) hys (by omega) (.inr hy1) hta htl (by rw [gcd_sub (by omega)]; exact hg) _ hb'
      have l7 : ∀ (M y : Nat), y < M → ∀ (H' : Heap) (sx sy : Sl) (x : Nat), x + y < N + 1 → Ext0 H H' → Row H' .i64 s5 (dig 65536 1) → Row H' .i64 sx (dig 65536 x) → Row H' .i64 sy (dig 65536 y) → (dig 65536 x).length < 100000000 → (dig 65536 y).length < 100000000 → x % 2 = 1 → y ≠ 0 → Nat.gcd x y * 2 ^ two = Nat.gcd a b →
          ∀ m1, Big m1 → Tot (fun n => ref03_Gcd.l7 n (m' n) (m1 n) (.slice s5) (.slice sx) (.slice sy) (.int .i64 two) H') Q := by
        intro M
        induction M with
        | zero => intro y h; omega
        | succ M ih7 =>
          intro y hM H' sx sy x hN c r5 rx ry hxs hys hx1 hy0 hg m1 hb1
          refine ref03_Gcd.l7_tot hb1 fun m1' hb1' => ?_
          have hl := rlen_pos.2 hy0
          simp (disch := omega) [ry.idxN (i := 0) (by omega), ry.get, nth_dig0 hy0, ar_rem]
          refine Tot.ite (fun he => ?_) (fun he => ?_)
          · refine Tot.bind (r_half ry (by omega) (rdL _)) ?_
            rintro v H3 ⟨c3, s3, rfl, r3, -⟩
            rw [rdV] at r3
            dsimp only
            exact ih7 (y / 2) (by omega) H3 sx s3 x (by omega) (c.t c3) (r5.ext c3) (rx.ext c3) r3 hxs (Nat.lt_of_le_of_lt (rsz_mono (by omega)) hys) hx1 (by omega) (by rw [Nat.gcd_comm, gcd_half (by omega) hx1, Nat.gcd_comm]; exact hg) _ hb1'
          · exact p9 H' sx sy x y hN c r5 rx ry hxs hys hx1 (by omega) hg
      have l3 : ∀ (M x : Nat), x < M → ∀ (H' : Heap) (sx sy : Sl) (y : Nat), x + y < N + 1 → Ext0 H H' → Row H' .i64 s5 (dig 65536 1) → Row H' .i64 sx (dig 65536 x) → Row H' .i64 sy (dig 65536 y) → (dig 65536 x).length < 100000000 → (dig 65536 y).length < 100000000 → x ≠ 0 → y ≠ 0 → (x % 2 = 1 ∨ y % 2 = 1) → Nat.gcd x y * 2 ^ two = Nat.gcd a b →
          ∀ m1, Big m1 → Tot (fun n => ref03_Gcd.l3 n (m' n) (m1 n) (.slice s5) (.slice sx) (.slice sy) (.int .i64 two) H') Q := by
        intro M
        induction M with
        | zero => intro x h; omega
        | succ M ih3 =>
          intro x hM H' sx sy y hN c r5 rx ry hxs hys hx0 hy0 hodd hg m1 hb1
          refine ref03_Gcd.l3_tot hb1 fun m1' hb1' => ?_
          have hl := rlen_pos.2 hx0
          simp (disch := omega) [rx.idxN (i := 0) (by omega), rx.get, nth_dig0 hx0, ar_rem]
          refine Tot.ite (fun he => ?_) (fun he => ?_)
          · have hy1 : y % 2 = 1 := by omega
            refine Tot.bind (r_half rx (by omega) (rdL _)) ?_
            rintro v H3 ⟨c3, s3, rfl, r3, -⟩
            rw [rdV] at r3
            dsimp only
            exact ih3 (x / 2) (by omega) H3 s3 sy y (by omega) (c.t c3) (r5.ext c3) r3 (ry.ext c3) (Nat.lt_of_le_of_lt (rsz_mono (by omega)) hxs) hys (by omega) hy0 (.inr hy1) (by rw [gcd_half (by omega) hy1]; exact hg) _ hb1'
          · refine ref03_Gcd.p5_tot ?_
            simp only [ref03_Gcd.p5_b]
            exact l7 (y + 1) y (by omega) H' sx sy x hN c r5 rx ry hxs hys (by omega) hy0 hg _ Big.id
      exact l3 (x + 1) x (by omega) H' sx sy y hN c r5 rx ry hxs hys hx0 hy0 hodd hg _ Big.id
  have l0 : ∀ (x : Nat) (y two : Nat) (ti : Int) (H' : Heap) (s5 sx sy : Sl), ti = (two : Int) → Ext0 H H' → Row H' .i64 s5 (dig 65536 1) → Row H' .i64 sx (dig 65536 x) → Row H' .i64 sy (dig 65536 y) → x ≠ 0 → y ≠ 0 → a = x * 2 ^ two → b = y * 2 ^ two → ∀ m, Big m → Tot (fun n => ref03_Gcd.l0 n (m n) (.slice s5) (.slice sx) (.slice sy) (.int .i64 ti) H') Q := by
    intro x
    induction x using Nat.strongRecOn with
    | ind x ih =>
      intro y two ti H' s5 sx sy hti c r5 rx ry hx0 hy0 hae hbe m hb
      subst hti
      have hxa : x ≤ a := by rw [hae]; exact Nat.le_mul_of_pos_right _ (Nat.two_pow_pos _)
      have hyb : y ≤ b := by rw [hbe]; exact Nat.le_mul_of_pos_right _ (Nat.two_pow_pos _)
      have hxs := Nat.lt_of_le_of_lt (rsz_mono hxa) hm
      have hys := Nat.lt_of_le_of_lt (rsz_mono hyb) hm'
      have hta : 2 ^ two ≤ a := by rw [hae]; exact Nat.le_mul_of_pos_left _ (by omega)
      have htl : two < 4000000000 := by
        have h1 := dig_len_lt (b := 65536) (x := a) (by decide)
        have h2 : (65536 : Nat) ^ (dig 65536 a).length = 2 ^ (16 * (dig 65536 a).length) := by rw [Nat.pow_mul]
        rw [h2] at h1
        have h3 : 2 ^ two < 2 ^ (16 * (dig 65536 a).length) := by omega
        have := (Nat.pow_lt_pow_iff_right (a := 2) (by decide)).1 h3
        omega
      have hg : Nat.gcd x y * 2 ^ two = Nat.gcd a b := by rw [hae, hbe, Nat.gcd_mul_right]
      refine ref03_Gcd.l0_tot hb fun m' hb' => ?_
      have hlx := rlen_pos.2 hx0
      have hly := rlen_pos.2 hy0
      have go : (x % 2 = 1 ∨ y % 2 = 1) → Tot (fun n => ref03_Gcd.p1 n (.slice s5) (.slice sx) (.slice sy) (.int .i64 two) H') Q := by
        intro hodd
        refine ref03_Gcd.p1_tot ?_
        simp only [ref03_Gcd.p1_b]
        exact l2 (x + y + 1) x y (by omega) H' s5 sx sy two c r5 rx ry hxs hys hy0 hodd hta htl hg _ Big.id
      simp (disch := omega) [rx.idxN (i := 0) (by omega), rx.get, nth_dig0 hx0, ry.idxN (i := 0) (by omega), ry.get, nth_dig0 hy0, ar_rem]
      refine Tot.ite (fun he => ?_) (fun he => ?_)
      · refine Tot.ite (fun he2 => ?_) (fun he2 => ?_)
        · refine Tot.bind (r_half rx (by omega) (rdL _)) ?_
          rintro v H3 ⟨c3, s3, rfl, r3, -⟩
          rw [rdV] at r3
          dsimp only
          refine Tot.bind (r_half (ry.ext c3) (by omega) (rdL _)) ?_
          rintro v H4 ⟨c4, s4, rfl, r4, -⟩
          rw [rdV] at r4
          dsimp only
          try simp (disch := omega) []
          have e2 : ∀ z, z % 2 = 0 → z * 2 ^ two = z / 2 * 2 ^ (two + 1) := by
            intro z hz
            rw [Nat.pow_succ, Nat.mul_comm (2 ^ two), ← Nat.mul_assoc]
            congr 1; omega
          exact ih (x / 2) (by omega) (y / 2) (two + 1) _ H4 s5 s3 s4 (by omega) ((c.t c3).t c4) ((r5.ext c3).ext c4) (r3.ext c4) r4 (by omega) (by omega) (by rw [hae]; exact e2 x (by omega)) (by rw [hbe]; exact e2 y (by omega)) _ hb'
        · exact go (.inr (by omega))
      · exact go (.inl (by omega))
  exact l0 a b 0 _ _ _ s t rfl Ch.push hone (h.ext Ch.push) (h'.ext Ch.push) ha hb (by simp) (by simp) _ Big.id
end Go.AM
end
section
set_option linter.unusedVariables false
set_option linter.unusedSimpArgs false
set_option linter.unusedSimpArgs false
set_option linter.unusedVariables false
namespace Go.AM
attribute [local congr] bnd_weak ite_weak
def ltr (d : Nat) : UInt8 := UInt8.ofNat (48 + d)
theorem digit_at {d : Nat} (hd : d < 10) : (([48, 49, 50, 51, 52, 53, 54, 55, 56, 57] : List UInt8).take (d + 1)).drop d = [ltr d] := by
  have key : ∀ i : Fin 10, (([48, 49, 50, 51, 52, 53, 54, 55, 56, 57] : List UInt8).take (i.val + 1)).drop i.val = [ltr i.val] := by decide
  exact key ⟨d, hd⟩
def txt (ds : List Nat) : List UInt8 := (lets ds).reverse.map UInt8.ofNat
theorem txt_snoc {ds : List Nat} {d : Nat} : txt (ds ++ [d]) = ltr d :: txt ds := by simp only [txt, lets, ltr, List.map_append, List.reverse_append, List.map_cons, List.map_nil, List.reverse_cons, List.reverse_nil, List.nil_append, List.singleton_append]
theorem txt_len {ds : List Nat} : (txt ds).length = ds.length := by simp [txt, lets]
theorem r_show {H : Heap} {s : Sl} {x : Nat} (h : Row H .i64 s (dig 65536 x)) (hm : (dig 65536 x).length < 10000000) :
    Tot (fun n => f_ref03_Show n [.slice s] H) fun v H' => Ext0 H H' ∧ v = .str (dec x) := by
  refine Tot.of fun Q hQ => ?_
  refine ref03_Show_tot ?_
  have hb0 : bSl 1 ty_int [.int .i64 0] 0 [] = some (.cells (nums .i64 []) ty_int false) := by simp [bSl, rowA, fillA, V.one]
  simp only [ref03_Show_b, hb0, bnd_some]
  obtain ⟨s1, H1, a1, a2, a3, a4⟩ := appA_own (by_ := 8) (Own.new (H := H) (k := .i64) (e := ty_int) (l := [])) ((h.ext Ch.push).src) (by simp; omega) (by decide)
  simp only [List.length_nil] at a1
  rw [a1]
  simp only [bnd_some]
  rw [List.nil_append] at a2
  have cH1 : Ext0 H H1 := (Ch.push (X := fun _ => False)).trans a3 fun i hi e => by rw [has_mk] at e; omega
  have f1 : Fr H.n s1 := fun i hi => by
    rcases a4 i hi with h | h
    · rw [has_mk] at h; omega
    · simp at h; omega
  have step : ∀ (y : Nat) (H' : Heap) (sl : Sl) (q : List Nat) (ds : List Nat), Ext0 H H' → Row H' .i64 sl (dig 65536 y) → (y ≠ 0 → ∃ b, Mut H' .i64 ty_int b [] (dig 65536 y) q sl ∧ H.n ≤ b) → (dig 65536 y).length < 10000000 → ds.length < 1000000000 →
      (∀ (H2 : Heap) (s2 : Sl) (q2 : List Nat), Ext0 H H2 → Row H2 .i64 s2 (dig 65536 (y / 10)) → (y / 10 ≠ 0 → ∃ b, Mut H2 .i64 ty_int b [] (dig 65536 (y / 10)) q2 s2 ∧ H.n ≤ b) → ∀ m', Big m' → Tot (fun n => ref03_Show.l0 n (m' n) (.slice s2) (.str (txt (ds ++ [y % 10]))) H2) Q) →
      ∀ m', Big m' → Tot (fun n => ref03_Show.l1 n (m' n) n (.slice sl) (.str (txt ds)) (.int .i64 0) (.int .i64 (((dig 65536 y).length : Int) - 1)) H') Q := by
    intro y H' sl q ds c rl hmu hys hds hk m' hb'
    have p2 : ∀ (H2 : Heap) (l2 : List Nat) (d : Nat) (di : Int), di = (d : Int) → d = y % 10 → Ext0 H H2 → Row H2 .i64 sl l2 → (y ≠ 0 → ∃ b, Mut H2 .i64 ty_int b [] l2 q sl ∧ H.n ≤ b) → l2.length = (dig 65536 y).length → Lim 65536 l2 → val 65536 l2 = y / 10 → sl.esz = 1 ∨ y = 0 →
        Tot (fun n => ref03_Show.p2 n (m' n) (.slice sl) (.str (txt ds)) (.int .i64 di) H2) Q := by
      intro H2 l2 d di hdi hd c2 r2 hm2 hl2 hL2 hv2 hez
      subst hdi
      refine ref03_Show.p2_tot ?_
      simp only [ref03_Show.p2_b]
      refine Tot.bind (r_trim r2 (by omega) hL2) ?_
      rintro v H2 ⟨rfl, s3, rfl, r3, f3, had, hez3⟩
      rw [hv2] at r3
      have hd10 : d < 10 := by rw [hd]; exact Nat.mod_lt _ (by decide)
      have hsl : slStr (.str [48, 49, 50, 51, 52, 53, 54, 55, 56, 57]) (some (.int .i64 (d : Int))) (some (.int .i64 ((d : Int) + 1))) = some (.str [ltr d]) := by
        have h1 : bndA 0 (some (.int .i64 (d : Int))) = some d := by simp [bndA]
        have h2 : bndA 10 (some (.int .i64 ((d : Int) + 1))) = some (d + 1) := by rw [bndA_int (by omega)]; congr 1
        simp only [slStr, h1, List.length_cons, List.length_nil, Nat.zero_add, Nat.reduceAdd, h2, Option.bind_some]
        rw [if_pos (by omega), digit_at hd10]
      have hcat := ar_cat (a := [ltr d]) (b := txt ds) (by rw [txt_len]; simp; omega)
      dsimp only
      repeat (first | refine Tot.pure (by simp (disch := first | omega | (simp only [npz, nsz, nmz] <;> omega) | fail) [lhz, lgz, sgz, boxA, gz, gs, Heap.gqz, Heap.gpz, Heap.gtz, Heap.gsz, gmz, npz, nsz, nmz, hsl, hcat]; try exact rfl) ?_ | refine Tot.chk (by simp (disch := first | omega | (simp only [npz, nsz, nmz] <;> omega) | fail) [lhz, lgz, sgz, boxA, gz, gs, Heap.gqz, Heap.gpz, Heap.gtz, Heap.gsz, gmz, npz, nsz, nmz, hsl, hcat]; done) ?_ | fail)
      have hk2 := hk H2 s3 (l2.drop (dig 65536 (y / 10)).length ++ q) c2 r3 (fun hy => by
        have hy0 : y ≠ 0 := by intro e; rw [e] at hy; simp at hy
        obtain ⟨b, m2, hb⟩ := hm2 hy0
        refine ⟨b, ?_, hb⟩
        have := m2.pre (t := s3) (trimZ_split l2) had hez3 (by rw [r3.len, ← hv2, ← trimZ_dig (b := 65536) (by decide) hL2])
        rwa [trimZ_dig (b := 65536) (by decide) hL2, hv2] at this) _ hb'
      rw [← hd, txt_snoc] at hk2
      simpa using hk2
    by_cases hy0 : y = 0
    · subst hy0
      refine ref03_Show.l1_tot Big.id fun m1' hb1' => ?_
      simp only [dig_zero, List.length_nil] at *
      simp only [ref03_Show.l1_b]
      repeat (first | refine Tot.autoP ?_ | refine Tot.autoC ?_ | fail)
      refine Tot.no Bool.false_ne_true ?_
      exact p2 H' [] 0 0 rfl rfl c rl (fun h => (h rfl).elim) rfl Lim.nil rfl (.inr trivial)
    · obtain ⟨b, mu, hbn⟩ := hmu hy0
      have lp : ∀ (j : Nat) (ii ri : Int) (H2 : Heap) (o : List Nat) (r : Nat), ii = (j : Int) - 1 → ri = (r : Int) → j ≤ (dig 65536 y).length → Ch (· = b) H' H2 → Mut H2 .i64 ty_int b [] o q sl → o.length = (dig 65536 y).length → Lim 65536 o → r < 10 → o.take j = (dig 65536 y).take j →
          val 65536 ((dig 65536 y).drop j) = val 65536 (o.drop j) * 10 + r → ∀ m1, Big m1 → Tot (fun n => ref03_Show.l1 n (m' n) (m1 n) (.slice sl) (.str (txt ds)) (.int .i64 ri) (.int .i64 ii) H2) Q := by
        intro j
        induction j with
        | zero =>
          intro ii ri H2 o r hii hri hj c2 mo ho hLo hr ht hv m1 hb1
          subst hii hri
          refine ref03_Show.l1_tot hb1 fun m1' hb1' => ?_
          simp only [ref03_Show.l1_b]
          repeat (first | refine Tot.autoP ?_ | refine Tot.autoC ?_ | fail)
          refine Tot.no Bool.false_ne_true ?_
          simp only [List.drop_zero] at hv
          rw [rdV] at hv
          have h2 := val_inj_div hv hr
          exact p2 H2 o r _ rfl h2.2 (c.trans c2 fun i hi e => by omega) mo.row (fun _ => ⟨b, mo, hbn⟩) ho hLo h2.1 (.inl mo.esz)
        | succ j ih =>
          intro ii ri H2 o r hii hri hj c2 mo ho hLo hr ht hv m1 hb1
          have : ii = (j : Int) := by omega
          subst this hri
          refine ref03_Show.l1_tot hb1 fun m1' hb1' => ?_
          have hx := hLo.nth (i := j) (by decide)
          have hxe : nth o j = nth (dig 65536 y) j := by rw [← nth_take (l := o) (n := j + 1) (by omega), ht, nth_take (by omega)]
          simp only [ref03_Show.l1_b]
          repeat (first | refine Tot.pure (by simp (disch := first | omega | (simp only [npz, nsz, nmz] <;> omega) | fail) [lhz, lgz, sgz, boxA, gz, gs, Heap.gqz, Heap.gpz, Heap.gtz, Heap.gsz, gmz, npz, nsz, nmz, mo.row.idxN (i := j) (by omega), mo.row.get, ar_quo, ar_rem]; try exact rfl) ?_ | refine Tot.chk (by simp (disch := first | omega | (simp only [npz, nsz, nmz] <;> omega) | fail) [lhz, lgz, sgz, boxA, gz, gs, Heap.gqz, Heap.gpz, Heap.gtz, Heap.gsz, gmz, npz, nsz, nmz, mo.row.idxN (i := j) (by omega), mo.row.get, ar_quo, ar_rem]; done) ?_ | fail)
          refine Tot.st mo (x := (r * 65536 + nth o j) / 10) (by omega) (by omega) ?_
          intro H3 mo3 c3
          repeat (first | refine Tot.pure (by simp (disch := first | omega | (simp only [npz, nsz, nmz] <;> omega) | fail) [lhz, lgz, sgz, boxA, gz, gs, Heap.gqz, Heap.gpz, Heap.gtz, Heap.gsz, gmz, npz, nsz, nmz, ar_quo, ar_rem]; try exact rfl) ?_ | refine Tot.chk (by simp (disch := first | omega | (simp only [npz, nsz, nmz] <;> omega) | fail) [lhz, lgz, sgz, boxA, gz, gs, Heap.gqz, Heap.gpz, Heap.gtz, Heap.gsz, gmz, npz, nsz, nmz, ar_quo, ar_rem]; done) ?_ | fail)
          refine ih _ _ H3 _ ((r * 65536 + nth o j) % 10) (by omega) (by omega) (by omega) (c2.trans c3 fun i hi e => e) mo3 (by simpa using ho) (hLo.set (by omega)) (by omega) ?_ ?_ _ hb1'
          · rw [take_set_le (Nat.le_refl _)]
            have := congrArg (List.take j) ht
            simpa [List.take_take, Nat.min_eq_left (Nat.le_succ j)] using this
          · rw [val_drop_nth (by omega), drop_set_eq (by omega), ← hxe, short_step hv]
            rfl
      exact lp _ _ _ H' (dig 65536 y) 0 rfl rfl (Nat.le_refl _) Ch.refl mu rfl (rdL _) (by decide) rfl (by rw [List.drop_length]; simp [val]) _ Big.id
  have don : ∀ (H' : Heap) (sl : Sl) (ds : List Nat), Ext0 H H' → Row H' .i64 sl (dig 65536 0) → ds ≠ [] → txt ds = dec x → ∀ m, Big m → Tot (fun n => ref03_Show.l0 n (m n) (.slice sl) (.str (txt ds)) H') Q := by
    intro H' sl ds c rl hne ht m hb
    refine ref03_Show.l0_tot hb fun m' hb' => ?_
    simp only [ref03_Show.l0_b]
    have hl := rl.lenSl
    rw [dig_zero] at hl
    have he : arA .eql (.str (txt ds)) (.str []) = some (.bool false) := by
      have : (txt ds == []) = false := by
        cases hd : txt ds with
        | nil => have := txt_len (ds := ds); rw [hd] at this; exact (hne (List.eq_nil_of_length_eq_zero this.symm)).elim
        | cons a l => rfl
      simp [arA, strA, this]
    repeat (first | refine Tot.pure (by simp (disch := first | omega | (simp only [npz, nsz, nmz] <;> omega) | fail) [lhz, lgz, sgz, boxA, gz, gs, Heap.gqz, Heap.gpz, Heap.gtz, Heap.gsz, gmz, npz, nsz, nmz, hl, he]; try exact rfl) ?_ | refine Tot.chk (by simp (disch := first | omega | (simp only [npz, nsz, nmz] <;> omega) | fail) [lhz, lgz, sgz, boxA, gz, gs, Heap.gqz, Heap.gpz, Heap.gtz, Heap.gsz, gmz, npz, nsz, nmz, hl, he]; done) ?_ | fail)
    refine Tot.no Bool.false_ne_true ?_
    repeat (first | refine Tot.pure (by simp (disch := first | omega | (simp only [npz, nsz, nmz] <;> omega) | fail) [lhz, lgz, sgz, boxA, gz, gs, Heap.gqz, Heap.gpz, Heap.gtz, Heap.gsz, gmz, npz, nsz, nmz, hl, he]; try exact rfl) ?_ | refine Tot.chk (by simp (disch := first | omega | (simp only [npz, nsz, nmz] <;> omega) | fail) [lhz, lgz, sgz, boxA, gz, gs, Heap.gqz, Heap.gpz, Heap.gtz, Heap.gsz, gmz, npz, nsz, nmz, hl, he]; done) ?_ | fail)
    refine Tot.no Bool.false_ne_true ?_
    exact Tot.ret (hQ _ _ ⟨c, by rw [ht]⟩)
  have lp0 : ∀ (y : Nat) (H' : Heap) (sl : Sl) (q ds : List Nat), Ext0 H H' → Row H' .i64 sl (dig 65536 y) → (y ≠ 0 → ∃ b, Mut H' .i64 ty_int b [] (dig 65536 y) q sl ∧ H.n ≤ b) → (dig 65536 y).length < 10000000 → ds.length + (dig 10 y).length < 900000000 → Lim 10 ds →
      val 10 ds + 10 ^ ds.length * y = x → (y ≠ 0 ∨ ds = []) → ∀ m, Big m → Tot (fun n => ref03_Show.l0 n (m n) (.slice sl) (.str (txt ds)) H') Q := by
    intro y
    induction y using Nat.strongRecOn with
    | ind y ih =>
      intro H' sl q ds c rl hmu hys hds hLd hv hyd m hb
      refine ref03_Show.l0_tot hb fun m' hb' => ?_
      simp only [ref03_Show.l0_b]
      have hdl : ds.length < 900000000 := by omega
      have next : ∀ (H2 : Heap) (s2 : Sl) (q2 : List Nat), Ext0 H H2 → Row H2 .i64 s2 (dig 65536 (y / 10)) → (y / 10 ≠ 0 → ∃ b, Mut H2 .i64 ty_int b [] (dig 65536 (y / 10)) q2 s2 ∧ H.n ≤ b) → ∀ m', Big m' → Tot (fun n => ref03_Show.l0 n (m' n) (.slice s2) (.str (txt (ds ++ [y % 10]))) H2) Q := by
        intro H2 s2 q2 c2 r2 hm2 m' hb'
        have hv2 : val 10 (ds ++ [y % 10]) + 10 ^ (ds ++ [y % 10]).length * (y / 10) = x := by
          rw [val_snoc, List.length_append, List.length_singleton, Nat.pow_succ]
          have := carry 10 (10 ^ ds.length) y 0
          simp only [Nat.mul_zero, Nat.add_zero] at this
          omega
        have hL2 : Lim 10 (ds ++ [y % 10]) := Lim.app.2 ⟨hLd, Lim.one.2 (Nat.mod_lt _ (by decide))⟩
        by_cases h10 : y / 10 = 0
        · rw [h10] at r2
          refine don H2 s2 _ c2 r2 (by simp) ?_ _ hb'
          rw [h10, Nat.mul_zero, Nat.add_zero] at hv2
          by_cases hy0 : y = 0
          · have hde : ds = [] := hyd.resolve_left (fun h => h hy0)
            subst hde hy0
            simp [val] at hv2
            subst hv2
            decide
          · have hx0 : x ≠ 0 := by
              intro e
              rw [e, val_snoc] at hv2
              have h1 : 10 ^ ds.length * (y % 10) = 0 := by omega
              rcases Nat.mul_eq_zero.1 h1 with h2 | h2
              · have := Nat.pow_pos (n := ds.length) (show 0 < 10 by decide); omega
              · omega
            have hT : Trimmed (ds ++ [y % 10]) := trimZ_last (by omega)
            have := dig_of_trimmed (b := 10) (by decide) hL2 hT
            rw [hv2] at this
            rw [dec, if_neg hx0, this]; rfl
        · refine ih (y / 10) (by omega) H2 s2 q2 _ c2 r2 hm2 (Nat.lt_of_le_of_lt (rsz_mono (by omega)) hys) ?_ hL2 hv2 (.inl h10) _ hb'
          rw [dig_pos (by decide) (by omega)] at hds
          simp at hds ⊢; omega
      have go := step y H' sl q ds c rl hmu hys (by omega) next _ hb'
      by_cases hy0 : y = 0
      · have hde : ds = [] := hyd.resolve_left (fun h => h hy0)
        subst hde hy0
        have hl := rl.lenSl
        rw [dig_zero] at hl go
        have he : arA .eql (.str (txt [])) (.str []) = some (.bool true) := by simp [arA, strA, txt, lets]
        repeat (first | refine Tot.pure (by simp (disch := first | omega | (simp only [npz, nsz, nmz] <;> omega) | fail) [lhz, lgz, sgz, boxA, gz, gs, Heap.gqz, Heap.gpz, Heap.gtz, Heap.gsz, gmz, npz, nsz, nmz, hl, he]; try exact rfl) ?_ | refine Tot.chk (by simp (disch := first | omega | (simp only [npz, nsz, nmz] <;> omega) | fail) [lhz, lgz, sgz, boxA, gz, gs, Heap.gqz, Heap.gpz, Heap.gtz, Heap.gsz, gmz, npz, nsz, nmz, hl, he]; done) ?_ | fail)
        refine Tot.no Bool.false_ne_true ?_
        repeat (first | refine Tot.pure (by simp (disch := first | omega | (simp only [npz, nsz, nmz] <;> omega) | fail) [lhz, lgz, sgz, boxA, gz, gs, Heap.gqz, Heap.gpz, Heap.gtz, Heap.gsz, gmz, npz, nsz, nmz, hl, he]; try exact rfl) ?_ | refine Tot.chk (by simp (disch := first | omega | (simp only [npz, nsz, nmz] <;> omega) | fail) [lhz, lgz, sgz, boxA, gz, gs, Heap.gqz, Heap.gpz, Heap.gtz, Heap.gsz, gmz, npz, nsz, nmz, hl, he]; done) ?_ | fail)
        refine Tot.yes rfl ?_
        repeat (first | refine Tot.pure (by simp (disch := first | omega | (simp only [npz, nsz, nmz] <;> omega) | fail) [lhz, lgz, sgz, boxA, gz, gs, Heap.gqz, Heap.gpz, Heap.gtz, Heap.gsz, gmz, npz, nsz, nmz, hl]; try exact rfl) ?_ | refine Tot.chk (by simp (disch := first | omega | (simp only [npz, nsz, nmz] <;> omega) | fail) [lhz, lgz, sgz, boxA, gz, gs, Heap.gqz, Heap.gpz, Heap.gtz, Heap.gsz, gmz, npz, nsz, nmz, hl]; done) ?_ | fail)
        exact go
      · have hl := rlen_pos.2 hy0
        repeat (first | refine Tot.pure (by simp (disch := first | omega | (simp only [npz, nsz, nmz] <;> omega) | fail) [lhz, lgz, sgz, boxA, gz, gs, Heap.gqz, Heap.gpz, Heap.gtz, Heap.gsz, gmz, npz, nsz, nmz, rl.lenSl]; try exact rfl) ?_ | refine Tot.chk (by simp (disch := first | omega | (simp only [npz, nsz, nmz] <;> omega) | fail) [lhz, lgz, sgz, boxA, gz, gs, Heap.gqz, Heap.gpz, Heap.gtz, Heap.gsz, gmz, npz, nsz, nmz, rl.lenSl]; done) ?_ | fail)
        refine Tot.yes (by simpa using hl) ?_
        repeat (first | refine Tot.pure (by simp (disch := first | omega | (simp only [npz, nsz, nmz] <;> omega) | fail) [lhz, lgz, sgz, boxA, gz, gs, Heap.gqz, Heap.gpz, Heap.gtz, Heap.gsz, gmz, npz, nsz, nmz, rl.lenSl]; try exact rfl) ?_ | refine Tot.chk (by simp (disch := first | omega | (simp only [npz, nsz, nmz] <;> omega) | fail) [lhz, lgz, sgz, boxA, gz, gs, Heap.gqz, Heap.gpz, Heap.gtz, Heap.gsz, gmz, npz, nsz, nmz, rl.lenSl]; done) ?_ | fail)
        exact go
  refine lp0 x H1 s1 [] [] cH1 a2.row (fun hx0 => ?_) hm ?_ Lim.nil (by simp [val]) (.inr rfl) _ Big.id
  · obtain ⟨b, m1, _⟩ := a2.mut (by intro e; exact hx0 ((dig_eq_nil (by decide)).1 e))
    exact ⟨b, m1, f1 b (m1.has.2 rfl)⟩
  · have : (dig 10 x).length ≤ 5 * (dig 65536 x).length := by
      apply dig_len_le (by decide)
      have h1 := dig_len_lt (b := 65536) (x := x) (by decide)
      have h2 : 65536 ^ (dig 65536 x).length ≤ (10 ^ 5) ^ (dig 65536 x).length := Nat.pow_le_pow_left (by decide) _
      rw [← Nat.pow_mul] at h2
      omega
    simp; omega
end Go.AM
end
section
set_option linter.unusedVariables false
set_option linter.unusedSimpArgs false
set_option linter.unusedSimpArgs false
set_option linter.unusedVariables false
namespace Go.AM
attribute [local congr] bnd_weak ite_weak
structure KeepP (P : Nat → Prop) (H H' : Heap) : Prop where
  n : H.n ≤ H'.n
  get : ∀ i, P i → i < H.n → H'.get i = H.get i
theorem KeepP.refl {P : Nat → Prop} {H : Heap} : KeepP P H H := ⟨Nat.le_refl _, fun _ _ _ => rfl⟩
theorem KeepP.call {P : Nat → Prop} {H H' H'' : Heap} (h : KeepP P H H') (c : Ext0 H' H'') : KeepP P H H'' :=
  ⟨Nat.le_trans h.n c.n, fun i h1 h2 => (c.get i (Nat.lt_of_lt_of_le h2 h.n) fun f => f).trans (h.get i h1 h2)⟩
theorem KeepP.push {P : Nat → Prop} {H H' : Heap} {o : O} (h : KeepP P H H') : KeepP P H (H'.push o) := h.call Ch.push
theorem KeepP.more {P : Nat → Prop} {m : Nat} {H H' : Heap} (h : KeepP P H H') : KeepP P H (H'.more m) := h.call Ch.more
theorem KeepP.set {P : Nat → Prop} {j : Nat} {H H' : Heap} {o : O} (h : KeepP P H H') (hj : ¬ P j ∨ H.n ≤ j) : KeepP P H (H'.set j o) :=
  ⟨by simpa using h.n, fun i h1 h2 => by
    rw [Heap.gtz (fun e => by subst e; rcases hj with hj | hj; exact hj h1; omega)]; exact h.get i h1 h2⟩
def isJ (H : Heap) (P : Nat → Prop) (v : V) (z : Int) : Prop := ∃ s, v = .agg [.int .i64 z.sign, .slice s] ∧ Row H .i64 s (dig 65536 z.natAbs) ∧ ∀ i, s.has i → P i
theorem isJ.keep {H H' : Heap} {P : Nat → Prop} {v : V} {z : Int} (h : isJ H P v z) (c : KeepP P H H') : isJ H' P v z := by
  obtain ⟨s, rfl, r, f⟩ := h
  refine ⟨s, rfl, ⟨r.len, fun b o hs => ⟨Nat.lt_of_lt_of_le (r.low b o hs).1 c.n, (r.low b o hs).2⟩, fun hl => ?_⟩, f⟩
  obtain ⟨b, o, cs, e', ro, h1, h2, h3, h4⟩ := r.mem hl
  exact ⟨b, o, cs, e', ro, h1, by rw [c.get b (f b ⟨o, h1⟩) (r.low b o h1).1]; exact h2, h3, h4⟩
theorem isJ.mono {H : Heap} {P P' : Nat → Prop} {v : V} {z : Int} (h : isJ H P v z) (c : ∀ i, i < H.n → P i → P' i) : isJ H P' v z := by
  obtain ⟨s, rfl, r, f⟩ := h; exact ⟨s, rfl, r, fun i hi => c i (r.lt hi) (f i hi)⟩
theorem isJ.shape {H : Heap} {P : Nat → Prop} {v : V} {z : Int} (h : isJ H P v z) : ∃ σ s, v = .agg [.int .i64 σ, .slice s] ∧ σ = z.sign ∧ Row H .i64 s (dig 65536 z.natAbs) ∧ ∀ i, s.has i → P i := by
  obtain ⟨s, rfl, r, f⟩ := h; exact ⟨_, s, rfl, rfl, r, f⟩
abbrev UpP (H : Heap) (P : Nat → Prop) : Prop := ∀ i, H.n ≤ i → P i
theorem r4_make1 {H : Heap} {P : Nat → Prop} {σ : Int} {s : Sl} {x : Nat} (r : Row H .i64 s (dig 65536 x)) (f : ∀ i, s.has i → P i) (h1 : -1 ≤ σ ∧ σ ≤ 1) (h0 : σ = 0 → x = 0) :
    Tot (fun n => f_ref04_make1 n [.int .i64 σ, .slice s] H) fun v H' => Ext0 H H' ∧ isJ H' P v (σ * x) := by
  refine Tot.of fun Q hQ => ?_
  refine ref04_make1_tot ?_
  simp only [ref04_make1_b]
  repeat (first | refine Tot.pure (by simp (disch := first | omega | (simp only [npz, nsz, nmz] <;> omega) | fail) [lhz, lgz, sgz, boxA, gz, gs, Heap.gqz, Heap.gpz, Heap.gtz, Heap.gsz, gmz, npz, nsz, nmz, r.lenSl]; try exact rfl) ?_ | refine Tot.chk (by simp (disch := first | omega | (simp only [npz, nsz, nmz] <;> omega) | fail) [lhz, lgz, sgz, boxA, gz, gs, Heap.gqz, Heap.gpz, Heap.gtz, Heap.gsz, gmz, npz, nsz, nmz, r.lenSl]; done) ?_ | fail)
  refine Tot.ite (fun h2 => ?_) (fun h2 => ?_)
  · have hx : x = 0 := by
      rw [← dig_eq_nil (b := 65536) (by decide)]
      exact List.eq_nil_of_length_eq_zero (by simpa using h2)
    subst hx
    repeat (first | refine Tot.autoP ?_ | refine Tot.autoC ?_ | fail)
    refine Tot.ret (hQ _ _ ⟨Keep.ext (Keep.auto), ⟨none, 0, 0, false⟩, by simp, by simp [dig_zero]; exact Row.nil, fun i hi => (has_none.1 hi).elim⟩)
  · have hx : x ≠ 0 := by
      intro e; apply h2; rw [e, dig_zero]; simp
    have hσ : σ ≠ 0 := fun e => hx (h0 e)
    repeat (first | refine Tot.autoP ?_ | refine Tot.autoC ?_ | fail)
    refine Tot.ret (hQ _ _ ⟨Keep.ext (Keep.auto), s, ?_, ?_, f⟩)
    · have : (σ * (x : Int)).sign = σ := by
        rw [Int.sign_mul, Int.sign_eq_one_of_pos (show (0 : Int) < x by omega), Int.mul_one]
        rcases (by omega : σ = -1 ∨ σ = 1) with rfl | rfl <;> rfl
      rw [this]
    · have : (σ * (x : Int)).natAbs = x := by
        rw [Int.natAbs_mul, Int.natAbs_natCast]
        rcases (by omega : σ = -1 ∨ σ = 1) with rfl | rfl <;> simp
      rw [this]; exact r.ext (Keep.ext (Keep.auto))
theorem r4_neg {H : Heap} {P : Nat → Prop} {v : V} {z : Int} (h : isJ H P v z) :
    Tot (fun n => f_ref04_Neg n [v] H) fun v H' => Ext0 H H' ∧ isJ H' P v (-z) := by
  obtain ⟨σ, s, rfl, hσ, r, f⟩ := h.shape
  have hs : -1 ≤ σ ∧ σ ≤ 1 := by
    rw [hσ]; rcases Int.lt_trichotomy z 0 with h | h | h
    · rw [Int.sign_eq_neg_one_of_neg h]; omega
    · rw [h]; decide
    · rw [Int.sign_eq_one_of_pos h]; omega
  refine Tot.of fun Q hQ => ?_
  refine ref04_Neg_tot ?_
  simp only [ref04_Neg_b]
  repeat (first | refine Tot.autoP ?_ | refine Tot.autoC ?_ | fail)
  refine Tot.ret (hQ _ _ ⟨Keep.ext (Keep.auto), s, ?_, ?_, f⟩)
  · rw [Int.sign_neg, hσ]
  · rw [Int.natAbs_neg]; exact r.ext (Keep.ext (Keep.auto))
theorem r4_mul {H : Heap} {P : Nat → Prop} {v w : V} {x y : Int} (hP : UpP H P) (h : isJ H P v x) (h' : isJ H P w y) (hm : (dig 65536 x.natAbs).length + (dig 65536 y.natAbs).length < 1000000000) :
    Tot (fun n => f_ref04_Mul n [v, w] H) fun v H' => Ext0 H H' ∧ isJ H' P v (x * y) := by
  obtain ⟨σ, s, rfl, hσ, r, f⟩ := h.shape
  obtain ⟨τ, t, rfl, hτ, r', f'⟩ := h'.shape
  have hsr : ∀ z : Int, -1 ≤ z.sign ∧ z.sign ≤ 1 := by
    intro z; rcases Int.lt_trichotomy z 0 with h | h | h
    · rw [Int.sign_eq_neg_one_of_neg h]; omega
    · rw [h]; decide
    · rw [Int.sign_eq_one_of_pos h]; omega
  have h1 := hsr x
  have h2 := hsr y
  rw [← hσ] at h1
  rw [← hτ] at h2
  have hp : -1 ≤ σ * τ ∧ σ * τ ≤ 1 := by
    rw [hσ, hτ, ← Int.sign_mul]; exact hsr _
  refine Tot.of fun Q hQ => ?_
  refine ref04_Mul_tot ?_
  simp only [ref04_Mul_b]
  repeat (first | refine Tot.autoP ?_ | refine Tot.autoC ?_ | fail)
  refine Tot.bind (r_mul (r.ext (Keep.ext (Keep.auto))) (r'.ext (Keep.ext (Keep.auto))) hm (rdL _) (rdL _)) ?_
  rintro v H1 ⟨c1, s1, rfl, r1, f1⟩
  have n1 := c1.n; try simp only [npz, nsz, nmz] at n1
  rw [rdV, rdV] at r1
  dsimp only
  obtain ⟨p, hpe⟩ : ∃ p, p = σ * τ := ⟨_, rfl⟩
  rw [← hpe] at hp
  repeat (first | refine Tot.pure (by simp (disch := first | omega | (simp only [npz, nsz, nmz] <;> omega) | fail) [lhz, lgz, sgz, boxA, gz, gs, Heap.gqz, Heap.gpz, Heap.gtz, Heap.gsz, gmz, npz, nsz, nmz, c1.g, ← hpe]; try exact rfl) ?_ | refine Tot.chk (by simp (disch := first | omega | (simp only [npz, nsz, nmz] <;> omega) | fail) [lhz, lgz, sgz, boxA, gz, gs, Heap.gqz, Heap.gpz, Heap.gtz, Heap.gsz, gmz, npz, nsz, nmz, c1.g, ← hpe]; done) ?_ | fail)
  refine Tot.bind (r4_make1 (P := fun i => P i ∧ i ≠ H.n + 1 + 1) r1 (fun i hi => ⟨hP i (by have := f1 i hi; simp at this; omega), by have := f1 i hi; simp at this; omega⟩) hp ?_) ?_
  · intro e
    rw [hpe, hσ, hτ, ← Int.sign_mul] at e
    have := Int.sign_eq_zero_iff_zero.1 e
    rw [← Int.natAbs_mul, this]; rfl
  rintro v H2 ⟨c2, i2⟩
  have n2 := c2.n; try simp only [npz, nsz, nmz] at n2
  obtain ⟨b2, s2, rfl, -⟩ := i2.shape
  have e : p * ((x.natAbs * y.natAbs : Nat) : Int) = x * y := by
    rw [hpe, hσ, hτ, ← Int.sign_mul, ← Int.natAbs_mul]; exact Int.sign_mul_natAbs _
  rw [e] at i2
  dsimp only
  repeat (first | refine Tot.pure (by simp (disch := first | omega | (simp only [npz, nsz, nmz] <;> omega) | fail) [lhz, lgz, sgz, boxA, gz, gs, Heap.gqz, Heap.gpz, Heap.gtz, Heap.gsz, gmz, npz, nsz, nmz, c1.g, c2.g]; try exact rfl) ?_ | refine Tot.chk (by simp (disch := first | omega | (simp only [npz, nsz, nmz] <;> omega) | fail) [lhz, lgz, sgz, boxA, gz, gs, Heap.gqz, Heap.gpz, Heap.gtz, Heap.gsz, gmz, npz, nsz, nmz, c1.g, c2.g]; done) ?_ | fail)
  exact Tot.ret (hQ _ _ ⟨Keep.ext (Keep.auto), (i2.keep (by (repeat (first | exact KeepP.refl | refine KeepP.call ?_ (by assumption) | refine KeepP.push ?_ | refine KeepP.more ?_ | refine KeepP.set ?_ (by first | (right; first | omega | (simp only [npz, nsz, nmz] <;> omega) | fail) | (left; simp; done) | fail))))).mono fun i _ hi => hi.1⟩)
end Go.AM
end
section
set_option linter.unusedVariables false
set_option linter.unusedSimpArgs false
set_option linter.unusedSimpArgs false
set_option linter.unusedVariables false
namespace Go.AM
attribute [local congr] bnd_weak ite_weak
theorem isJ.zero {H : Heap} {P : Nat → Prop} : isJ H P (.agg [.int .i64 0, .slice ⟨none, 0, 0, false⟩]) 0 :=
  ⟨⟨none, 0, 0, false⟩, rfl, by rw [Int.natAbs_zero, dig_zero]; exact Row.nil, fun i hi => (has_none.1 hi).elim⟩
theorem r4_of {H : Heap} {P : Nat → Prop} {b : Bool} {s : Sl} {l : List Nat} (hP : UpP H P) (r : Row H .u32 s l) (hm : l.length < 500000000) (hL : Lim 4294967296 l) :
    Tot (fun n => f_ref04_Of n [.agg [.bool b, .slice s]] H) fun v H' => Ext0 H H' ∧ isJ H' P v (sgn b (val 4294967296 l)) := by
  refine Tot.of fun Q hQ => ?_
  refine ref04_Of_tot ?_
  simp only [ref04_Of_b]
  repeat (first | refine Tot.autoP ?_ | refine Tot.autoC ?_ | fail)
  refine Tot.bind (r_of (r.keep Fr.zero (Keep.auto)) hm hL) ?_
  rintro v H1 ⟨c1, s1, rfl, r1, f1⟩
  have n1 := c1.n; try simp only [npz, nsz, nmz] at n1
  dsimp only
  repeat (first | refine Tot.pure (by simp (disch := first | omega | (simp only [npz, nsz, nmz] <;> omega) | fail) [lhz, lgz, sgz, boxA, gz, gs, Heap.gqz, Heap.gpz, Heap.gtz, Heap.gsz, gmz, npz, nsz, nmz, c1.g, r1.lenSl]; try exact rfl) ?_ | refine Tot.chk (by simp (disch := first | omega | (simp only [npz, nsz, nmz] <;> omega) | fail) [lhz, lgz, sgz, boxA, gz, gs, Heap.gqz, Heap.gpz, Heap.gtz, Heap.gsz, gmz, npz, nsz, nmz, c1.g, r1.lenSl]; done) ?_ | fail)
  obtain ⟨x, hx⟩ : ∃ x, x = val 4294967296 l := ⟨_, rfl⟩
  rw [← hx] at r1 hQ
  refine Tot.ite (fun h2 => ?_) (fun h2 => ?_)
  · have hx0 : x = 0 := by
      rw [← dig_eq_nil (b := 65536) (by decide)]
      exact List.eq_nil_of_length_eq_zero (by rw [hx]; simpa using h2)
    repeat (first | refine Tot.pure (by simp (disch := first | omega | (simp only [npz, nsz, nmz] <;> omega) | fail) [lhz, lgz, sgz, boxA, gz, gs, Heap.gqz, Heap.gpz, Heap.gtz, Heap.gsz, gmz, npz, nsz, nmz, c1.g]; try exact rfl) ?_ | refine Tot.chk (by simp (disch := first | omega | (simp only [npz, nsz, nmz] <;> omega) | fail) [lhz, lgz, sgz, boxA, gz, gs, Heap.gqz, Heap.gpz, Heap.gtz, Heap.gsz, gmz, npz, nsz, nmz, c1.g]; done) ?_ | fail)
    refine Tot.ret (hQ _ _ ⟨Keep.ext (Keep.auto), ?_⟩)
    rw [hx0, show sgn b 0 = 0 by cases b <;> rfl]
    exact isJ.zero
  · have hx0 : x ≠ 0 := by
      intro e; apply h2; rw [← hx, e, dig_zero]; simp
    have r2 := fun (σ : Int) (s2 : Sl) => r1.keep (lo := H.n + 2) (s := s1) (H' := H1.set (H.n + 1) (.cells [.int .i64 σ, .slice s2] ty_ref04_Int false)) (fun i hi => by have := f1 i hi; simpa using this) (Keep.auto)
    repeat (first | refine Tot.pure (by simp (disch := first | omega | (simp only [npz, nsz, nmz] <;> omega) | fail) [lhz, lgz, sgz, boxA, gz, gs, Heap.gqz, Heap.gpz, Heap.gtz, Heap.gsz, gmz, npz, nsz, nmz, c1.g]; try exact rfl) ?_ | refine Tot.chk (by simp (disch := first | omega | (simp only [npz, nsz, nmz] <;> omega) | fail) [lhz, lgz, sgz, boxA, gz, gs, Heap.gqz, Heap.gpz, Heap.gtz, Heap.gsz, gmz, npz, nsz, nmz, c1.g]; done) ?_ | fail)
    refine Tot.ite (fun hb => ?_) (fun hb => ?_)
    · repeat (first | refine Tot.pure (by simp (disch := first | omega | (simp only [npz, nsz, nmz] <;> omega) | fail) [lhz, lgz, sgz, boxA, gz, gs, Heap.gqz, Heap.gpz, Heap.gtz, Heap.gsz, gmz, npz, nsz, nmz, c1.g]; try exact rfl) ?_ | refine Tot.chk (by simp (disch := first | omega | (simp only [npz, nsz, nmz] <;> omega) | fail) [lhz, lgz, sgz, boxA, gz, gs, Heap.gqz, Heap.gpz, Heap.gtz, Heap.gsz, gmz, npz, nsz, nmz, c1.g]; done) ?_ | fail)
      refine Tot.ret (hQ _ _ ⟨Keep.ext (Keep.auto), s1, ?_, ?_, fun i hi => hP i (by have := f1 i hi; simp at this; omega)⟩)
      · rw [hb, sgn, if_pos rfl, Int.sign_neg, Int.sign_eq_one_of_pos (by omega)]
      · rw [sgn_abs]; exact r2 _ _
    · repeat (first | refine Tot.pure (by simp (disch := first | omega | (simp only [npz, nsz, nmz] <;> omega) | fail) [lhz, lgz, sgz, boxA, gz, gs, Heap.gqz, Heap.gpz, Heap.gtz, Heap.gsz, gmz, npz, nsz, nmz, c1.g]; try exact rfl) ?_ | refine Tot.chk (by simp (disch := first | omega | (simp only [npz, nsz, nmz] <;> omega) | fail) [lhz, lgz, sgz, boxA, gz, gs, Heap.gqz, Heap.gpz, Heap.gtz, Heap.gsz, gmz, npz, nsz, nmz, c1.g]; done) ?_ | fail)
      refine Tot.ret (hQ _ _ ⟨Keep.ext (Keep.auto), s1, ?_, ?_, fun i hi => hP i (by have := f1 i hi; simp at this; omega)⟩)
      · rw [sgn, if_neg hb, Int.sign_eq_one_of_pos (by omega)]
      · rw [sgn_abs]; exact r2 _ _
theorem r4_long {H : Heap} {P : Nat → Prop} {z : Int} (hP : UpP H P) (hz : -9223372036854775808 ≤ z ∧ z ≤ 9223372036854775807) :
    Tot (fun n => f_ref04_Long n [.int .i64 z] H) fun v H' => Ext0 H H' ∧ isJ H' P v z := by
  refine Tot.of fun Q hQ => ?_
  refine ref04_Long_tot ?_
  simp only [ref04_Long_b]
  repeat (first | refine Tot.autoP ?_ | refine Tot.autoC ?_ | fail)
  refine Tot.ite (fun h2 => ?_) (fun h2 => ?_)
  · have h2' := of_decide_eq_true h2
    subst h2'
    repeat (first | refine Tot.autoP ?_ | refine Tot.autoC ?_ | fail)
    exact Tot.ret (hQ _ _ ⟨Keep.ext (Keep.auto), isJ.zero⟩)
  · have h2' : z ≠ 0 := by simpa using h2
    have p0 : ∀ (σ w : Int), w = (z.natAbs : Int) → σ = z.sign → Tot (fun n => ref04_Long.p0 n (.ptr (some (H.n, 0))) (.int .i64 σ) (.int .u64 w) (H.push (.cells [.int .i64 0, .slice ⟨none, 0, 0, false⟩] ty_ref04_Int false))) Q := by
      intro σ w hw hσ
      obtain ⟨x, hx⟩ : ∃ x, x = z.natAbs := ⟨_, rfl⟩
      rw [← hx] at hw
      subst hw
      refine ref04_Long.p0_tot ?_
      simp only [ref04_Long.p0_b]
      have hxm : x < 18446744073709551616 := by omega
      have hb : bSl 1 ty_uint32 [.int .u32 0] 2 [(0, .int .u32 (IntKind.u32.wrap x)), (1, .int .u32 ((x : Int) / 4294967296))] = some (.cells (nums .u32 [x % 4294967296, x / 4294967296]) ty_uint32 false) := by
        simp [bSl, rowA, fillA, V.one, V.cells, lset, wrap_u32m]
      have e1 : IntKind.u32.wrap ((x : Int) / 4294967296) = (x : Int) / 4294967296 := wrap_u32 (by omega)
      refine Tot.pure (a := .int .u32 (IntKind.u32.wrap x)) rfl ?_
      refine Tot.pure (by simp (disch := first | omega | (simp only [npz, nsz, nmz] <;> omega) | fail) [lhz, lgz, sgz, boxA, gz, gs, Heap.gqz, Heap.gpz, Heap.gtz, Heap.gsz, gmz, npz, nsz, nmz, ]; try exact rfl) ?_
      refine Tot.pure (a := .int .u32 ((x : Int) / 4294967296)) (by rw [cv_int, e1]) ?_
      refine Tot.pure hb ?_
      have hL : Lim 4294967296 [x % 4294967296, x / 4294967296] := by
        intro y hy; simp at hy; rcases hy with rfl | rfl <;> omega
      refine Tot.bind (r_of (Own.new (l := [x % 4294967296, x / 4294967296])).row (by simp) hL) ?_
      rintro v H1 ⟨c1, s1, rfl, r1, f1⟩
      have n1 := c1.n; try simp only [npz, nsz, nmz] at n1
      rw [dig_two] at r1
      dsimp only
      repeat (first | refine Tot.pure (by simp (disch := first | omega | (simp only [npz, nsz, nmz] <;> omega) | fail) [lhz, lgz, sgz, boxA, gz, gs, Heap.gqz, Heap.gpz, Heap.gtz, Heap.gsz, gmz, npz, nsz, nmz, c1.g]; try exact rfl) ?_ | refine Tot.chk (by simp (disch := first | omega | (simp only [npz, nsz, nmz] <;> omega) | fail) [lhz, lgz, sgz, boxA, gz, gs, Heap.gqz, Heap.gpz, Heap.gtz, Heap.gsz, gmz, npz, nsz, nmz, c1.g]; done) ?_ | fail)
      refine Tot.ret (hQ _ _ ⟨Keep.ext (Keep.auto), s1, by rw [hσ], ?_, fun i hi => hP i (by have := f1 i hi; simp at this; omega)⟩)
      rw [← hx]
      exact r1.keep f1 (Keep.auto)
    repeat (first | refine Tot.autoP ?_ | refine Tot.autoC ?_ | fail)
    refine Tot.ite (fun h3 => ?_) (fun h3 => ?_)
    · have h3' := of_decide_eq_true h3
      repeat (first | refine Tot.autoP ?_ | refine Tot.autoC ?_ | fail)
      exact p0 _ _ (by simp only [wrap_u64m]; omega) (by rw [Int.sign_eq_neg_one_of_neg h3'])
    · have h3' : ¬ z < 0 := by simpa using h3
      exact p0 _ _ (by simp only [wrap_u64m]; omega) (by rw [Int.sign_eq_one_of_pos (by omega)])
theorem sign_cases (z : Int) : (z.sign = -1 ∧ z < 0) ∨ (z.sign = 0 ∧ z = 0) ∨ (z.sign = 1 ∧ 0 < z) := by
  rcases Int.lt_trichotomy z 0 with h | h | h
  · exact .inl ⟨Int.sign_eq_neg_one_of_neg h, h⟩
  · subst h; exact .inr (.inl ⟨rfl, rfl⟩)
  · exact .inr (.inr ⟨Int.sign_eq_one_of_pos h, h⟩)
set_option maxHeartbeats 1000000 in
theorem r4_add {H : Heap} {P : Nat → Prop} {v w : V} {x y : Int} (hP : UpP H P) (h : isJ H P v x) (h' : isJ H P w y) (hm : (dig 65536 x.natAbs).length < 400000000) (hm' : (dig 65536 y.natAbs).length < 400000000) :
    Tot (fun n => f_ref04_Add n [v, w] H) fun v H' => Ext0 H H' ∧ isJ H' P v (x + y) := by
  obtain ⟨σ, s, rfl, hσ, r, f⟩ := h.shape
  obtain ⟨τ, t, rfl, hτ, r', f'⟩ := h'.shape
  have sx := sign_cases x
  have sy := sign_cases y
  rw [← hσ] at sx
  rw [← hτ] at sy
  refine Tot.of fun Q hQ => ?_
  refine ref04_Add_tot ?_
  simp only [ref04_Add_b]
  repeat (first | refine Tot.autoP ?_ | refine Tot.autoC ?_ | fail)
  refine Tot.ite (fun h0 => ?_) (fun h0 => ?_)
  · have h0' := of_decide_eq_true h0
    have hx : x = 0 := by omega
    repeat (first | refine Tot.autoP ?_ | refine Tot.autoC ?_ | fail)
    refine Tot.ret (hQ _ _ ⟨Keep.ext (Keep.auto), ?_⟩)
    rw [hx, Int.zero_add]
    exact h'.keep (by (repeat (first | exact KeepP.refl | refine KeepP.call ?_ (by assumption) | refine KeepP.push ?_ | refine KeepP.more ?_ | refine KeepP.set ?_ (by first | (right; first | omega | (simp only [npz, nsz, nmz] <;> omega) | fail) | (left; simp; done) | fail))))
  have h0' : σ ≠ 0 := by simpa using h0
  repeat (first | refine Tot.autoP ?_ | refine Tot.autoC ?_ | fail)
  refine Tot.ite (fun h1 => ?_) (fun h1 => ?_)
  · have h1' := of_decide_eq_true h1
    have hy : y = 0 := by omega
    repeat (first | refine Tot.autoP ?_ | refine Tot.autoC ?_ | fail)
    refine Tot.ret (hQ _ _ ⟨Keep.ext (Keep.auto), ?_⟩)
    rw [hy, Int.add_zero]
    exact h.keep (by (repeat (first | exact KeepP.refl | refine KeepP.call ?_ (by assumption) | refine KeepP.push ?_ | refine KeepP.more ?_ | refine KeepP.set ?_ (by first | (right; first | omega | (simp only [npz, nsz, nmz] <;> omega) | fail) | (left; simp; done) | fail))))
  have h1' : τ ≠ 0 := by simpa using h1
  repeat (first | refine Tot.autoP ?_ | refine Tot.autoC ?_ | fail)
  refine Tot.ite (fun h2 => ?_) (fun h2 => ?_)
  · have h2' := of_decide_eq_true h2
    repeat (first | refine Tot.autoP ?_ | refine Tot.autoC ?_ | fail)
    refine Tot.bind (r_add (r.keep Fr.zero (Keep.auto)) (r'.keep Fr.zero (Keep.auto)) (by omega) (by omega) (rdL _) (rdL _)) ?_
    rintro v H1 ⟨c1, s1, rfl, r1, f1⟩
    have n1 := c1.n; try simp only [npz, nsz, nmz] at n1
    rw [rdV, rdV] at r1
    dsimp only
    repeat (first | refine Tot.pure (by simp (disch := first | omega | (simp only [npz, nsz, nmz] <;> omega) | fail) [lhz, lgz, sgz, boxA, gz, gs, Heap.gqz, Heap.gpz, Heap.gtz, Heap.gsz, gmz, npz, nsz, nmz, c1.g]; try exact rfl) ?_ | refine Tot.chk (by simp (disch := first | omega | (simp only [npz, nsz, nmz] <;> omega) | fail) [lhz, lgz, sgz, boxA, gz, gs, Heap.gqz, Heap.gpz, Heap.gtz, Heap.gsz, gmz, npz, nsz, nmz, c1.g]; done) ?_ | fail)
    refine Tot.ret (hQ _ _ ⟨Keep.ext (Keep.auto), s1, ?_, ?_, fun i hi => hP i (by have := f1 i hi; simp at this; omega)⟩)
    · have : (x + y).sign = σ := by
        have sz := sign_cases (x + y)
        omega
      rw [this]
    · have : (x + y).natAbs = x.natAbs + y.natAbs := by omega
      rw [this]; exact r1.keep f1 (Keep.auto)
  have h2' : σ ≠ τ := by simpa using h2
  repeat (first | refine Tot.autoP ?_ | refine Tot.autoC ?_ | fail)
  refine Tot.bind (r_cmp (r.keep Fr.zero (Keep.auto)) (r'.keep Fr.zero (Keep.auto)) (by omega) (by omega)) ?_
  rintro v H1 ⟨rfl, rfl⟩
  dsimp only
  repeat (first | refine Tot.autoP ?_ | refine Tot.autoC ?_ | fail)
  by_cases hlt : x.natAbs < y.natAbs
  · have hc : ¬ cmpN x.natAbs y.natAbs ≥ 0 := by rw [cmpN, if_pos hlt]; decide
    refine Tot.no (by simpa using hc) ?_
    repeat (first | refine Tot.autoP ?_ | refine Tot.autoC ?_ | fail)
    refine Tot.bind (r_sub (r'.keep Fr.zero (Keep.auto)) (r.keep Fr.zero (Keep.auto)) (by omega) (rsz_mono (by omega)) (rdL _) (rdL _) (by rw [rdV, rdV]; omega)) ?_
    rintro v H1 ⟨c1, s1, rfl, r1, f1⟩
    have n1 := c1.n; try simp only [npz, nsz, nmz] at n1
    rw [rdV, rdV] at r1
    dsimp only
    repeat (first | refine Tot.pure (by simp (disch := first | omega | (simp only [npz, nsz, nmz] <;> omega) | fail) [lhz, lgz, sgz, boxA, gz, gs, Heap.gqz, Heap.gpz, Heap.gtz, Heap.gsz, gmz, npz, nsz, nmz, c1.g]; try exact rfl) ?_ | refine Tot.chk (by simp (disch := first | omega | (simp only [npz, nsz, nmz] <;> omega) | fail) [lhz, lgz, sgz, boxA, gz, gs, Heap.gqz, Heap.gpz, Heap.gtz, Heap.gsz, gmz, npz, nsz, nmz, c1.g]; done) ?_ | fail)
    refine Tot.bind (r4_make1 (P := fun i => P i ∧ i ≠ H.n + 1 + 1) r1 (fun i hi => ⟨hP i (by have := f1 i hi; simp at this; omega), by have := f1 i hi; simp at this; omega⟩) (by omega) (by omega)) ?_
    rintro v H2 ⟨c2, i2⟩
    have n2 := c2.n; try simp only [npz, nsz, nmz] at n2
    obtain ⟨b2, s2, rfl, -⟩ := i2.shape
    have e : τ * ((y.natAbs - x.natAbs : Nat) : Int) = x + y := by
      rcases sy with ⟨e1, e2⟩ | ⟨e1, e2⟩ | ⟨e1, e2⟩
      · rw [e1]; omega
      · omega
      · rw [e1]; omega
    rw [e] at i2
    dsimp only
    repeat (first | refine Tot.pure (by simp (disch := first | omega | (simp only [npz, nsz, nmz] <;> omega) | fail) [lhz, lgz, sgz, boxA, gz, gs, Heap.gqz, Heap.gpz, Heap.gtz, Heap.gsz, gmz, npz, nsz, nmz, c1.g, c2.g]; try exact rfl) ?_ | refine Tot.chk (by simp (disch := first | omega | (simp only [npz, nsz, nmz] <;> omega) | fail) [lhz, lgz, sgz, boxA, gz, gs, Heap.gqz, Heap.gpz, Heap.gtz, Heap.gsz, gmz, npz, nsz, nmz, c1.g, c2.g]; done) ?_ | fail)
    exact Tot.ret (hQ _ _ ⟨Keep.ext (Keep.auto), (i2.keep (by (repeat (first | exact KeepP.refl | refine KeepP.call ?_ (by assumption) | refine KeepP.push ?_ | refine KeepP.more ?_ | refine KeepP.set ?_ (by first | (right; first | omega | (simp only [npz, nsz, nmz] <;> omega) | fail) | (left; simp; done) | fail))))).mono fun i _ hi => hi.1⟩)
  · have hc : cmpN x.natAbs y.natAbs ≥ 0 := by rw [cmpN, if_neg hlt]; split <;> decide
    refine Tot.yes (by simpa using hc) ?_
    repeat (first | refine Tot.autoP ?_ | refine Tot.autoC ?_ | fail)
    refine Tot.bind (r_sub (r.keep Fr.zero (Keep.auto)) (r'.keep Fr.zero (Keep.auto)) (by omega) (rsz_mono (by omega)) (rdL _) (rdL _) (by rw [rdV, rdV]; omega)) ?_
    rintro v H1 ⟨c1, s1, rfl, r1, f1⟩
    have n1 := c1.n; try simp only [npz, nsz, nmz] at n1
    rw [rdV, rdV] at r1
    dsimp only
    repeat (first | refine Tot.pure (by simp (disch := first | omega | (simp only [npz, nsz, nmz] <;> omega) | fail) [lhz, lgz, sgz, boxA, gz, gs, Heap.gqz, Heap.gpz, Heap.gtz, Heap.gsz, gmz, npz, nsz, nmz, c1.g]; try exact rfl) ?_ | refine Tot.chk (by simp (disch := first | omega | (simp only [npz, nsz, nmz] <;> omega) | fail) [lhz, lgz, sgz, boxA, gz, gs, Heap.gqz, Heap.gpz, Heap.gtz, Heap.gsz, gmz, npz, nsz, nmz, c1.g]; done) ?_ | fail)
    refine Tot.bind (r4_make1 (P := fun i => P i ∧ i ≠ H.n + 1 + 1) r1 (fun i hi => ⟨hP i (by have := f1 i hi; simp at this; omega), by have := f1 i hi; simp at this; omega⟩) (by omega) (by omega)) ?_
    rintro v H2 ⟨c2, i2⟩
    have n2 := c2.n; try simp only [npz, nsz, nmz] at n2
    obtain ⟨b2, s2, rfl, -⟩ := i2.shape
    have e : σ * ((x.natAbs - y.natAbs : Nat) : Int) = x + y := by
      rcases sx with ⟨e1, e2⟩ | ⟨e1, e2⟩ | ⟨e1, e2⟩
      · rw [e1]; omega
      · omega
      · rw [e1]; omega
    rw [e] at i2
    dsimp only
    repeat (first | refine Tot.pure (by simp (disch := first | omega | (simp only [npz, nsz, nmz] <;> omega) | fail) [lhz, lgz, sgz, boxA, gz, gs, Heap.gqz, Heap.gpz, Heap.gtz, Heap.gsz, gmz, npz, nsz, nmz, c1.g, c2.g]; try exact rfl) ?_ | refine Tot.chk (by simp (disch := first | omega | (simp only [npz, nsz, nmz] <;> omega) | fail) [lhz, lgz, sgz, boxA, gz, gs, Heap.gqz, Heap.gpz, Heap.gtz, Heap.gsz, gmz, npz, nsz, nmz, c1.g, c2.g]; done) ?_ | fail)
    exact Tot.ret (hQ _ _ ⟨Keep.ext (Keep.auto), (i2.keep (by (repeat (first | exact KeepP.refl | refine KeepP.call ?_ (by assumption) | refine KeepP.push ?_ | refine KeepP.more ?_ | refine KeepP.set ?_ (by first | (right; first | omega | (simp only [npz, nsz, nmz] <;> omega) | fail) | (left; simp; done) | fail))))).mono fun i _ hi => hi.1⟩)
theorem r4_sub {H : Heap} {P : Nat → Prop} {v w : V} {x y : Int} (hP : UpP H P) (h : isJ H P v x) (h' : isJ H P w y) (hm : (dig 65536 x.natAbs).length < 400000000) (hm' : (dig 65536 y.natAbs).length < 400000000) :
    Tot (fun n => f_ref04_Sub n [v, w] H) fun v H' => Ext0 H H' ∧ isJ H' P v (x - y) := by
  obtain ⟨σ, s, rfl, hσ, r, f⟩ := h.shape
  obtain ⟨τ, t, rfl, hτ, r', f'⟩ := h'.shape
  refine Tot.of fun Q hQ => ?_
  refine ref04_Sub_tot ?_
  simp only [ref04_Sub_b]
  repeat (first | refine Tot.autoP ?_ | refine Tot.autoC ?_ | fail)
  have hq : ∀ {v : V} {z : Int}, isJ H P v z → isJ H (fun i => P i ∧ i ≠ H.n + 1 + 1) v z := fun h => h.mono fun i hi hp => ⟨hp, by omega⟩
  refine Tot.bind (r4_neg ((hq h').keep (by (repeat (first | exact KeepP.refl | refine KeepP.call ?_ (by assumption) | refine KeepP.push ?_ | refine KeepP.more ?_ | refine KeepP.set ?_ (by first | (right; first | omega | (simp only [npz, nsz, nmz] <;> omega) | fail) | (left; simp; done) | fail)))))) ?_
  rintro v H1 ⟨c1, i1⟩
  have n1 := c1.n; try simp only [npz, nsz, nmz] at n1
  obtain ⟨b1, s1, rfl, -⟩ := i1.shape
  dsimp only
  repeat (first | refine Tot.pure (by simp (disch := first | omega | (simp only [npz, nsz, nmz] <;> omega) | fail) [lhz, lgz, sgz, boxA, gz, gs, Heap.gqz, Heap.gpz, Heap.gtz, Heap.gsz, gmz, npz, nsz, nmz, c1.g]; try exact rfl) ?_ | refine Tot.chk (by simp (disch := first | omega | (simp only [npz, nsz, nmz] <;> omega) | fail) [lhz, lgz, sgz, boxA, gz, gs, Heap.gqz, Heap.gpz, Heap.gtz, Heap.gsz, gmz, npz, nsz, nmz, c1.g]; done) ?_ | fail)
  refine Tot.bind (r4_add (fun i hi => ⟨hP i (by omega), by omega⟩) ((hq h).keep (by (repeat (first | exact KeepP.refl | refine KeepP.call ?_ (by assumption) | refine KeepP.push ?_ | refine KeepP.more ?_ | refine KeepP.set ?_ (by first | (right; first | omega | (simp only [npz, nsz, nmz] <;> omega) | fail) | (left; simp; done) | fail))))) i1 hm (by rw [Int.natAbs_neg]; exact hm')) ?_
  rintro v H2 ⟨c2, i2⟩
  have n2 := c2.n; try simp only [npz, nsz, nmz] at n2
  obtain ⟨b2, s2, rfl, -⟩ := i2.shape
  rw [← Int.sub_eq_add_neg] at i2
  dsimp only
  repeat (first | refine Tot.pure (by simp (disch := first | omega | (simp only [npz, nsz, nmz] <;> omega) | fail) [lhz, lgz, sgz, boxA, gz, gs, Heap.gqz, Heap.gpz, Heap.gtz, Heap.gsz, gmz, npz, nsz, nmz, c1.g, c2.g]; try exact rfl) ?_ | refine Tot.chk (by simp (disch := first | omega | (simp only [npz, nsz, nmz] <;> omega) | fail) [lhz, lgz, sgz, boxA, gz, gs, Heap.gqz, Heap.gpz, Heap.gtz, Heap.gsz, gmz, npz, nsz, nmz, c1.g, c2.g]; done) ?_ | fail)
  exact Tot.ret (hQ _ _ ⟨Keep.ext (Keep.auto), (i2.keep (by (repeat (first | exact KeepP.refl | refine KeepP.call ?_ (by assumption) | refine KeepP.push ?_ | refine KeepP.more ?_ | refine KeepP.set ?_ (by first | (right; first | omega | (simp only [npz, nsz, nmz] <;> omega) | fail) | (left; simp; done) | fail))))).mono fun i _ hi => hi.1⟩)
end Go.AM
end
section
set_option linter.unusedVariables false
set_option linter.unusedSimpArgs false
set_option linter.unusedSimpArgs false
set_option linter.unusedVariables false
namespace Go.AM
attribute [local congr] bnd_weak ite_weak
def isK (H : Heap) (P : Nat → Prop) (v : V) (n : Int) (d : Nat) : Prop :=
  ∃ σ s τ t, v = .agg [.int .i64 σ, .slice s, .int .i64 τ, .slice t] ∧ isJ H P (.agg [.int .i64 σ, .slice s]) n ∧ isJ H P (.agg [.int .i64 τ, .slice t]) (d : Int) ∧ 0 < d
theorem isK.keep {H H' : Heap} {P : Nat → Prop} {v : V} {n : Int} {d : Nat} (h : isK H P v n d) (c : KeepP P H H') : isK H' P v n d := by
  obtain ⟨σ, s, τ, t, rfl, h1, h2, h3⟩ := h; exact ⟨σ, s, τ, t, rfl, h1.keep c, h2.keep c, h3⟩
theorem isK.mono {H : Heap} {P P' : Nat → Prop} {v : V} {n : Int} {d : Nat} (h : isK H P v n d) (c : ∀ i, i < H.n → P i → P' i) : isK H P' v n d := by
  obtain ⟨σ, s, τ, t, rfl, h1, h2, h3⟩ := h; exact ⟨σ, s, τ, t, rfl, h1.mono c, h2.mono c, h3⟩
theorem r5_long {H : Heap} {P : Nat → Prop} {z : Int} (hP : UpP H P) (hz : -9223372036854775808 ≤ z ∧ z ≤ 9223372036854775807) :
    Tot (fun n => f_ref05_Long n [.int .i64 z] H) fun v H' => Ext0 H H' ∧ isK H' P v z 1 := by
  refine Tot.of fun Q hQ => ?_
  refine ref05_Long_tot ?_
  simp only [ref05_Long_b]
  have hq : ∀ (G : Heap), H.n + 1 ≤ G.n → UpP G (fun i => P i ∧ i ≠ H.n) := fun G hG i hi => ⟨hP i (by omega), by omega⟩
  refine Tot.bind (r4_long (hq _ (by simp)) hz) ?_
  rintro v H1 ⟨c1, i1⟩
  have n1 := c1.n; try simp only [npz, nsz, nmz] at n1
  obtain ⟨b1, s1, rfl, -⟩ := i1.shape
  dsimp only
  refine Tot.bind (r4_long (z := 1) (hq _ (by omega)) (by omega)) ?_
  rintro v H2 ⟨c2, i2⟩
  have n2 := c2.n; try simp only [npz, nsz, nmz] at n2
  obtain ⟨b2, s2, rfl, -⟩ := i2.shape
  dsimp only
  repeat (first | refine Tot.pure (by simp (disch := first | omega | (simp only [npz, nsz, nmz] <;> omega) | fail) [lhz, lgz, sgz, boxA, gz, gs, Heap.gqz, Heap.gpz, Heap.gtz, Heap.gsz, gmz, npz, nsz, nmz, c1.g, c2.g]; try exact rfl) ?_ | refine Tot.chk (by simp (disch := first | omega | (simp only [npz, nsz, nmz] <;> omega) | fail) [lhz, lgz, sgz, boxA, gz, gs, Heap.gqz, Heap.gpz, Heap.gtz, Heap.gsz, gmz, npz, nsz, nmz, c1.g, c2.g]; done) ?_ | fail)
  refine Tot.ret (hQ _ _ ⟨Keep.ext (Keep.auto), b1, s1, b2, s2, rfl, (i1.keep (by (repeat (first | exact KeepP.refl | refine KeepP.call ?_ (by assumption) | refine KeepP.push ?_ | refine KeepP.more ?_ | refine KeepP.set ?_ (by first | (right; first | omega | (simp only [npz, nsz, nmz] <;> omega) | fail) | (left; simp; done) | fail))))).mono fun i _ hi => hi.1, (i2.keep (by (repeat (first | exact KeepP.refl | refine KeepP.call ?_ (by assumption) | refine KeepP.push ?_ | refine KeepP.more ?_ | refine KeepP.set ?_ (by first | (right; first | omega | (simp only [npz, nsz, nmz] <;> omega) | fail) | (left; simp; done) | fail))))).mono fun i _ hi => hi.1, by decide⟩)
theorem r5_of {H : Heap} {P : Nat → Prop} {v : V} {n : Int} {d N : Nat} (hP : UpP H P) (h : rawR H v n d N) (hm : N < 400000000) :
    Tot (fun n => f_ref05_Of n [v] H) fun v H' => Ext0 H H' ∧ isK H' P v (if d = 0 then 0 else n) (if d = 0 then 1 else d) := by
  obtain ⟨b, s, t, l, lt, rfl, r1, r2, hL, hL', hl, hl', rfl, rfl⟩ := h
  refine Tot.of fun Q hQ => ?_
  refine ref05_Of_tot ?_
  simp only [ref05_Of_b]
  have hq : ∀ (G : Heap), H.n + 2 ≤ G.n → UpP G (fun i => P i ∧ i ≠ H.n + 1) := fun G hG i hi => ⟨hP i (by omega), by omega⟩
  repeat (first | refine Tot.autoP ?_ | refine Tot.autoC ?_ | fail)
  refine Tot.bind (r_of (r2.keep Fr.zero (Keep.auto)) (by omega) hL') ?_
  rintro v H1 ⟨c1, s1, rfl, q1, f1⟩
  have n1 := c1.n; try simp only [npz, nsz, nmz] at n1
  dsimp only
  repeat (first | refine Tot.pure (by simp (disch := first | omega | (simp only [npz, nsz, nmz] <;> omega) | fail) [lhz, lgz, sgz, boxA, gz, gs, Heap.gqz, Heap.gpz, Heap.gtz, Heap.gsz, gmz, npz, nsz, nmz, c1.g, q1.lenSl]; try exact rfl) ?_ | refine Tot.chk (by simp (disch := first | omega | (simp only [npz, nsz, nmz] <;> omega) | fail) [lhz, lgz, sgz, boxA, gz, gs, Heap.gqz, Heap.gpz, Heap.gtz, Heap.gsz, gmz, npz, nsz, nmz, c1.g, q1.lenSl]; done) ?_ | fail)
  refine Tot.ite (fun h2 => ?_) (fun h2 => ?_)
  · have hx : val 4294967296 lt = 0 := by
      rw [← dig_eq_nil (b := 65536) (by decide)]
      exact List.eq_nil_of_length_eq_zero (by simpa using h2)
    rw [if_pos hx, if_pos hx] at hQ
    repeat (first | refine Tot.pure (by simp (disch := first | omega | (simp only [npz, nsz, nmz] <;> omega) | fail) [lhz, lgz, sgz, boxA, gz, gs, Heap.gqz, Heap.gpz, Heap.gtz, Heap.gsz, gmz, npz, nsz, nmz, c1.g]; try exact rfl) ?_ | refine Tot.chk (by simp (disch := first | omega | (simp only [npz, nsz, nmz] <;> omega) | fail) [lhz, lgz, sgz, boxA, gz, gs, Heap.gqz, Heap.gpz, Heap.gtz, Heap.gsz, gmz, npz, nsz, nmz, c1.g]; done) ?_ | fail)
    refine Tot.bind (r4_long (z := 1) (hq _ (by omega)) (by omega)) ?_
    rintro v H2 ⟨c2, i2⟩
    have n2 := c2.n; try simp only [npz, nsz, nmz] at n2
    obtain ⟨b2, s2, rfl, -⟩ := i2.shape
    dsimp only
    repeat (first | refine Tot.pure (by simp (disch := first | omega | (simp only [npz, nsz, nmz] <;> omega) | fail) [lhz, lgz, sgz, boxA, gz, gs, Heap.gqz, Heap.gpz, Heap.gtz, Heap.gsz, gmz, npz, nsz, nmz, c1.g, c2.g]; try exact rfl) ?_ | refine Tot.chk (by simp (disch := first | omega | (simp only [npz, nsz, nmz] <;> omega) | fail) [lhz, lgz, sgz, boxA, gz, gs, Heap.gqz, Heap.gpz, Heap.gtz, Heap.gsz, gmz, npz, nsz, nmz, c1.g, c2.g]; done) ?_ | fail)
    refine Tot.ret (hQ _ _ ⟨Keep.ext (Keep.auto), _, _, b2, s2, rfl, isJ.zero, (i2.keep (by (repeat (first | exact KeepP.refl | refine KeepP.call ?_ (by assumption) | refine KeepP.push ?_ | refine KeepP.more ?_ | refine KeepP.set ?_ (by first | (right; first | omega | (simp only [npz, nsz, nmz] <;> omega) | fail) | (left; simp; done) | fail))))).mono fun i _ hi => hi.1, by decide⟩)
  · have hx : val 4294967296 lt ≠ 0 := by
      intro e; apply h2; rw [e, dig_zero]; simp
    rw [if_neg hx, if_neg hx] at hQ
    repeat (first | refine Tot.pure (by simp (disch := first | omega | (simp only [npz, nsz, nmz] <;> omega) | fail) [lhz, lgz, sgz, boxA, gz, gs, Heap.gqz, Heap.gpz, Heap.gtz, Heap.gsz, gmz, npz, nsz, nmz, c1.g]; try exact rfl) ?_ | refine Tot.chk (by simp (disch := first | omega | (simp only [npz, nsz, nmz] <;> omega) | fail) [lhz, lgz, sgz, boxA, gz, gs, Heap.gqz, Heap.gpz, Heap.gtz, Heap.gsz, gmz, npz, nsz, nmz, c1.g]; done) ?_ | fail)
    refine Tot.bind (r4_of (hq _ (by omega)) (r1.keep Fr.zero (Keep.auto)) (by omega) hL) ?_
    rintro v H2 ⟨c2, i2⟩
    have n2 := c2.n; try simp only [npz, nsz, nmz] at n2
    obtain ⟨b2, s2, rfl, -⟩ := i2.shape
    have j1 : isJ H1 (fun i => P i ∧ i ≠ H.n + 1) (.agg [.int .i64 1, .slice s1]) ((val 4294967296 lt : Nat) : Int) :=
      ⟨s1, by rw [Int.sign_eq_one_of_pos (by omega)], by rw [Int.natAbs_natCast]; exact q1, fun i hi => ⟨hP i (by have := f1 i hi; simp at this; omega), by have := f1 i hi; simp at this; omega⟩⟩
    dsimp only
    repeat (first | refine Tot.pure (by simp (disch := first | omega | (simp only [npz, nsz, nmz] <;> omega) | fail) [lhz, lgz, sgz, boxA, gz, gs, Heap.gqz, Heap.gpz, Heap.gtz, Heap.gsz, gmz, npz, nsz, nmz, c1.g, c2.g]; try exact rfl) ?_ | refine Tot.chk (by simp (disch := first | omega | (simp only [npz, nsz, nmz] <;> omega) | fail) [lhz, lgz, sgz, boxA, gz, gs, Heap.gqz, Heap.gpz, Heap.gtz, Heap.gsz, gmz, npz, nsz, nmz, c1.g, c2.g]; done) ?_ | fail)
    refine Tot.ret (hQ _ _ ⟨Keep.ext (Keep.auto), b2, s2, 1, s1, rfl, (i2.keep (by (repeat (first | exact KeepP.refl | refine KeepP.call ?_ (by assumption) | refine KeepP.push ?_ | refine KeepP.more ?_ | refine KeepP.set ?_ (by first | (right; first | omega | (simp only [npz, nsz, nmz] <;> omega) | fail) | (left; simp; done) | fail))))).mono fun i _ hi => hi.1, (j1.keep (by (repeat (first | exact KeepP.refl | refine KeepP.call ?_ (by assumption) | refine KeepP.push ?_ | refine KeepP.more ?_ | refine KeepP.set ?_ (by first | (right; first | omega | (simp only [npz, nsz, nmz] <;> omega) | fail) | (left; simp; done) | fail))))).mono fun i _ hi => hi.1, by omega⟩)
theorem r5_mul {H : Heap} {P : Nat → Prop} {v w : V} {n m : Int} {d e : Nat} (hP : UpP H P) (h : isK H P v n d) (h' : isK H P w m e) (h1 : (dig 65536 n.natAbs).length + (dig 65536 m.natAbs).length < 1000000000) (h2 : (dig 65536 d).length + (dig 65536 e).length < 1000000000) :
    Tot (fun n => f_ref05_Mul n [v, w] H) fun v H' => Ext0 H H' ∧ isK H' P v (n * m) (d * e) := by
  obtain ⟨σ, s, τ, t, rfl, a1, a2, hd⟩ := h
  obtain ⟨σ', s', τ', t', rfl, b1, b2, he⟩ := h'
  refine Tot.of fun Q hQ => ?_
  refine ref05_Mul_tot ?_
  simp only [ref05_Mul_b]
  have hq : ∀ (G : Heap), H.n + 3 ≤ G.n → UpP G (fun i => P i ∧ i ≠ H.n + 2) := fun G hG i hi => ⟨hP i (by omega), by omega⟩
  have hm : ∀ {v : V} {z : Int}, isJ H P v z → isJ H (fun i => P i ∧ i ≠ H.n + 2) v z := fun h => h.mono fun i hi hp => ⟨hp, by omega⟩
  repeat (first | refine Tot.autoP ?_ | refine Tot.autoC ?_ | fail)
  refine Tot.bind (r4_mul (hq _ (by simp)) ((hm a1).keep (by (repeat (first | exact KeepP.refl | refine KeepP.call ?_ (by assumption) | refine KeepP.push ?_ | refine KeepP.more ?_ | refine KeepP.set ?_ (by first | (right; first | omega | (simp only [npz, nsz, nmz] <;> omega) | fail) | (left; simp; done) | fail))))) ((hm b1).keep (by (repeat (first | exact KeepP.refl | refine KeepP.call ?_ (by assumption) | refine KeepP.push ?_ | refine KeepP.more ?_ | refine KeepP.set ?_ (by first | (right; first | omega | (simp only [npz, nsz, nmz] <;> omega) | fail) | (left; simp; done) | fail))))) h1) ?_
  rintro v H1 ⟨c1, i1⟩
  have n1 := c1.n; try simp only [npz, nsz, nmz] at n1
  obtain ⟨p1, q1, rfl, -⟩ := i1.shape
  dsimp only
  repeat (first | refine Tot.pure (by simp (disch := first | omega | (simp only [npz, nsz, nmz] <;> omega) | fail) [lhz, lgz, sgz, boxA, gz, gs, Heap.gqz, Heap.gpz, Heap.gtz, Heap.gsz, gmz, npz, nsz, nmz, c1.g]; try exact rfl) ?_ | refine Tot.chk (by simp (disch := first | omega | (simp only [npz, nsz, nmz] <;> omega) | fail) [lhz, lgz, sgz, boxA, gz, gs, Heap.gqz, Heap.gpz, Heap.gtz, Heap.gsz, gmz, npz, nsz, nmz, c1.g]; done) ?_ | fail)
  refine Tot.bind (r4_mul (hq _ (by omega)) ((hm a2).keep (by (repeat (first | exact KeepP.refl | refine KeepP.call ?_ (by assumption) | refine KeepP.push ?_ | refine KeepP.more ?_ | refine KeepP.set ?_ (by first | (right; first | omega | (simp only [npz, nsz, nmz] <;> omega) | fail) | (left; simp; done) | fail))))) ((hm b2).keep (by (repeat (first | exact KeepP.refl | refine KeepP.call ?_ (by assumption) | refine KeepP.push ?_ | refine KeepP.more ?_ | refine KeepP.set ?_ (by first | (right; first | omega | (simp only [npz, nsz, nmz] <;> omega) | fail) | (left; simp; done) | fail))))) (by rw [Int.natAbs_natCast, Int.natAbs_natCast]; exact h2)) ?_
  rintro v H2 ⟨c2, i2⟩
  have n2 := c2.n; try simp only [npz, nsz, nmz] at n2
  obtain ⟨p2, q2, rfl, -⟩ := i2.shape
  rw [← Int.natCast_mul] at i2
  dsimp only
  repeat (first | refine Tot.pure (by simp (disch := first | omega | (simp only [npz, nsz, nmz] <;> omega) | fail) [lhz, lgz, sgz, boxA, gz, gs, Heap.gqz, Heap.gpz, Heap.gtz, Heap.gsz, gmz, npz, nsz, nmz, c1.g, c2.g]; try exact rfl) ?_ | refine Tot.chk (by simp (disch := first | omega | (simp only [npz, nsz, nmz] <;> omega) | fail) [lhz, lgz, sgz, boxA, gz, gs, Heap.gqz, Heap.gpz, Heap.gtz, Heap.gsz, gmz, npz, nsz, nmz, c1.g, c2.g]; done) ?_ | fail)
  refine Tot.ret (hQ _ _ ⟨Keep.ext (Keep.auto), p1, q1, p2, q2, rfl, (i1.keep (by (repeat (first | exact KeepP.refl | refine KeepP.call ?_ (by assumption) | refine KeepP.push ?_ | refine KeepP.more ?_ | refine KeepP.set ?_ (by first | (right; first | omega | (simp only [npz, nsz, nmz] <;> omega) | fail) | (left; simp; done) | fail))))).mono fun i _ hi => hi.1, (i2.keep (by (repeat (first | exact KeepP.refl | refine KeepP.call ?_ (by assumption) | refine KeepP.push ?_ | refine KeepP.more ?_ | refine KeepP.set ?_ (by first | (right; first | omega | (simp only [npz, nsz, nmz] <;> omega) | fail) | (left; simp; done) | fail))))).mono fun i _ hi => hi.1, Nat.mul_pos hd he⟩)
theorem rsz_mul {x y : Nat} : (dig 65536 (x * y)).length ≤ (dig 65536 x).length + (dig 65536 y).length := by
  apply dig_len_le (by decide)
  rw [Nat.pow_add]
  exact Nat.mul_lt_mul_of_lt_of_le (dig_len_lt (by decide)) (Nat.le_of_lt (dig_len_lt (by decide))) (by have := Nat.pow_pos (n := (dig 65536 y).length) (show 0 < 65536 by decide); omega)
set_option maxHeartbeats 1000000 in
theorem r5_add {H : Heap} {P : Nat → Prop} {v w : V} {n m : Int} {d e : Nat} (hP : UpP H P) (h : isK H P v n d) (h' : isK H P w m e) (h1 : (dig 65536 n.natAbs).length < 10000000) (h2 : (dig 65536 m.natAbs).length < 10000000) (h3 : (dig 65536 d).length < 10000000) (h4 : (dig 65536 e).length < 10000000) :
    Tot (fun n => f_ref05_Add n [v, w] H) fun v H' => Ext0 H H' ∧ isK H' P v (n * e + m * d) (d * e) := by
  obtain ⟨σ, s, τ, t, rfl, a1, a2, hd⟩ := h
  obtain ⟨σ', s', τ', t', rfl, b1, b2, he⟩ := h'
  refine Tot.of fun Q hQ => ?_
  refine ref05_Add_tot ?_
  simp only [ref05_Add_b]
  have hq : ∀ (G : Heap), H.n + 3 ≤ G.n → UpP G (fun i => P i ∧ i ≠ H.n + 2) := fun G hG i hi => ⟨hP i (by omega), by omega⟩
  have hm : ∀ {v : V} {z : Int}, isJ H P v z → isJ H (fun i => P i ∧ i ≠ H.n + 2) v z := fun h => h.mono fun i hi hp => ⟨hp, by omega⟩
  repeat (first | refine Tot.autoP ?_ | refine Tot.autoC ?_ | fail)
  refine Tot.bind (r4_mul (hq _ (by simp)) ((hm a1).keep (by (repeat (first | exact KeepP.refl | refine KeepP.call ?_ (by assumption) | refine KeepP.push ?_ | refine KeepP.more ?_ | refine KeepP.set ?_ (by first | (right; first | omega | (simp only [npz, nsz, nmz] <;> omega) | fail) | (left; simp; done) | fail))))) ((hm b2).keep (by (repeat (first | exact KeepP.refl | refine KeepP.call ?_ (by assumption) | refine KeepP.push ?_ | refine KeepP.more ?_ | refine KeepP.set ?_ (by first | (right; first | omega | (simp only [npz, nsz, nmz] <;> omega) | fail) | (left; simp; done) | fail))))) (by rw [Int.natAbs_natCast]; omega)) ?_
  rintro v H1 ⟨c1, i1⟩
  have n1 := c1.n; try simp only [npz, nsz, nmz] at n1
  obtain ⟨p1, q1, rfl, -⟩ := i1.shape
  dsimp only
  repeat (first | refine Tot.pure (by simp (disch := first | omega | (simp only [npz, nsz, nmz] <;> omega) | fail) [lhz, lgz, sgz, boxA, gz, gs, Heap.gqz, Heap.gpz, Heap.gtz, Heap.gsz, gmz, npz, nsz, nmz, c1.g]; try exact rfl) ?_ | refine Tot.chk (by simp (disch := first | omega | (simp only [npz, nsz, nmz] <;> omega) | fail) [lhz, lgz, sgz, boxA, gz, gs, Heap.gqz, Heap.gpz, Heap.gtz, Heap.gsz, gmz, npz, nsz, nmz, c1.g]; done) ?_ | fail)
  refine Tot.bind (r4_mul (hq _ (by omega)) ((hm b1).keep (by (repeat (first | exact KeepP.refl | refine KeepP.call ?_ (by assumption) | refine KeepP.push ?_ | refine KeepP.more ?_ | refine KeepP.set ?_ (by first | (right; first | omega | (simp only [npz, nsz, nmz] <;> omega) | fail) | (left; simp; done) | fail))))) ((hm a2).keep (by (repeat (first | exact KeepP.refl | refine KeepP.call ?_ (by assumption) | refine KeepP.push ?_ | refine KeepP.more ?_ | refine KeepP.set ?_ (by first | (right; first | omega | (simp only [npz, nsz, nmz] <;> omega) | fail) | (left; simp; done) | fail))))) (by rw [Int.natAbs_natCast]; omega)) ?_
  rintro v H2 ⟨c2, i2⟩
  have n2 := c2.n; try simp only [npz, nsz, nmz] at n2
  obtain ⟨p2, q2, rfl, -⟩ := i2.shape
  dsimp only
  repeat (first | refine Tot.pure (by simp (disch := first | omega | (simp only [npz, nsz, nmz] <;> omega) | fail) [lhz, lgz, sgz, boxA, gz, gs, Heap.gqz, Heap.gpz, Heap.gtz, Heap.gsz, gmz, npz, nsz, nmz, c1.g, c2.g]; try exact rfl) ?_ | refine Tot.chk (by simp (disch := first | omega | (simp only [npz, nsz, nmz] <;> omega) | fail) [lhz, lgz, sgz, boxA, gz, gs, Heap.gqz, Heap.gpz, Heap.gtz, Heap.gsz, gmz, npz, nsz, nmz, c1.g, c2.g]; done) ?_ | fail)
  have z1 := rsz_mul (x := n.natAbs) (y := e)
  have z2 := rsz_mul (x := m.natAbs) (y := d)
  rw [← Int.natAbs_natCast e, ← Int.natAbs_mul, Int.natAbs_natCast] at z1
  rw [← Int.natAbs_natCast d, ← Int.natAbs_mul, Int.natAbs_natCast] at z2
  refine Tot.bind (r4_add (hq _ (by omega)) (i1.keep (by (repeat (first | exact KeepP.refl | refine KeepP.call ?_ (by assumption) | refine KeepP.push ?_ | refine KeepP.more ?_ | refine KeepP.set ?_ (by first | (right; first | omega | (simp only [npz, nsz, nmz] <;> omega) | fail) | (left; simp; done) | fail))))) i2 (by omega) (by omega)) ?_
  rintro v H3 ⟨c3, i3⟩
  have n3 := c3.n; try simp only [npz, nsz, nmz] at n3
  obtain ⟨p3, q3, rfl, -⟩ := i3.shape
  dsimp only
  repeat (first | refine Tot.pure (by simp (disch := first | omega | (simp only [npz, nsz, nmz] <;> omega) | fail) [lhz, lgz, sgz, boxA, gz, gs, Heap.gqz, Heap.gpz, Heap.gtz, Heap.gsz, gmz, npz, nsz, nmz, c1.g, c2.g, c3.g]; try exact rfl) ?_ | refine Tot.chk (by simp (disch := first | omega | (simp only [npz, nsz, nmz] <;> omega) | fail) [lhz, lgz, sgz, boxA, gz, gs, Heap.gqz, Heap.gpz, Heap.gtz, Heap.gsz, gmz, npz, nsz, nmz, c1.g, c2.g, c3.g]; done) ?_ | fail)
  refine Tot.bind (r4_mul (hq _ (by omega)) ((hm a2).keep (by (repeat (first | exact KeepP.refl | refine KeepP.call ?_ (by assumption) | refine KeepP.push ?_ | refine KeepP.more ?_ | refine KeepP.set ?_ (by first | (right; first | omega | (simp only [npz, nsz, nmz] <;> omega) | fail) | (left; simp; done) | fail))))) ((hm b2).keep (by (repeat (first | exact KeepP.refl | refine KeepP.call ?_ (by assumption) | refine KeepP.push ?_ | refine KeepP.more ?_ | refine KeepP.set ?_ (by first | (right; first | omega | (simp only [npz, nsz, nmz] <;> omega) | fail) | (left; simp; done) | fail))))) (by rw [Int.natAbs_natCast, Int.natAbs_natCast]; omega)) ?_
  rintro v H4 ⟨c4, i4⟩
  have n4 := c4.n; try simp only [npz, nsz, nmz] at n4
  obtain ⟨p4, q4, rfl, -⟩ := i4.shape
  rw [← Int.natCast_mul] at i4
  dsimp only
  repeat (first | refine Tot.pure (by simp (disch := first | omega | (simp only [npz, nsz, nmz] <;> omega) | fail) [lhz, lgz, sgz, boxA, gz, gs, Heap.gqz, Heap.gpz, Heap.gtz, Heap.gsz, gmz, npz, nsz, nmz, c1.g, c2.g, c3.g, c4.g]; try exact rfl) ?_ | refine Tot.chk (by simp (disch := first | omega | (simp only [npz, nsz, nmz] <;> omega) | fail) [lhz, lgz, sgz, boxA, gz, gs, Heap.gqz, Heap.gpz, Heap.gtz, Heap.gsz, gmz, npz, nsz, nmz, c1.g, c2.g, c3.g, c4.g]; done) ?_ | fail)
  refine Tot.ret (hQ _ _ ⟨Keep.ext (Keep.auto), p3, q3, p4, q4, rfl, (i3.keep (by (repeat (first | exact KeepP.refl | refine KeepP.call ?_ (by assumption) | refine KeepP.push ?_ | refine KeepP.more ?_ | refine KeepP.set ?_ (by first | (right; first | omega | (simp only [npz, nsz, nmz] <;> omega) | fail) | (left; simp; done) | fail))))).mono fun i _ hi => hi.1, (i4.keep (by (repeat (first | exact KeepP.refl | refine KeepP.call ?_ (by assumption) | refine KeepP.push ?_ | refine KeepP.more ?_ | refine KeepP.set ?_ (by first | (right; first | omega | (simp only [npz, nsz, nmz] <;> omega) | fail) | (left; simp; done) | fail))))).mono fun i _ hi => hi.1, Nat.mul_pos hd he⟩)
theorem r5_low {H : Heap} {P : Nat → Prop} {v : V} {n : Int} {d : Nat} (hP : UpP H P) (h : isK H P v n d) (h1 : (dig 65536 n.natAbs).length < 10000000) (h2 : (dig 65536 d).length < 10000000) :
    Tot (fun n => f_ref05_Low n [v] H) fun v H' => Ext0 H H' ∧ isK H' P v (lowN n d) (lowD n d) := by
  obtain ⟨σ, s, τ, t, rfl, a1, a2, hd⟩ := h
  obtain ⟨_, _, e1, hσ, r1, f1⟩ := a1.shape
  simp at e1; obtain ⟨rfl, rfl⟩ := e1
  obtain ⟨_, _, e2, hτ, r2, f2⟩ := a2.shape
  simp at e2; obtain ⟨rfl, rfl⟩ := e2
  rw [Int.natAbs_natCast] at r2
  have sx := sign_cases n
  rw [← hσ] at sx
  have hg0 : 0 < Nat.gcd n.natAbs d := Nat.gcd_pos_of_pos_right _ hd
  refine Tot.of fun Q hQ => ?_
  refine ref05_Low_tot ?_
  simp only [ref05_Low_b]
  have hq : ∀ (G : Heap), H.n + 2 ≤ G.n → UpP G (fun i => P i ∧ i ≠ H.n + 1) := fun G hG i hi => ⟨hP i (by omega), by omega⟩
  repeat (first | refine Tot.autoP ?_ | refine Tot.autoC ?_ | fail)
  refine Tot.ite (fun h0 => ?_) (fun h0 => ?_)
  · have h0' := of_decide_eq_true h0
    have hn : n = 0 := by omega
    subst hn
    rw [low_zero.1, low_zero.2] at hQ
    repeat (first | refine Tot.autoP ?_ | refine Tot.autoC ?_ | fail)
    refine Tot.bind (r4_long (z := 1) (hq _ (by simp)) (by omega)) ?_
    rintro v H2 ⟨c2, i2⟩
    have n2 := c2.n; try simp only [npz, nsz, nmz] at n2
    obtain ⟨b2, s2, rfl, -⟩ := i2.shape
    dsimp only
    repeat (first | refine Tot.pure (by simp (disch := first | omega | (simp only [npz, nsz, nmz] <;> omega) | fail) [lhz, lgz, sgz, boxA, gz, gs, Heap.gqz, Heap.gpz, Heap.gtz, Heap.gsz, gmz, npz, nsz, nmz, c2.g]; try exact rfl) ?_ | refine Tot.chk (by simp (disch := first | omega | (simp only [npz, nsz, nmz] <;> omega) | fail) [lhz, lgz, sgz, boxA, gz, gs, Heap.gqz, Heap.gpz, Heap.gtz, Heap.gsz, gmz, npz, nsz, nmz, c2.g]; done) ?_ | fail)
    refine Tot.ret (hQ _ _ ⟨Keep.ext (Keep.auto), _, _, b2, s2, rfl, isJ.zero, (i2.keep (by (repeat (first | exact KeepP.refl | refine KeepP.call ?_ (by assumption) | refine KeepP.push ?_ | refine KeepP.more ?_ | refine KeepP.set ?_ (by first | (right; first | omega | (simp only [npz, nsz, nmz] <;> omega) | fail) | (left; simp; done) | fail))))).mono fun i _ hi => hi.1, by decide⟩)
  · have h0' : σ ≠ 0 := by simpa using h0
    have hn : n ≠ 0 := by omega
    repeat (first | refine Tot.autoP ?_ | refine Tot.autoC ?_ | fail)
    refine Tot.bind (r_gcd (r1.ext (Keep.ext (Keep.auto))) (r2.ext (Keep.ext (Keep.auto))) (by omega) (by omega)) ?_
    rintro v H1 ⟨c1, s1, rfl, q1⟩
    have n1 := c1.n; try simp only [npz, nsz, nmz] at n1
    have hgd : Nat.gcd n.natAbs d ≤ d := Nat.gcd_le_right _ hd
    have hgz := rsz_mono hgd
    have hgn := Nat.gcd_dvd_left n.natAbs d
    have hgc : Nat.gcd n.natAbs d = Nat.gcd n.natAbs d := rfl
    have eN : lowN n d = sgn (decide (n < 0)) (n.natAbs / Nat.gcd n.natAbs d) := by rw [lowN, if_neg (by omega)]
    have eD : lowD n d = d / Nat.gcd n.natAbs d := by rw [lowD, if_neg (by omega)]
    have hDp := lowD_pos (n := n) (d := d)
    generalize Nat.gcd n.natAbs d = g at *
    dsimp only
    repeat (first | refine Tot.pure (by simp (disch := first | omega | (simp only [npz, nsz, nmz] <;> omega) | fail) [lhz, lgz, sgz, boxA, gz, gs, Heap.gqz, Heap.gpz, Heap.gtz, Heap.gsz, gmz, npz, nsz, nmz, c1.g]; try exact rfl) ?_ | refine Tot.chk (by simp (disch := first | omega | (simp only [npz, nsz, nmz] <;> omega) | fail) [lhz, lgz, sgz, boxA, gz, gs, Heap.gqz, Heap.gpz, Heap.gtz, Heap.gsz, gmz, npz, nsz, nmz, c1.g]; done) ?_ | fail)
    refine Tot.bind (r_divmod (r1.ext (Keep.ext (Keep.auto))) q1 (by omega) (by omega) hg0) ?_
    rintro v H2 ⟨c2, s2, s3, rfl, q2, -, f3, -⟩
    have n2 := c2.n; try simp only [npz, nsz, nmz] at n2
    dsimp only
    repeat (first | refine Tot.pure (by simp (disch := first | omega | (simp only [npz, nsz, nmz] <;> omega) | fail) [lhz, lgz, sgz, boxA, gz, gs, Heap.gqz, Heap.gpz, Heap.gtz, Heap.gsz, gmz, npz, nsz, nmz, c1.g, c2.g]; try exact rfl) ?_ | refine Tot.chk (by simp (disch := first | omega | (simp only [npz, nsz, nmz] <;> omega) | fail) [lhz, lgz, sgz, boxA, gz, gs, Heap.gqz, Heap.gpz, Heap.gtz, Heap.gsz, gmz, npz, nsz, nmz, c1.g, c2.g]; done) ?_ | fail)
    refine Tot.bind (r_divmod (r2.ext (Keep.ext (Keep.auto))) (q1.ext c2) (by omega) (by omega) hg0) ?_
    rintro v H3 ⟨c3, s4, s5, rfl, q4, -, f5, -⟩
    have n3 := c3.n; try simp only [npz, nsz, nmz] at n3
    dsimp only
    repeat (first | refine Tot.pure (by simp (disch := first | omega | (simp only [npz, nsz, nmz] <;> omega) | fail) [lhz, lgz, sgz, boxA, gz, gs, Heap.gqz, Heap.gpz, Heap.gtz, Heap.gsz, gmz, npz, nsz, nmz, c1.g, c2.g, c3.g]; try exact rfl) ?_ | refine Tot.chk (by simp (disch := first | omega | (simp only [npz, nsz, nmz] <;> omega) | fail) [lhz, lgz, sgz, boxA, gz, gs, Heap.gqz, Heap.gpz, Heap.gtz, Heap.gsz, gmz, npz, nsz, nmz, c1.g, c2.g, c3.g]; done) ?_ | fail)
    have hqn : n.natAbs / g ≠ 0 := by
      have := Nat.div_pos (Nat.le_of_dvd (by omega) hgn) hg0
      omega
    have hqp : (0 : Int) < ((n.natAbs / g : Nat) : Int) := Int.natCast_pos.2 (Nat.pos_of_ne_zero hqn)
    refine Tot.ret (hQ _ _ ⟨Keep.ext (Keep.auto), σ, s2, 1, s4, rfl, ⟨s2, ?_, ?_, fun i hi => hP i (by have := f3 i hi; omega)⟩, ⟨s4, ?_, ?_, fun i hi => hP i (by have := f5 i hi; omega)⟩, hDp⟩)
    · have : (lowN n d).sign = σ := by
        rw [eN]
        rcases sx with ⟨x1, x2⟩ | ⟨x1, x2⟩ | ⟨x1, x2⟩
        · rw [sgn, if_pos (by simpa using x2), Int.sign_neg, Int.sign_eq_one_of_pos hqp, x1]
        · omega
        · rw [sgn, if_neg (by simp; omega), Int.sign_eq_one_of_pos hqp, x1]
      rw [this]
    · rw [eN, sgn_abs]; exact q2.keep (lo := H1.n) f3 (Keep.auto)
    · rw [Int.sign_eq_one_of_pos (by omega)]
    · rw [Int.natAbs_natCast, eD]; exact q4.keep (lo := H2.n) f5 (Keep.auto)
end Go.AM
end
section
set_option linter.unusedVariables false
set_option linter.unusedSimpArgs false
set_option linter.unusedSimpArgs false
set_option linter.unusedVariables false
namespace Go.AM
def digF (b : Nat) : Nat → Nat → List Nat
  | 0, _ => []
  | f + 1, x => if x = 0 then [] else x % b :: digF b f (x / b)
def digK (b x : Nat) : List Nat := digF b (x.log2 + 1) x
theorem digF_eq {b : Nat} (hb : 2 ≤ b) : ∀ (f x : Nat), x < 2 ^ f → digF b f x = dig b x
  | 0, x, h => by
    have : x = 0 := by simpa using h
    subst this; simp [digF, dig_zero]
  | f + 1, x, h => by
    unfold digF
    split
    · subst_vars; rw [dig_zero]
    · rename_i hx
      rw [dig_pos hb hx, digF_eq hb f (x / b)]
      rw [Nat.div_lt_iff_lt_mul (by omega)]
      rw [Nat.pow_succ] at h
      exact Nat.lt_of_lt_of_le h (Nat.mul_le_mul_left _ hb)
theorem digK_eq {b x : Nat} (hb : 2 ≤ b) : digK b x = dig b x := digF_eq hb _ _ Nat.lt_log2_self
def encN (k : IntKind) (l : List Nat) : V := if l.length = 0 then .list 0 0 [] else .list l.length 1 (nums k l)
def natW (x : Nat) : V := encN .u32 (digK 4294967296 x)
def intW (z : Int) : V := .agg [.bool (decide (z < 0)), natW z.natAbs]
def ratW (n : Int) (d : Nat) : V := .agg [.bool (decide (n < 0)), natW n.natAbs, natW d]
def natD (x : Nat) : V := encN .i64 (digK 65536 x)
def intD (z : Int) : V := .agg [.int .i64 z.sign, natD z.natAbs]
def ratD (n : Int) (d : Nat) : V := .agg [.int .i64 n.sign, natD n.natAbs, .int .i64 (d : Int).sign, natD d]
def unI (k : IntKind) (b : Nat) : V → Option Nat
  | .int k' n => if k' = k ∧ 0 ≤ n ∧ n < b then some n.toNat else none
  | _ => none
def unIs (k : IntKind) (b : Nat) : List V → Option (List Nat)
  | [] => some []
  | v :: vs => match unI k b v with
    | some x => match unIs k b vs with
      | some l => some (x :: l)
      | none => none
    | none => none
def decL (k : IntKind) (b : Nat) : V → Option (List Nat)
  | .list n z cs => if (n = 0 ∨ z = 1) ∧ cs.length = n ∧ n < 1000000 then unIs k b cs else none
  | _ => none
theorem unIs_num {k : IntKind} {b : Nat} : ∀ {vs : List V} {l : List Nat}, unIs k b vs = some l → vs = nums k l ∧ Lim b l
  | [], l, h => by simp [unIs] at h; subst h; exact ⟨rfl, Lim.nil⟩
  | v :: vs, l, h => by
    unfold unIs at h
    split at h
    · rename_i x hx
      split at h
      · rename_i q hq
        simp at h; subst h
        obtain ⟨e, hl⟩ := unIs_num hq
        unfold unI at hx
        split at hx
        · split at hx
          · rename_i hc
            obtain ⟨rfl, h0, h1⟩ := hc
            simp at hx; subst hx
            refine ⟨?_, Lim.cons.2 ⟨by omega, hl⟩⟩
            rw [e]; simp only [nums, List.map_cons]; congr 2; omega
          · cases hx
        · cases hx
      · cases h
    · cases h
theorem unIs_nums {k : IntKind} {b : Nat} : ∀ {l : List Nat}, Lim b l → unIs k b (nums k l) = some l
  | [], _ => rfl
  | x :: l, h => by
    rw [Lim.cons] at h
    have := unIs_nums (k := k) h.2
    simp only [nums, List.map_cons, unIs, unI] at this ⊢
    rw [if_pos ⟨trivial, by omega, by omega⟩]
    simp only [Int.toNat_natCast, this]
theorem decL_enc {k : IntKind} {b : Nat} {l : List Nat} (h : Lim b l) (hm : l.length < 1000000) : decL k b (encN k l) = some l := by
  unfold encN
  split
  · rename_i h0
    have : l = [] := List.eq_nil_of_length_eq_zero h0
    subst this; rfl
  · simp only [decL]
    rw [if_pos ⟨.inr trivial, by simp, hm⟩]
    exact unIs_nums h
theorem nums_plain {k : IntKind} {l : List Nat} : (nums k l).all V.plain1 = true := by
  rw [List.all_eq_true]; intro v hv
  obtain ⟨x, _, rfl⟩ := List.mem_map.1 hv; rfl
theorem nums_free {k : IntKind} : ∀ {l : List Nat}, V.frees (nums k l) = true
  | [] => rfl
  | x :: l => by simp only [nums, List.map_cons, V.frees, V.free]; exact nums_free
theorem encN_free {k : IntKind} {l : List Nat} : (encN k l).free = true := by
  unfold encN; split
  · rfl
  · simp only [V.free]; exact nums_free
theorem decL_flat {k : IntKind} {b : Nat} {v : V} {l : List Nat} (h : decL k b v = some l) : v.flat = true := by
  unfold decL at h
  split at h
  · split at h
    · rename_i hc
      obtain ⟨rfl, _⟩ := unIs_num h
      simp only [V.flat, nums_plain, Bool.and_true, Bool.or_eq_true, beq_iff_eq]
      exact hc.1
    · cases h
  · cases h
theorem decL_row {k : IntKind} {b base : Nat} {H : Heap} {v u : V} {l : List Nat} (h : decL k b v = some l) (t : Th base H v u) : ∃ s, u = .slice s ∧ Row H k s l ∧ (∀ i, s.has i → base ≤ i) ∧ Lim b l ∧ l.length < 1000000 := by
  unfold decL at h
  split at h
  · rename_i n z cs
    split at h
    · rename_i hc
      obtain ⟨h1, h2, h3⟩ := hc
      obtain ⟨rfl, hL⟩ := unIs_num h
      have hl : l.length = n := by simpa using h2
      simp only [Th] at t
      obtain ⟨s, rfl, t1, t2, t3, t4⟩ := t
      refine ⟨s, rfl, ⟨by omega, fun b o hs => (t3 b o hs).2, fun hne => ?_⟩, fun i hi => ?_, hL, by omega⟩
      · have hn : n ≠ 0 := by
          intro h0; apply hne; exact List.eq_nil_of_length_eq_zero (by omega)
        obtain ⟨c, e, t5, t6⟩ := t4 hn
        exact ⟨c, 0, nums k l, e, true, t5, t6, by simp, by rw [List.drop_zero, List.take_of_length_le (by simp)]⟩
      · obtain ⟨o, ho⟩ := hi
        exact (t3 i o ho).1
    · cases h
  · cases h
theorem frzL_nums {H : Heap} {d : Nat} {k : IntKind} : ∀ {l : List Nat}, frzL (frzV H (d + 1)) (nums k l) = some (nums k l, [])
  | [] => rfl
  | x :: l => by
    have := frzL_nums (H := H) (d := d) (k := k) (l := l)
    simp only [nums, List.map_cons] at this ⊢
    simp only [frzL, this]
    simp [frzV]
theorem frz_row {H : Heap} {d base : Nat} {k : IntKind} {s : Sl} {l : List Nat} (r : Row H k s l) (f : ∀ i, s.has i → base ≤ i) : ∃ ids, frzV H (d + 2) (.slice s) = some (encN k l, ids) ∧ ∀ j ∈ ids, base ≤ j := by
  unfold frzV encN
  have hl := r.len
  by_cases h0 : l.length = 0
  · simp only
    rw [if_pos (by omega), if_pos h0]
    exact ⟨[], rfl, by simp⟩
  · have hne : l ≠ [] := by intro e; subst e; simp at h0
    obtain ⟨b, o, cs, e', ro, a1, a2, a3, a4⟩ := r.mem hne
    have hz := (r.low b o a1).2
    simp only
    rw [if_neg (by omega), if_neg h0, a1]
    simp only [a2, hz, Nat.mul_one]
    rw [if_pos (by omega), hl, a4, frzL_nums]
    refine ⟨[b], rfl, ?_⟩
    intro j hj
    simp at hj; subst hj
    exact f j ⟨o, a1⟩
theorem frz_int {H : Heap} {base : Nat} {v : V} {z : Int} (h : isI H base v z) : ∃ ids, frzV H 6 v = some (intW z, ids) ∧ ∀ j ∈ ids, base ≤ j := by
  obtain ⟨s, rfl, r, f⟩ := h
  obtain ⟨ids, e, hi⟩ := frz_row (d := 3) r f
  refine ⟨ids, ?_, hi⟩
  unfold frzV
  simp only [frzL, e]
  simp [frzV, intW, natW, digK_eq]
theorem frz_rat {H : Heap} {base : Nat} {v : V} {n : Int} {d : Nat} (h : isR H base v n d) : ∃ ids, frzV H 6 v = some (ratW n d, ids) ∧ ∀ j ∈ ids, base ≤ j := by
  obtain ⟨b, s, t, rfl, ⟨s', e, r, f⟩, r2, f2, _⟩ := h
  simp at e
  obtain ⟨rfl, rfl⟩ := e
  obtain ⟨ids, e, hi⟩ := frz_row (d := 3) r f
  obtain ⟨ids2, e2, hi2⟩ := frz_row (d := 3) r2 f2
  refine ⟨ids ++ ids2, ?_, fun j hj => (List.mem_append.1 hj).elim (hi j) (hi2 j)⟩
  unfold frzV
  simp only [frzL, e, e2]
  simp [frzV, ratW, natW, digK_eq]
theorem frz_intD {H : Heap} {base : Nat} {v : V} {z : Int} (h : isJ H (fun i => base ≤ i) v z) : ∃ ids, frzV H 6 v = some (intD z, ids) ∧ ∀ j ∈ ids, base ≤ j := by
  obtain ⟨s, rfl, r, f⟩ := h
  obtain ⟨ids, e, hi⟩ := frz_row (d := 3) r f
  refine ⟨ids, ?_, hi⟩
  unfold frzV
  simp only [frzL, e]
  simp [frzV, intD, natD, digK_eq]
theorem frz_ratD {H : Heap} {base : Nat} {v : V} {n : Int} {d : Nat} (h : isK H (fun i => base ≤ i) v n d) : ∃ ids, frzV H 6 v = some (ratD n d, ids) ∧ ∀ j ∈ ids, base ≤ j := by
  obtain ⟨σ, s, τ, t, rfl, ⟨s', e, r, f⟩, ⟨t', e', r2, f2⟩, _⟩ := h
  simp at e e'
  obtain ⟨rfl, rfl⟩ := e
  obtain ⟨rfl, rfl⟩ := e'
  rw [Int.natAbs_natCast] at r2
  obtain ⟨ids, e, hi⟩ := frz_row (d := 3) r f
  obtain ⟨ids2, e2, hi2⟩ := frz_row (d := 3) r2 f2
  refine ⟨ids ++ ids2, ?_, fun j hj => (List.mem_append.1 hj).elim (hi j) (hi2 j)⟩
  unfold frzV
  simp only [frzL, e, e2]
  simp [frzV, ratD, natD, digK_eq]
theorem frz_plain {H : Heap} {base : Nat} {v : V} (h : v.plain1 = true) : ∃ ids, frzV H 6 v = some (v, ids) ∧ ∀ j ∈ ids, base ≤ j := by
  refine ⟨[], ?_, by simp⟩
  unfold frzV
  cases v <;> simp_all [V.plain1]
theorem intW_free {z : Int} : (intW z).free = true := by simp only [intW, V.free, V.frees]; simp [natW, encN_free]
theorem ratW_free {n : Int} {d : Nat} : (ratW n d).free = true := by simp only [ratW, V.free, V.frees]; simp [natW, encN_free]
theorem intD_free {z : Int} : (intD z).free = true := by simp only [intD, V.free, V.frees]; simp [natD, encN_free]
theorem ratD_free {n : Int} {d : Nat} : (ratD n d).free = true := by simp only [ratD, V.free, V.frees]; simp [natD, encN_free]
def decI : V → Option Int
  | .agg [.bool s, m] => match decL .u32 4294967296 m with
    | some l => if digK 4294967296 (val 4294967296 l) = l ∧ (s = true → l ≠ []) then some (sgn s (val 4294967296 l)) else none
    | none => none
  | _ => none
def decR : V → Option (Int × Nat)
  | .agg [.bool s, m, e] => match decL .u32 4294967296 m, decL .u32 4294967296 e with
    | some l, some q => some (sgn s (val 4294967296 l), val 4294967296 q)
    | _, _ => none
  | _ => none
def decJ : V → Option Int
  | .agg [.int .i64 s, m] => match decL .i64 65536 m with
    | some l => let x : Int := s * val 65536 l
      if digK 65536 (val 65536 l) = l ∧ s = x.sign ∧ (s = 0 → l = []) then some x else none
    | none => none
  | _ => none
def decK : V → Option (Int × Nat)
  | .agg [.int .i64 s, m, .int .i64 t, e] => match decJ (.agg [.int .i64 s, m]), decJ (.agg [.int .i64 t, e]) with
    | some n, some d => if 0 < d then some (n, d.toNat) else none
    | _, _ => none
  | _ => none
theorem digK_lim {b x : Nat} (hb : 2 ≤ b) : Lim b (digK b x) := by rw [digK_eq hb]; exact dig_lim hb x
theorem val_digK {b x : Nat} (hb : 2 ≤ b) : val b (digK b x) = x := by rw [digK_eq hb]; exact val_dig hb x
theorem digK_nil {b x : Nat} (hb : 2 ≤ b) : digK b x = [] ↔ x = 0 := by rw [digK_eq hb]; exact dig_eq_nil hb
def szW (x : Nat) : Prop := (digK 4294967296 x).length < 1000000
def szD (x : Nat) : Prop := (digK 65536 x).length < 1000000
theorem decL_natW {x : Nat} (h : szW x) : decL .u32 4294967296 (natW x) = some (digK 4294967296 x) := decL_enc (digK_lim (by decide)) h
theorem decL_natD {x : Nat} (h : szD x) : decL .i64 65536 (natD x) = some (digK 65536 x) := decL_enc (digK_lim (by decide)) h
theorem sgn_dec (z : Int) : sgn (decide (z < 0)) z.natAbs = z := by
  unfold sgn; by_cases h : z < 0
  · rw [if_pos (by simpa using h)]; omega
  · rw [if_neg (by simpa using h)]; omega
theorem decI_intW {z : Int} (h : szW z.natAbs) : decI (intW z) = some z := by
  simp only [intW, decI, decL_natW h, val_digK (show 2 ≤ 4294967296 by decide)]
  rw [if_pos ⟨trivial, fun hz => by
    have hz' : z < 0 := by simpa using hz
    rw [Ne, digK_nil (by decide)]; omega⟩, sgn_dec]
theorem decR_ratW {n : Int} {d : Nat} (h : szW n.natAbs) (h' : szW d) : decR (ratW n d) = some (n, d) := by
  simp only [ratW, decR, decL_natW h, decL_natW h', val_digK (show 2 ≤ 4294967296 by decide), sgn_dec]
theorem decJ_intD {z : Int} (h : szD z.natAbs) : decJ (intD z) = some z := by
  simp only [intD, decJ, decL_natD h, val_digK (show 2 ≤ 65536 by decide)]
  have : z.sign * (z.natAbs : Int) = z := by rw [Int.sign_mul_natAbs]
  rw [this, if_pos ⟨trivial, rfl, fun hz => by rw [digK_nil (by decide)]; have := Int.sign_eq_zero_iff_zero.1 hz; omega⟩]
theorem decK_ratD {n : Int} {d : Nat} (h : szD n.natAbs) (h' : szD d) (hd : 0 < d) : decK (ratD n d) = some (n, d) := by
  have e1 := decJ_intD h
  have e2 := decJ_intD (z := (d : Int)) (by rw [Int.natAbs_natCast]; exact h')
  simp only [intD, Int.natAbs_natCast] at e1 e2
  simp only [ratD, decK, e1, e2]
  rw [if_pos (by omega)]; simp
theorem decI_is {base : Nat} {H : Heap} {v u : V} {z : Int} (h : decI v = some z) (t : Th base H v u) : isI H base u z ∧ (dig 4294967296 z.natAbs).length < 1000000 ∧ v.flat = true := by
  unfold decI at h
  split at h
  · rename_i s m
    split at h
    · rename_i l hl
      split at h
      · rename_i hc
        obtain ⟨h1, h2⟩ := hc
        simp at h; subst h
        simp only [Th, Ths] at t
        obtain ⟨_, rfl, _, _, rfl, rfl, u2, _, rfl, t2, rfl⟩ := t
        obtain ⟨s', rfl, r, f, hL, hm⟩ := decL_row hl t2
        rw [digK_eq (by decide)] at h1
        have ha : (sgn s (val 4294967296 l)).natAbs = val 4294967296 l := sgn_abs
        refine ⟨⟨s', ?_, by rw [ha, h1]; exact r, f⟩, by rw [ha, h1]; exact hm, ?_⟩
        · congr 3
          cases s with
          | false => simp [sgn]
          | true =>
            have := h2 rfl
            have h0 : val 4294967296 l ≠ 0 := by
              intro e; rw [e, dig_zero] at h1; exact this h1.symm
            simp [sgn]; omega
        · simp only [V.flat, V.flats, decL_flat hl]; rfl
      · cases h
    · cases h
  · cases h
theorem decR_is {base : Nat} {H : Heap} {v u : V} {n : Int} {d : Nat} (h : decR v = some (n, d)) (t : Th base H v u) : rawR H u n d 1000000 ∧ v.flat = true := by
  unfold decR at h
  split at h
  · rename_i s m e
    split at h
    · rename_i l q hl hq
      simp at h
      obtain ⟨rfl, rfl⟩ := h
      simp only [Th, Ths] at t
      obtain ⟨_, rfl, _, _, rfl, rfl, u2, _, rfl, t2, u3, _, rfl, t3, rfl⟩ := t
      obtain ⟨s', rfl, r, f, hL, hm⟩ := decL_row hl t2
      obtain ⟨s2, rfl, r2, f2, hL2, hm2⟩ := decL_row hq t3
      exact ⟨⟨_, s', s2, l, q, rfl, r, r2, hL, hL2, by omega, by omega, rfl, rfl⟩, by simp only [V.flat, V.flats, decL_flat hl, decL_flat hq]; rfl⟩
    · cases h
  · cases h
theorem decJ_is {base : Nat} {H : Heap} {v u : V} {z : Int} (h : decJ v = some z) (t : Th base H v u) : isJ H (fun i => base ≤ i) u z ∧ (dig 65536 z.natAbs).length < 1000000 ∧ v.flat = true := by
  unfold decJ at h
  split at h
  · rename_i s m
    split at h
    · rename_i l hl
      simp only at h
      split at h
      · rename_i hc
        obtain ⟨h1, h2, h3⟩ := hc
        simp at h
        simp only [Th, Ths] at t
        obtain ⟨_, rfl, _, _, rfl, rfl, u2, _, rfl, t2, rfl⟩ := t
        obtain ⟨s', rfl, r, f, hL, hm⟩ := decL_row hl t2
        rw [digK_eq (by decide)] at h1
        rw [h] at h2
        have ha : z.natAbs = val 65536 l := by
          have hs := sign_cases z
          rw [← h2] at hs
          rw [← h, Int.natAbs_mul, Int.natAbs_natCast]
          rcases hs with ⟨e, _⟩ | ⟨e, _⟩ | ⟨e, _⟩
          · rw [e]; simp
          · rw [h3 e]; simp [val_nil]
          · rw [e]; simp
        refine ⟨⟨s', by rw [h2], by rw [ha, h1]; exact r, f⟩, by rw [ha, h1]; exact hm, ?_⟩
        simp only [V.flat, V.flats, decL_flat hl]; rfl
      · cases h
    · cases h
  · cases h
theorem decK_is {base : Nat} {H : Heap} {v u : V} {n : Int} {d : Nat} (h : decK v = some (n, d)) (t : Th base H v u) : isK H (fun i => base ≤ i) u n d ∧ (dig 65536 n.natAbs).length < 1000000 ∧ (dig 65536 d).length < 1000000 ∧ v.flat = true := by
  unfold decK at h
  split at h
  · rename_i s m t' e
    split at h
    · rename_i n' d' hn hd
      split at h
      · rename_i hp
        simp at h
        obtain ⟨rfl, rfl⟩ := h
        simp only [Th, Ths] at t
        obtain ⟨_, rfl, _, _, rfl, rfl, u2, _, rfl, t2, _, _, rfl, rfl, u3, _, rfl, t3, rfl⟩ := t
        obtain ⟨a1, a2, a3⟩ := decJ_is (u := .agg [.int .i64 s, u2]) hn (by simp only [Th, Ths]; exact ⟨_, rfl, _, _, rfl, rfl, _, _, rfl, t2, rfl⟩)
        obtain ⟨b1, b2, b3⟩ := decJ_is (u := .agg [.int .i64 t', u3]) hd (by simp only [Th, Ths]; exact ⟨_, rfl, _, _, rfl, rfl, _, _, rfl, t3, rfl⟩)
        obtain ⟨σ, q, e1, _⟩ := a1.shape
        obtain ⟨τ, r, e2, _⟩ := b1.shape
        simp at e1 e2
        obtain ⟨rfl, rfl⟩ := e1
        obtain ⟨rfl, rfl⟩ := e2
        have hdn : (d'.toNat : Int) = d' := by omega
        have hdn2 : d'.toNat = d'.natAbs := by omega
        refine ⟨⟨_, _, _, _, rfl, a1, by rw [hdn]; exact b1, by omega⟩, a2, by rw [hdn2]; exact b2, ?_⟩
        simp only [V.flat, V.flats, Bool.and_eq_true] at a3 b3 ⊢
        exact ⟨trivial, a3.2.1, trivial, b3.2.1, trivial⟩
      · cases h
    · cases h
  · cases h
end Go.AM
end
section
set_option linter.unusedVariables false
set_option linter.unusedSimpArgs false
set_option maxRecDepth 1000000
namespace Go.AM
theorem look_mem {α : Type} {f : Nat} {t : α} : ∀ {l : List (Nat × α)}, l.lookup f = some t → (f, t) ∈ l
  | [], h => by cases h
  | (a, b) :: l, h => by
    rw [List.lookup_cons] at h
    split at h
    · rename_i he
      have : f = a := by simpa using he
      simp at h; subst h; subst this; exact List.mem_cons_self
    · exact List.mem_cons_of_mem _ (look_mem h)
theorem seat_mixed : P.follows .mixedOrders = true := by kernel_rfl
theorem seat_fns1 : tabList.all (fun p => okFun P p.1) = true := by kernel_rfl
theorem seat_fns : ∀ f tab, C.tabs f = some tab → okFun C.P f = true := fun f tab h => List.all_eq_true.1 seat_fns1 (f, tab) (look_mem h)
end Go.AM
end
