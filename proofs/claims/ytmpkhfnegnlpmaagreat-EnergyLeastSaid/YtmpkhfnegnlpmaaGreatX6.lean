/- Merged by program from: EsC EsD EsF EsG EsH EsI EsJ EsK EsL EsM EsN EsO EsP EsQ EsR EsS EsT EsU EsV EsW EsX EuA EuB EuC EuD EuE EuF AmArg2 AmLaw. -/
import Derived.WideShapes
import Derived.Test.YtmpkhfnegnlpmaaGreatX5
section
set_option linter.unusedVariables false
set_option linter.unusedSimpArgs false
set_option linter.unusedSimpArgs false
set_option linter.unusedVariables false
namespace Go.AM
attribute [local congr] bnd_weak ite_weak
theorem beqs_nums {k : IntKind} : ∀ {l : List Nat}, V.beqs (nums k l) (nums k l) = true
  | [] => rfl
  | x :: l => by
    have := beqs_nums (k := k) (l := l)
    simp only [nums, List.map_cons, V.beqs, V.beq] at this ⊢
    simp [this]
theorem encN_beq {k : IntKind} {l : List Nat} : V.beq (encN k l) (encN k l) = true := by
  unfold encN; split
  · simp [V.beq, V.beqs]
  · simp only [V.beq, beqs_nums]; simp
theorem natW_beq {x : Nat} : V.beq (natW x) (natW x) = true := encN_beq
theorem natD_beq {x : Nat} : V.beq (natD x) (natD x) = true := encN_beq
theorem chk_natW {x : Nat} : chk (some (natW x)) (natW x) = some () := by simp [chk, natW_beq]
theorem chk_natD {x : Nat} : chk (some (natD x)) (natD x) = some () := by simp [chk, natD_beq]
attribute [simp] natW_one natD_one natW_cells natD_cells natW_beq natD_beq chk_natW chk_natD natW_fro1 natD_fro1 natW_fro natD_fro natW_free natD_free
theorem free_agg {cs : List V} : (V.agg cs).free = V.frees cs := (Eq.refl _).trans (Eq.refl _)
theorem frees_cons {a : V} {cs : List V} : V.frees (a :: cs) = (a.free && V.frees cs) := (Eq.refl _).trans (Eq.refl _)
theorem frees_nil : V.frees [] = true := (Eq.refl _).trans (Eq.refl _)
theorem fro_agg {cs : List V} : (V.agg cs).fro = cs.all V.fro1 := (Eq.refl _).trans (Eq.refl _)
theorem fro1_bool {b : Bool} : (V.bool b).fro1 = true := (Eq.refl _).trans (Eq.refl _)
theorem fro1_int {k : IntKind} {b : Int} : (V.int k b).fro1 = true := (Eq.refl _).trans (Eq.refl _)
theorem free_bool {b : Bool} : (V.bool b).free = true := (Eq.refl _).trans (Eq.refl _)
theorem free_int {k : IntKind} {b : Int} : (V.int k b).free = true := (Eq.refl _).trans (Eq.refl _)
attribute [simp] free_agg frees_cons frees_nil fro_agg fro1_bool fro1_int free_bool free_int
theorem beqs_cons {a b : V} {x y : List V} : V.beqs (a :: x) (b :: y) = (a.beq b && V.beqs x y) := by simp [V.beqs]
theorem beqs_nil : V.beqs [] [] = true := by simp [V.beqs]
theorem chk_aggb {l : List V} : chk (some (.agg l)) (.agg l) = cond (V.beqs l l) (some ()) none := by
  have e : V.beq (.agg l) (.agg l) = V.beqs l l := by simp [V.beq]
  unfold chk
  simp only [Option.bind_some]
  rw [e]
  generalize V.beqs l l = x
  cases x <;> rfl
attribute [simp] beqs_cons beqs_nil chk_aggb
def FzL (H : Heap) (vs us : List V) : Prop := ∃ ids, frzL (frzV H 5) vs = some (us, ids)
theorem FzL.nil {H : Heap} : FzL H [] [] := ⟨[], rfl⟩
theorem FzL.fro {H : Heap} {v : V} {vs us : List V} (h : v.fro1 = true) (t : FzL H vs us) : FzL H (v :: vs) (v :: us) := by
  obtain ⟨ids, e⟩ := t
  exact ⟨ids, by simp only [frzL, frzV_fro1 (d := 4) h, e]; simp⟩
theorem FzL.row {H : Heap} {k : IntKind} {s : Sl} {l : List Nat} {vs us : List V} (r : Row H k s l) (t : FzL H vs us) : FzL H (.slice s :: vs) (encN k l :: us) := by
  obtain ⟨ids, e⟩ := t
  obtain ⟨ids2, e2, _⟩ := frz_row (H := H) (d := 3) (base := 0) r (fun _ _ => Nat.zero_le _)
  exact ⟨ids2 ++ ids, by simp only [frzL, e2, e]⟩
theorem Tot.fa {H : Heap} {vs us : List V} {Q : V → Heap → Prop} (t : FzL H vs us) (q : ∀ H', Q (.agg us) H') : Tot (fun _ => frzR (.agg vs) H) Q := by
  obtain ⟨ids, e⟩ := t
  refine ⟨.agg us, killL ids H, q _, 0, fun _ _ => ?_⟩
  unfold frzR frzV
  simp only [e]
theorem lit_row {H : Heap} {k : IntKind} {l : List Nat} {i e n : Nat} {r f : Bool} (hi : i < H.n) (hg : H.get i = .cells (nums k l) e r) (hn : n = l.length) : Row H k ⟨some (i, 0), n, 1, f⟩ l := by
  subst hn; exact Row.new hi hg
theorem natW_one' : encN .u32 [1] = natW 1 := by
  have : digK 4294967296 1 = [1] := by decide
  unfold natW; rw [this]
namespace N
variable {H : Heap}
theorem rat_neg_N {q : Rat} {k : Nat} (h : Bq k q) (hk : k < 1000000) : Gv (fun n => f_rat_neg n [ratQ q] H) (ratQ (-q)) H := by
  refine rat_neg_tot (all1 ratW_fro) (fre1 ratW_free) ?_
  simp only [rat_neg_b, ratQ, ratW]
  repeat (first | refine Tot.autoP ?_ | refine Tot.autoC ?_ | fail)
  refine Gv.bind (whole_Neg_N (szW_of h.1 hk)) ?_
  dsimp only [intW]
  repeat (first | refine Tot.autoP ?_ | refine Tot.autoC ?_ | fail)
  exact Tot.rf (by simp) (by simp [ratQ, ratW])
theorem rat_plain_N {x : Nat} : Gv (fun n => f_rat_plain n [natW x] H) (intW x) H := by
  refine rat_plain_tot (all1 natW_fro) (fre1 natW_free) ?_
  simp only [rat_plain_b]
  repeat (first | refine Tot.autoP ?_ | refine Tot.autoC ?_ | fail)
  exact Tot.rf (by simp) (by simp [intW])
theorem rat_cross_N {p q : Rat} {k m : Nat} (h : Bq k p) (h' : Bq m q) (hk : k < 1000000) (hm : m < 1000000) : Gv (fun n => f_rat_cross n [ratQ p, ratQ q] H) (intW (p.num * q.den)) H := by
  refine rat_cross_tot (all2 ratW_fro ratW_fro) (fre2 ratW_free ratW_free) ?_
  simp only [rat_cross_b, ratQ, ratW]
  repeat (first | refine Tot.autoP ?_ | refine Tot.autoC ?_ | fail)
  refine Gv.bind rat_plain_N ?_
  dsimp only [intW]
  repeat (first | refine Tot.autoP ?_ | refine Tot.autoC ?_ | fail)
  refine Gv.bind (whole_Mul_N (x := p.num) (y := (q.den : Int)) (szW_of h.1 hk) (by rw [Int.natAbs_natCast]; exact szW_of h'.2 hm)) ?_
  dsimp only [intW]
  repeat (first | refine Tot.autoP ?_ | refine Tot.autoC ?_ | fail)
  exact Tot.rf (by simp) (by simp)
theorem rat_add_N {p q : Rat} {k m : Nat} (h : Bq k p) (h' : Bq m q) (hk : k < 400000) (hm : m < 400000) : Gv (fun n => f_rat_add n [ratQ p, ratQ q] H) (ratQ (p + q)) H := by
  refine rat_add_tot (all2 ratW_fro ratW_fro) (fre2 ratW_free ratW_free) ?_
  simp only [rat_add_b, ratQ, ratW]
  repeat (first | refine Tot.autoP ?_ | refine Tot.autoC ?_ | fail)
  refine Gv.bind (rat_cross_N h h' (by omega) (by omega)) ?_
  dsimp only
  repeat (first | refine Tot.autoP ?_ | refine Tot.autoC ?_ | fail)
  refine Gv.bind (rat_cross_N h' h (by omega) (by omega)) ?_
  dsimp only
  have a := lt_mul2 h.1 h'.2
  have b := lt_mul2 h'.1 h.2
  have c := lt_mul2 h.2 h'.2
  have e1 : (p.num * (q.den : Int)).natAbs = p.num.natAbs * q.den := by rw [Int.natAbs_mul, Int.natAbs_natCast]
  have e2 : (q.num * (p.den : Int)).natAbs = q.num.natAbs * p.den := by rw [Int.natAbs_mul, Int.natAbs_natCast]
  refine Gv.bind (whole_Add_N (szW_of (by rw [e1]; exact a) (by omega)) (szW_of (by rw [e2]; exact b) (by omega))) ?_
  dsimp only
  repeat (first | refine Tot.autoP ?_ | refine Tot.autoC ?_ | fail)
  refine Gv.bind (nat_Mul_N (szW_of h.2 (by omega)) (szW_of h'.2 (by omega))) ?_
  dsimp only
  have t := Int.natAbs_add_le (p.num * q.den) (q.num * p.den)
  have e3 : 2 ^ (k + m + 1) = 2 ^ (k + m) + 2 ^ (k + m) := by rw [Nat.pow_succ]; omega
  rw [Nat.add_comm m k] at b
  refine Gv.bind (rat_lowest_N (szW_of (k := k + m + 1) (by omega) (by omega)) (szW_of c (by omega))) ?_
  dsimp only [ratQ, ratW]
  repeat (first | refine Tot.autoP ?_ | refine Tot.autoC ?_ | fail)
  exact Tot.rf (by simp) (by simp [Rat.add_def'])
theorem rat_Add_N {p q : Rat} {k m : Nat} (h : Bq k p) (h' : Bq m q) (hk : k < 400000) (hm : m < 400000) : Gv (fun n => f_rat_Add n [ratQ p, ratQ q] H) (ratQ (p + q)) H := by
  refine rat_Add_tot (all2 ratW_fro ratW_fro) (fre2 ratW_free ratW_free) ?_
  simp only [rat_Add_b, ratQ, ratW]
  repeat (first | refine Tot.autoP ?_ | refine Tot.autoC ?_ | fail)
  refine Gv.bind (rat_norm_N (szW_of h.1 (by omega)) (szW_of h.2 (by omega))) ?_
  dsimp only [Rat.mkRat_self]
  repeat (first | refine Tot.autoP ?_ | refine Tot.autoC ?_ | fail)
  refine Gv.bind (rat_norm_N (szW_of h'.1 (by omega)) (szW_of h'.2 (by omega))) ?_
  rw [Rat.mkRat_self, Rat.mkRat_self]
  refine Gv.bind (rat_add_N h h' hk hm) ?_
  dsimp only [ratQ, ratW]
  repeat (first | refine Tot.autoP ?_ | refine Tot.autoC ?_ | fail)
  exact Tot.rf (by simp) (by simp)
theorem rat_Sub_N {p q : Rat} {k m : Nat} (h : Bq k p) (h' : Bq m q) (hk : k < 400000) (hm : m < 400000) : Gv (fun n => f_rat_Sub n [ratQ p, ratQ q] H) (ratQ (p - q)) H := by
  refine rat_Sub_tot (all2 ratW_fro ratW_fro) (fre2 ratW_free ratW_free) ?_
  simp only [rat_Sub_b, ratQ, ratW]
  repeat (first | refine Tot.autoP ?_ | refine Tot.autoC ?_ | fail)
  refine Gv.bind (rat_norm_N (szW_of h.1 (by omega)) (szW_of h.2 (by omega))) ?_
  dsimp only
  repeat (first | refine Tot.autoP ?_ | refine Tot.autoC ?_ | fail)
  refine Gv.bind (rat_norm_N (szW_of h'.1 (by omega)) (szW_of h'.2 (by omega))) ?_
  rw [Rat.mkRat_self, Rat.mkRat_self]
  refine Gv.bind (rat_neg_N h' (by omega)) ?_
  dsimp only
  refine Gv.bind (rat_add_N h h'.neg hk hm) ?_
  rw [← Rat.sub_eq_add_neg]
  dsimp only [ratQ, ratW]
  repeat (first | refine Tot.autoP ?_ | refine Tot.autoC ?_ | fail)
  exact Tot.rf (by simp) (by simp)
theorem rat_Of_N {z : Int} (hz : -9223372036854775808 ≤ z ∧ z ≤ 9223372036854775807) : Gv (fun n => f_rat_Of n [.int .i64 z] H) (ratQ z) H := by
  refine rat_Of_tot rfl rfl ?_
  simp only [rat_Of_b]
  refine Gv.bind (whole_Of_N hz) ?_
  dsimp only [intW]
  have hb1 : bSl 1 ty_uint32 [.int .u32 0] 1 [(0, .int .u32 1)] = some (.cells (nums .u32 [1]) ty_uint32 false) := by simp [bSl, rowA]
  refine Tot.pure hb1 ?_
  repeat (first | refine Tot.autoP ?_ | refine Tot.autoC ?_ | fail)
  refine Tot.fa (FzL.fro (by simp) (FzL.fro (by simp) (FzL.row (lit_row (l := [1]) (k := .u32) (e := ty_uint32) (r := false) (by simp) (by simp (disch := first | omega | (simp only [npz, nsz, nmz] <;> omega) | (simp <;> omega) | fail) [lhz, lgz, sgz, faA_mk, boxA_agg, Heap.gqz, Heap.gpz, Heap.gtz, Heap.gsz, gmz, npz, nsz, nmz, chk_agg, ]) rfl) FzL.nil))) fun H' => ?_
  rw [natW_one']
  exact ⟨by simp, by simp [ratQ, ratW] <;> first | rfl | exact decide_eq_decide.2 Iff.rfl⟩
end N
end Go.AM
end
section
set_option linter.unusedVariables false
set_option linter.unusedSimpArgs false
set_option linter.unusedSimpArgs false
set_option linter.unusedVariables false
set_option maxRecDepth 100000
namespace Go.AM
theorem Gv.pcall {f : Nat → List V → Heap → Option R} {k : Nat → List V → Option R} (he : ∀ n a H, f (n + 1) a H = pureA a H (k n)) {args args' : List V} {H H' : Heap} {u : V}
    (h1 : frzAs args H = some (args', H')) (h2 : args'.all V.fro = true) (h : Gv (fun n => f n args' H') u H') : Gv (fun n => f n args H) u H' := by
  obtain ⟨v, G, q, n0, hn⟩ := h
  refine ⟨v, G, q, n0 + 1, fun n hle => ?_⟩
  obtain ⟨m, rfl⟩ : ∃ m, n = m + 1 := ⟨n - 1, by omega⟩
  have := hn (m + 1) (by omega)
  simp only [he] at this ⊢
  unfold pureA at this ⊢
  rw [frzAs_fro h2] at this
  rw [h1]
  exact this
theorem Gv.pbind {f : Nat → List V → Heap → Option R} {k : Nat → List V → Option R} (he : ∀ n a H, f (n + 1) a H = pureA a H (k n)) {args args' : List V} {H H' : Heap} {u : V} {kk : Nat → R → Option R} {Q : V → Heap → Prop}
    (h1 : frzAs args H = some (args', H')) (h2 : args'.all V.fro = true) (h : Gv (fun n => f n args' H') u H') (hk : Tot (fun n => kk n (u, H')) Q) : Tot (fun n => bnd (f n args H) (kk n)) Q :=
  Tot.bind (Gv.pcall he h1 h2 h) fun v G ⟨e1, e2⟩ => by subst e1 e2; exact hk
theorem frz_own {H : Heap} {i n s : Nat} {f r : Bool} {cs : List V} {e : TypeId} (hg : H.get i = .cells cs e r) (hc : cs.all V.fro1 = true) (hl : cs.length = n * s) (h0 : n ≠ 0) :
    frzAs [.slice ⟨some (i, 0), n, s, f⟩] H = some ([.list n s cs], H.set i (.cells cs e true)) := by
  have ht : (cs.drop 0).take (n * s) = cs := by rw [List.drop_zero, ← hl, List.take_length]
  have h1 : frzV H 6 (.slice ⟨some (i, 0), n, s, f⟩) = some (.list n s cs, [i]) := by
    unfold frzV
    simp only [if_neg h0, hg, ht, frzL_fro1 (d := 4) hc, Nat.zero_add]
    rw [if_pos (by omega)]
  unfold frzAs
  simp only [frzL, h1, List.append_nil, killL, hg, O.fix]
theorem bool_fro1 {b : Bool} : (V.bool b).fro1 = true := rfl
def spotQ (p q : Rat) : V := .agg [.bool (decide (p.num < 0)), natW p.num.natAbs, natW p.den, .bool (decide (q.num < 0)), natW q.num.natAbs, natW q.den]
theorem spotQ_fro {p q : Rat} : (spotQ p q).fro = true := by simp [spotQ, V.fro, natW_fro1, bool_fro1]
theorem spotQ_free {p q : Rat} : (spotQ p q).free = true := by simp [spotQ, V.free, V.frees]
namespace N
variable {H : Heap}
end N
def rows3 (a b c : Rat) : List V := [.bool (decide (a.num < 0)), natW a.num.natAbs, natW a.den, .bool (decide (b.num < 0)), natW b.num.natAbs, natW b.den, .bool (decide (c.num < 0)), natW c.num.natAbs, natW c.den]
theorem rows3_fro {a b c : Rat} : (rows3 a b c).all V.fro1 = true := by simp [rows3, natW_fro1, bool_fro1]
theorem list_fro {n s : Nat} {cs : List V} : (V.list n s cs).fro = true := rfl
theorem rows3_free {a b c : Rat} {n s : Nat} : (V.list n s (rows3 a b c)).free = true := by simp [rows3, V.free, V.frees]
theorem Bq.zero : Bq 1 0 := by constructor <;> decide
namespace N
variable {H : Heap}
theorem energy_sum_N {a b c : Rat} {k : Nat} (ha : Bq k a) (hb : Bq k b) (hc : Bq k c) (hk : k < 100000) :
    Gv (fun n => f_energy_sum n [.list 3 3 (rows3 a b c)] H) (ratQ (a + b + c)) H := by
  refine energy_sum_tot (all1 list_fro) (fre1 rows3_free) ?_
  simp only [energy_sum_b]
  refine Gv.bind (rat_Of_N (by omega)) ?_
  dsimp only [ratQ, ratW]
  repeat (first | refine Tot.autoP ?_ | refine Tot.autoC ?_ | fail)
  refine energy_sum.l0_tot Big.id fun m1 hb1 => ?_
  simp only [energy_sum.l0_b, rows3]
  repeat (first | refine Tot.autoP ?_ | refine Tot.autoC ?_ | fail)
  refine Gv.bind (rat_Add_N (p := ((0 : Int) : Rat)) (q := a) Bq.zero ha (by omega) (by omega)) ?_
  have a1 := Bq.add Bq.zero ha
  dsimp only [ratQ, ratW]
  repeat (first | refine Tot.autoP ?_ | refine Tot.autoC ?_ | fail)
  refine energy_sum.l0_tot hb1 fun m2 hb2 => ?_
  simp only [energy_sum.l0_b]
  repeat (first | refine Tot.autoP ?_ | refine Tot.autoC ?_ | fail)
  refine Gv.bind (rat_Add_N (p := 0 + a) (q := b) a1 hb (by omega) (by omega)) ?_
  have a2 := Bq.add a1 hb
  dsimp only [ratQ, ratW]
  repeat (first | refine Tot.autoP ?_ | refine Tot.autoC ?_ | fail)
  refine energy_sum.l0_tot hb2 fun m3 hb3 => ?_
  simp only [energy_sum.l0_b]
  repeat (first | refine Tot.autoP ?_ | refine Tot.autoC ?_ | fail)
  refine Gv.bind (rat_Add_N (p := 0 + a + b) (q := c) a2 hc (by omega) (by omega)) ?_
  dsimp only [ratQ, ratW]
  repeat (first | refine Tot.autoP ?_ | refine Tot.autoC ?_ | fail)
  refine energy_sum.l0_tot hb3 fun m4 hb4 => ?_
  simp only [energy_sum.l0_b]
  repeat (first | refine Tot.autoP ?_ | refine Tot.autoC ?_ | fail)
  refine Tot.rf (by simp [V.fro, natW_fro1, bool_fro1]) ?_
  rw [Rat.zero_add]
  simp [V.free, V.frees]
end N
end Go.AM
end
section
set_option linter.unusedVariables false
set_option linter.unusedSimpArgs false
set_option linter.unusedSimpArgs false
set_option linter.unusedVariables false
set_option maxRecDepth 100000
namespace Go.AM
def partQ (x y u v : Rat) : Rat := (x * v - y * u) * ((x * x + x * u + u * u) + (y * y + y * v + v * v))
theorem bSl_rows3 {a b c : Rat} : bSl 3 ty_api_Rat [.bool false, .slice ⟨none, 0, 0, false⟩, .slice ⟨none, 0, 0, false⟩] 3 [(0, .agg [.bool (decide (a.num < 0)), natW a.num.natAbs, natW a.den]), (1, .agg [.bool (decide (b.num < 0)), natW b.num.natAbs, natW b.den]), (2, .agg [.bool (decide (c.num < 0)), natW c.num.natAbs, natW c.den])] = some (.cells (rows3 a b c) ty_api_Rat false) := by
  simp [bSl, rowA, rows3, natW_one]
namespace N
variable {H : Heap}
theorem energy_part_N {x y u v : Rat} {k : Nat} (hx : Bq k x) (hy : Bq k y) (hu : Bq k u) (hv : Bq k v) (h0 : 0 < k) (hk : k < 5000) :
    Gv (fun n => f_energy_part n [spotQ x y, spotQ u v] H) (ratQ (partQ x y u v)) H := by
  refine energy_part_tot (all2 spotQ_fro spotQ_fro) (fre2 spotQ_free spotQ_free) ?_
  simp only [energy_part_b, spotQ]
  repeat (first | refine Tot.autoP ?_ | refine Tot.autoC ?_ | fail)
  refine Gv.bind (rat_Mul_N hx hv (by omega) (by omega)) ?_
  dsimp only [ratQ, ratW]
  repeat (first | refine Tot.autoP ?_ | refine Tot.autoC ?_ | fail)
  refine Gv.bind (rat_Mul_N hy hu (by omega) (by omega)) ?_
  dsimp only [ratQ, ratW]
  refine Gv.bind (rat_Sub_N (p := x * v) (q := y * u) (hx.mul hv h0) (hy.mul hu h0) (by omega) (by omega)) ?_
  dsimp only [ratQ, ratW]
  repeat (first | refine Tot.autoP ?_ | refine Tot.autoC ?_ | fail)
  refine Gv.bind (rat_Mul_N hx hx (by omega) (by omega)) ?_
  dsimp only [ratQ, ratW]
  repeat (first | refine Tot.autoP ?_ | refine Tot.autoC ?_ | fail)
  refine Gv.bind (rat_Mul_N hx hu (by omega) (by omega)) ?_
  dsimp only [ratQ, ratW]
  repeat (first | refine Tot.autoP ?_ | refine Tot.autoC ?_ | fail)
  refine Gv.bind (rat_Mul_N hu hu (by omega) (by omega)) ?_
  dsimp only [ratQ, ratW]
  repeat (first | refine Tot.autoP ?_ | refine Tot.autoC ?_ | fail)
  refine Tot.pure bSl_rows3 ?_
  refine Gv.pbind energy_sum_in (frz_own (cs := rows3 (x * x) (x * u) (u * u)) (e := ty_api_Rat) (r := false) ?_ rows3_fro rfl (by decide)) (all1 list_fro) (energy_sum_N (hx.mul hx h0) (hx.mul hu h0) (hu.mul hu h0) (by omega)) ?_
  · simp (disch := first | omega | (simp only [npz, nsz, nmz] <;> omega) | (simp <;> omega) | fail) [lhz, lgz, sgz, faA_mk, boxA_agg, Heap.gqz, Heap.gpz, Heap.gtz, Heap.gsz, gmz, npz, nsz, nmz, chk_agg, rows3]
  dsimp only [ratQ, ratW]
  repeat (first | refine Tot.autoP ?_ | refine Tot.autoC ?_ | fail)
  refine Gv.bind (rat_Mul_N hy hy (by omega) (by omega)) ?_
  dsimp only [ratQ, ratW]
  repeat (first | refine Tot.autoP ?_ | refine Tot.autoC ?_ | fail)
  refine Gv.bind (rat_Mul_N hy hv (by omega) (by omega)) ?_
  dsimp only [ratQ, ratW]
  repeat (first | refine Tot.autoP ?_ | refine Tot.autoC ?_ | fail)
  refine Gv.bind (rat_Mul_N hv hv (by omega) (by omega)) ?_
  dsimp only [ratQ, ratW]
  refine Tot.pure bSl_rows3 ?_
  refine Gv.pbind energy_sum_in (frz_own (cs := rows3 (y * y) (y * v) (v * v)) (e := ty_api_Rat) (r := false) ?_ rows3_fro rfl (by decide)) (all1 list_fro) (energy_sum_N (hy.mul hy h0) (hy.mul hv h0) (hv.mul hv h0) (by omega)) ?_
  · simp (disch := first | omega | (simp only [npz, nsz, nmz] <;> omega) | (simp <;> omega) | fail) [lhz, lgz, sgz, faA_mk, boxA_agg, Heap.gqz, Heap.gpz, Heap.gtz, Heap.gsz, gmz, npz, nsz, nmz, chk_agg, rows3]
  dsimp only [ratQ, ratW]
  repeat (first | refine Tot.autoP ?_ | refine Tot.autoC ?_ | fail)
  have b1 := ((hx.mul hx h0).add (hx.mul hu h0)).add (hu.mul hu h0)
  have b2 := ((hy.mul hy h0).add (hy.mul hv h0)).add (hv.mul hv h0)
  refine Gv.bind (rat_Add_N b1 b2 (by omega) (by omega)) ?_
  dsimp only [ratQ, ratW]
  repeat (first | refine Tot.autoP ?_ | refine Tot.autoC ?_ | fail)
  refine Gv.bind (rat_Mul_N (p := x * v - y * u) ((hx.mul hv h0).sub (hy.mul hu h0)) (b1.add b2) (by omega) (by omega)) ?_
  dsimp only [ratQ, ratW]
  repeat (first | refine Tot.autoP ?_ | refine Tot.autoC ?_ | fail)
  exact Tot.rf (by simp [V.fro, natW_fro1, bool_fro1]) (by simp [V.free, V.frees, partQ] <;> first | rfl | exact decide_eq_decide.2 Iff.rfl)
end N
end Go.AM
end
section
set_option linter.unusedVariables false
set_option linter.unusedSimpArgs false
set_option linter.unusedSimpArgs false
set_option linter.unusedVariables false
set_option maxRecDepth 100000
namespace Go.AM
def rawL (s : Bool) (l q : List Nat) : V := .agg [.bool s, encN .u32 l, encN .u32 q]
def rawQ (s : Bool) (l q : List Nat) : Rat := mkRat (sgn s (val 4294967296 l)) (val 4294967296 q)
structure Raw (l q : List Nat) : Prop where
  l1 : Lim 4294967296 l
  l2 : Lim 4294967296 q
  l3 : l.length ≤ 2
  l4 : q.length ≤ 1
theorem decR_raw {s : Bool} {l q : List Nat} (h : Raw l q) : decR (rawL s l q) = some (sgn s (val 4294967296 l), val 4294967296 q) := by
  have := h.l3
  have := h.l4
  simp only [rawL, decR, decL_enc h.l1 (by omega), decL_enc h.l2 (by omega)]
theorem rawL_fro {s : Bool} {l q : List Nat} : (rawL s l q).fro = true := by simp [rawL, V.fro, encN_fro1, bool_fro1]
theorem rawL_free {s : Bool} {l q : List Nat} : (rawL s l q).free = true := by simp [rawL, V.free, V.frees, encN_free]
theorem rawQ_B {s : Bool} {l q : List Nat} (h : Raw l q) : Bq 64 (rawQ s l q) := by
  have h1 := val_lt h.l1
  have h2 := val_lt h.l2
  have e1 : 4294967296 ^ l.length ≤ 4294967296 ^ 2 := Nat.pow_le_pow_right (by decide) h.l3
  have e2 : 4294967296 ^ q.length ≤ 4294967296 ^ 2 := Nat.pow_le_pow_right (by decide) (by have := h.l4; omega)
  have e3 : 4294967296 ^ 2 = 2 ^ 64 := by decide
  refine Bq.mk ?_ ?_ (by decide)
  · rw [sgn_abs]; omega
  · omega
namespace N
variable {H : Heap}
theorem rat_norm_raw {s : Bool} {l q : List Nat} (h : Raw l q) : Gv (fun m => f_rat_norm m [rawL s l q] H) (ratQ (rawQ s l q)) H :=
  rat_norm_ext (ext_tot (all1 rawL_fro) (by simp only [dR, decR_raw h]; rfl) ⟨rfl, by simp only [ratQ, low_mk, rawQ]⟩)
theorem rat_Sub_raw {s t : Bool} {l q l' q' : List Nat} (h : Raw l q) (h' : Raw l' q') : Gv (fun n => f_rat_Sub n [rawL s l q, rawL t l' q'] H) (ratQ (rawQ s l q - rawQ t l' q')) H := by
  refine rat_Sub_tot (all2 rawL_fro rawL_fro) (fre2 rawL_free rawL_free) ?_
  simp only [rat_Sub_b, rawL]
  repeat (first | refine Tot.pure (by simp (disch := first | omega | (simp only [npz, nsz, nmz] <;> omega) | fail) [lhz, lgz, sgz, boxA, gz, gs, Heap.gqz, Heap.gpz, Heap.gtz, Heap.gsz, gmz, npz, nsz, nmz, encN_one, encN_cells, encN_beq]; try exact rfl) ?_ | refine Tot.chk (by simp (disch := first | omega | (simp only [npz, nsz, nmz] <;> omega) | fail) [lhz, lgz, sgz, boxA, gz, gs, Heap.gqz, Heap.gpz, Heap.gtz, Heap.gsz, gmz, npz, nsz, nmz, encN_one, encN_cells, encN_beq]; done) ?_ | fail)
  refine Gv.bind (rat_norm_raw h) ?_
  dsimp only
  repeat (first | refine Tot.pure (by simp (disch := first | omega | (simp only [npz, nsz, nmz] <;> omega) | fail) [lhz, lgz, sgz, boxA, gz, gs, Heap.gqz, Heap.gpz, Heap.gtz, Heap.gsz, gmz, npz, nsz, nmz, encN_one, encN_cells, encN_beq]; try exact rfl) ?_ | refine Tot.chk (by simp (disch := first | omega | (simp only [npz, nsz, nmz] <;> omega) | fail) [lhz, lgz, sgz, boxA, gz, gs, Heap.gqz, Heap.gpz, Heap.gtz, Heap.gsz, gmz, npz, nsz, nmz, encN_one, encN_cells, encN_beq]; done) ?_ | fail)
  refine Gv.bind (rat_norm_raw h') ?_
  refine Gv.bind (rat_neg_N (rawQ_B h') (by omega)) ?_
  dsimp only
  refine Gv.bind (rat_add_N (rawQ_B h) (rawQ_B h').neg (by omega) (by omega)) ?_
  rw [← Rat.sub_eq_add_neg]
  dsimp only [ratQ, ratW]
  repeat (first | refine Tot.autoP ?_ | refine Tot.autoC ?_ | fail)
  exact Tot.rf (by simp) (by simp)
def spotR (s : Bool) (l q : List Nat) (t : Bool) (l' q' : List Nat) : V := .agg [.bool s, encN .u32 l, encN .u32 q, .bool t, encN .u32 l', encN .u32 q']
theorem spotR_fro {s t : Bool} {l q l' q' : List Nat} : (spotR s l q t l' q').fro = true := by simp [spotR, V.fro, encN_fro1, bool_fro1]
theorem spotR_free {s t : Bool} {l q l' q' : List Nat} : (spotR s l q t l' q').free = true := by simp [spotR, V.free, V.frees, encN_free]
theorem energy_seen_raw {s1 s2 s3 s4 : Bool} {l1 q1 l2 q2 l3 q3 l4 q4 : List Nat} (h1 : Raw l1 q1) (h2 : Raw l2 q2) (h3 : Raw l3 q3) (h4 : Raw l4 q4) :
    Gv (fun n => f_energy_seen n [spotR s1 l1 q1 s2 l2 q2, spotR s3 l3 q3 s4 l4 q4] H) (spotQ (rawQ s1 l1 q1 - rawQ s3 l3 q3) (rawQ s2 l2 q2 - rawQ s4 l4 q4)) H := by
  refine energy_seen_tot (all2 spotR_fro spotR_fro) (fre2 spotR_free spotR_free) ?_
  simp only [energy_seen_b, spotR]
  repeat (first | refine Tot.pure (by simp (disch := first | omega | (simp only [npz, nsz, nmz] <;> omega) | fail) [lhz, lgz, sgz, boxA, gz, gs, Heap.gqz, Heap.gpz, Heap.gtz, Heap.gsz, gmz, npz, nsz, nmz, encN_one, encN_cells, encN_beq]; try exact rfl) ?_ | refine Tot.chk (by simp (disch := first | omega | (simp only [npz, nsz, nmz] <;> omega) | fail) [lhz, lgz, sgz, boxA, gz, gs, Heap.gqz, Heap.gpz, Heap.gtz, Heap.gsz, gmz, npz, nsz, nmz, encN_one, encN_cells, encN_beq]; done) ?_ | fail)
  refine Gv.bind (rat_Sub_raw h1 h3) ?_
  dsimp only [ratQ, ratW]
  repeat (first | refine Tot.pure (by simp (disch := first | omega | (simp only [npz, nsz, nmz] <;> omega) | fail) [lhz, lgz, sgz, boxA, gz, gs, Heap.gqz, Heap.gpz, Heap.gtz, Heap.gsz, gmz, npz, nsz, nmz, encN_one, encN_cells, encN_beq]; try exact rfl) ?_ | refine Tot.chk (by simp (disch := first | omega | (simp only [npz, nsz, nmz] <;> omega) | fail) [lhz, lgz, sgz, boxA, gz, gs, Heap.gqz, Heap.gpz, Heap.gtz, Heap.gsz, gmz, npz, nsz, nmz, encN_one, encN_cells, encN_beq]; done) ?_ | fail)
  refine Gv.bind (rat_Sub_raw h2 h4) ?_
  dsimp only [ratQ, ratW]
  repeat (first | refine Tot.autoP ?_ | refine Tot.autoC ?_ | fail)
  exact Tot.rf (by simp [V.fro, natW_fro1, bool_fro1]) (by simp [V.free, V.frees, spotQ])
end N
end Go.AM
end
section
set_option linter.unusedVariables false
set_option linter.unusedSimpArgs false
set_option linter.unusedSimpArgs false
set_option linter.unusedVariables false
set_option maxRecDepth 100000
namespace Go.AM
structure Spt where
  s : Bool
  l : List Nat
  q : List Nat
  t : Bool
  m : List Nat
  r : List Nat
structure Spt.ok (p : Spt) : Prop where
  x : Raw p.l p.q
  y : Raw p.m p.r
def Spt.cells (p : Spt) : List V := [.bool p.s, encN .u32 p.l, encN .u32 p.q, .bool p.t, encN .u32 p.m, encN .u32 p.r]
def Spt.x (p : Spt) : Rat := rawQ p.s p.l p.q
def Spt.y (p : Spt) : Rat := rawQ p.t p.m p.r
def rowS (L : List Spt) : V := if L.length = 0 then .list 0 0 [] else .list L.length 6 (L.flatMap Spt.cells)
theorem drop6 : ∀ (L : List Spt) (i : Nat) (h : i < L.length), ((L.flatMap Spt.cells).drop (i * 6)).take 6 = L[i].cells ∧ 6 ≤ ((L.flatMap Spt.cells).drop (i * 6)).length
  | p :: L, 0, h => by simp [Spt.cells]
  | p :: L, i + 1, h => by
    have := drop6 L i (by simpa using h)
    have e : (i + 1) * 6 = 6 + i * 6 := by omega
    have e2 : p.cells.length = 6 := rfl
    have e3 : (p.cells ++ L.flatMap Spt.cells).drop 6 = L.flatMap Spt.cells := by rw [← e2, List.drop_left]
    rw [List.flatMap_cons, e, ← List.drop_drop, e3]
    simpa using this
theorem idxS_row {L : List Spt} {i : Nat} (h : i < L.length) : idxS 6 (rowS L) (.int .i64 (i : Int)) = some (.lptr ((L.flatMap Spt.cells).drop (i * 6))) := by
  unfold rowS
  rw [if_neg (by omega)]
  simp only [idxS, Int.toNat_natCast]
  rw [if_pos (by constructor <;> simp <;> omega)]
theorem ldN_row {L : List Spt} {i : Nat} (h : i < L.length) {H : Heap} : ldN 6 (.lptr ((L.flatMap Spt.cells).drop (i * 6))) H = some (.agg L[i].cells) := by
  obtain ⟨h1, h2⟩ := drop6 L i h
  simp only [ldN, if_pos h2, h1]
theorem lenSl_row {L : List Spt} (h : L.length < 1000) : lenSl (rowS L) = some (.int .i64 (L.length : Int)) := by
  unfold rowS
  split
  · simp_all [lenSl]
  · simp_all [lenSl]
theorem flat_fro : ∀ L : List Spt, (L.flatMap Spt.cells).all V.fro1 = true ∧ V.frees (L.flatMap Spt.cells) = true
  | [] => ⟨rfl, rfl⟩
  | p :: L => by
    have := flat_fro L
    simp only [List.flatMap_cons, Spt.cells, List.cons_append, List.nil_append, List.all_cons, frees_cons]
    simp [encN_fro1, encN_free, this]
theorem rowS_fro {L : List Spt} : (rowS L).fro = true := by unfold rowS; split <;> rfl
theorem rowS_free {L : List Spt} : (rowS L).free = true := by
  unfold rowS; split
  · simp [V.free, V.frees]
  · simp [V.free, (flat_fro L).2]
instance : Inhabited Spt := ⟨⟨false, [], [], false, [], []⟩⟩
def momTo (L : List Spt) (c : Spt) : Nat → Rat
  | 0 => 0
  | i + 1 => momTo L c i + partQ ((L[i]!).x - c.x) ((L[i]!).y - c.y) ((L[(i + 1) % L.length]!).x - c.x) ((L[(i + 1) % L.length]!).y - c.y)
theorem Spt.ok.dx {p c : Spt} (h : p.ok) (k : c.ok) : Bq 129 (p.x - c.x) := (rawQ_B h.x).sub (rawQ_B k.x)
theorem Spt.ok.dy {p c : Spt} (h : p.ok) (k : c.ok) : Bq 129 (p.y - c.y) := (rawQ_B h.y).sub (rawQ_B k.y)
theorem partQ_B {x y u v : Rat} {k : Nat} (hx : Bq k x) (hy : Bq k y) (hu : Bq k u) (hv : Bq k v) (h0 : 0 < k) : Bq (16 * k + 6) (partQ x y u v) := by
  have b1 := ((hx.mul hx h0).add (hx.mul hu h0)).add (hu.mul hu h0)
  have b2 := ((hy.mul hy h0).add (hy.mul hv h0)).add (hv.mul hv h0)
  exact (((hx.mul hv h0).sub (hy.mul hu h0)).mul (b1.add b2) (by omega)).mono (by omega)
theorem momTo_B {L : List Spt} {c : Spt} (hL : ∀ p ∈ L, p.ok) (hc : c.ok) : ∀ i, i ≤ L.length → Bq (1 + i * 2071) (momTo L c i)
  | 0, _ => Bq.zero
  | i + 1, h => by
    have a := momTo_B hL hc i (by omega)
    have h1 : i < L.length := by omega
    have h2 : (i + 1) % L.length < L.length := Nat.mod_lt _ (by omega)
    have o1 := hL L[i] (List.getElem_mem h1)
    have o2 := hL L[(i + 1) % L.length] (List.getElem_mem h2)
    have := a.add (partQ_B (o1.dx hc) (o1.dy hc) (o2.dx hc) (o2.dy hc) (by decide))
    unfold momTo
    rw [getElem!_pos L i h1, getElem!_pos L _ h2]
    exact this.mono (by omega)
end Go.AM
end
section
set_option linter.unusedVariables false
set_option linter.unusedSimpArgs false
set_option linter.unusedSimpArgs false
set_option linter.unusedVariables false
set_option maxRecDepth 100000
namespace Go.AM
theorem rem_is {i n : Nat} (h : 0 < n) (hn : n < 1000) (hi : i < 1000) : arA .rem (.int .i64 (i : Int)) (.int .i64 (n : Int)) = some (.int .i64 ((i % n : Nat) : Int)) := by
  simp (disch := omega) []
theorem chk_ratQ {q : Rat} : chk (some (ratQ q)) (ratQ q) = some () := by simp [ratQ, ratW, V.beq]
theorem bool_one {b : Bool} : (V.bool b).one = true := rfl
theorem more0 {H : Heap} : H.more 0 = H := rfl
theorem beqs_cells {p : Spt} : V.beqs p.cells p.cells = true := by simp [Spt.cells, encN_beq, V.beq]
theorem add1_is {i : Nat} (hi : i < 1000) : arA .add (.int .i64 (i : Int)) (.int .i64 1) = some (.int .i64 ((i + 1 : Nat) : Int)) := by
  simp (disch := omega) []
namespace N
theorem moment_loop {L : List Spt} {c : Spt} (hL : ∀ p ∈ L, p.ok) (hc : c.ok) (hn : L.length < 100) (h3 : 3 ≤ L.length) : ∀ (j i : Nat) (H : Heap) (m : Nat → Nat), i + j = L.length → Big m →
    H.get 0 = .cells c.cells ty_api_Spot false → H.get 1 = .cells [.bool false, .slice ⟨none, 0, 0, false⟩, .slice ⟨none, 0, 0, false⟩] ty_api_Rat false →
    H.get 2 = .cells [.bool (decide ((momTo L c i).num < 0)), natW (momTo L c i).num.natAbs, natW (momTo L c i).den] ty_api_Rat false →
    Tot (fun n => energy_moment.l0 n (m n) (rowS L) (.ptr (some (0, 0))) (.ptr (some (1, 0))) (.ptr (some (2, 0))) (.int .i64 (L.length : Int)) (.int .i64 (i : Int)) H) fun v _ => v = ratQ (momTo L c L.length)
  | 0, i, H, m, hij, hm, g0, g1, g2 => by
    refine energy_moment.l0_tot hm fun m' hm' => ?_
    simp only [energy_moment.l0_b]
    obtain rfl : i = L.length := by omega
    repeat (first | refine Tot.pure (by simp (disch := first | omega | (simp only [npz, nsz, nmz] <;> omega) | fail) [lhz, lgz, sgz, boxA, gz, gs, Heap.gqz, Heap.gpz, Heap.gtz, Heap.gsz, gmz, npz, nsz, nmz, g0, g1, g2]; try exact rfl) ?_ | refine Tot.chk (by simp (disch := first | omega | (simp only [npz, nsz, nmz] <;> omega) | fail) [lhz, lgz, sgz, boxA, gz, gs, Heap.gqz, Heap.gpz, Heap.gtz, Heap.gsz, gmz, npz, nsz, nmz, g0, g1, g2]; done) ?_ | fail)
    exact Tot.rf (by simp) (by simp [ratQ, ratW])
  | j + 1, i, H, m, hij, hm, g0, g1, g2 => by
    have h1 : i < L.length := by omega
    have h2 : (i + 1) % L.length < L.length := Nat.mod_lt _ (by omega)
    have o1 := hL L[i] (List.getElem_mem h1)
    have o2 := hL L[(i + 1) % L.length] (List.getElem_mem h2)
    have hr := rem_is (i := i + 1) (n := L.length) (by omega) (by omega) (by omega)
    refine energy_moment.l0_tot hm fun m' hm' => ?_
    simp only [energy_moment.l0_b, more0]
    have l0 : ldN 6 (.ptr (some (0, 0))) H = some (.agg c.cells) := by simp [ldN, g0, Spt.cells]
    have l2 : ldN 3 (.ptr (some (2, 0))) H = some (ratQ (momTo L c i)) := by simp [ldN, g2, ratQ, ratW]
    have ln := lenSl_row (L := L) (by omega)
    have ad := add1_is (i := i) (by omega)
    have e1 : (arA .lss (.int .i64 (i : Int)) (.int .i64 (L.length : Int))) = some (.bool true) := by simp (disch := omega) []; omega
    refine Tot.pure e1 ?_
    repeat (first | refine Tot.pure (by simp (disch := first | omega | (simp only [npz, nsz, nmz] <;> omega) | fail) [lhz, lgz, sgz, boxA, gz, gs, Heap.gqz, Heap.gpz, Heap.gtz, Heap.gsz, gmz, npz, nsz, nmz, idxS_row h1, ldN_row h1, l0]; try exact rfl) ?_ | refine Tot.chk (by simp (disch := first | omega | (simp only [npz, nsz, nmz] <;> omega) | fail) [lhz, lgz, sgz, boxA, gz, gs, Heap.gqz, Heap.gpz, Heap.gtz, Heap.gsz, gmz, npz, nsz, nmz, idxS_row h1, ldN_row h1, l0]; done) ?_ | fail)
    refine Gv.bind (energy_seen_raw o1.x o1.y hc.x hc.y) ?_
    refine Tot.pure ad ?_
    refine Tot.pure ln ?_
    refine Tot.pure hr ?_
    refine Tot.pure (idxS_row h2) ?_
    refine Tot.pure (ldN_row h2) ?_
    repeat (first | refine Tot.pure (by simp (disch := first | omega | (simp only [npz, nsz, nmz] <;> omega) | fail) [lhz, lgz, sgz, boxA, gz, gs, Heap.gqz, Heap.gpz, Heap.gtz, Heap.gsz, gmz, npz, nsz, nmz, idxS_row h2, ldN_row h2, l0, beqs_cells]; try exact rfl) ?_ | refine Tot.chk (by simp (disch := first | omega | (simp only [npz, nsz, nmz] <;> omega) | fail) [lhz, lgz, sgz, boxA, gz, gs, Heap.gqz, Heap.gpz, Heap.gtz, Heap.gsz, gmz, npz, nsz, nmz, idxS_row h2, ldN_row h2, l0, beqs_cells]; done) ?_ | fail)
    refine Gv.bind (energy_seen_raw o2.x o2.y hc.x hc.y) ?_
    dsimp only
    refine Gv.bind (energy_part_N (o1.dx hc) (o1.dy hc) (o2.dx hc) (o2.dy hc) (by decide) (by decide)) ?_
    dsimp only
    repeat (first | refine Tot.pure (by simp (disch := first | omega | (simp only [npz, nsz, nmz] <;> omega) | fail) [lhz, lgz, sgz, boxA, gz, gs, Heap.gqz, Heap.gpz, Heap.gtz, Heap.gsz, gmz, npz, nsz, nmz, l2, chk_ratQ]; try exact rfl) ?_ | refine Tot.chk (by simp (disch := first | omega | (simp only [npz, nsz, nmz] <;> omega) | fail) [lhz, lgz, sgz, boxA, gz, gs, Heap.gqz, Heap.gpz, Heap.gtz, Heap.gsz, gmz, npz, nsz, nmz, l2, chk_ratQ]; done) ?_ | fail)
    have bt := momTo_B hL hc i (by omega)
    have bp := partQ_B (o1.dx hc) (o1.dy hc) (o2.dx hc) (o2.dy hc) (by decide)
    refine Gv.bind (rat_Add_N bt bp (by omega) (by omega)) ?_
    dsimp only
    have st : stA 3 (.ptr (some (2, 0))) (ratQ (momTo L c (i + 1))) H = some (H.set 2 (.cells [.bool (decide ((momTo L c (i + 1)).num < 0)), natW (momTo L c (i + 1)).num.natAbs, natW (momTo L c (i + 1)).den] ty_api_Rat false)) := by
      simp [stA, g2, ratQ, ratW, V.cells, bool_one, lset]
    have mm : momTo L c i + partQ (L[i].x - c.x) (L[i].y - c.y) (L[(i + 1) % L.length].x - c.x) (L[(i + 1) % L.length].y - c.y) = momTo L c (i + 1) := by
      show _ = momTo L c i + _
      rw [getElem!_pos L i h1, getElem!_pos L _ h2]
    have mm' : momTo L c i + partQ (rawQ L[i].s L[i].l L[i].q - rawQ c.s c.l c.q) (rawQ L[i].t L[i].m L[i].r - rawQ c.t c.m c.r) (rawQ L[(i + 1) % L.length].s L[(i + 1) % L.length].l L[(i + 1) % L.length].q - rawQ c.s c.l c.q) (rawQ L[(i + 1) % L.length].t L[(i + 1) % L.length].m L[(i + 1) % L.length].r - rawQ c.t c.m c.r) = momTo L c (i + 1) := mm
    try rw [mm]
    try rw [mm']
    refine Tot.pure st ?_
    refine Tot.pure ad ?_
    exact moment_loop hL hc hn h3 j (i + 1) _ m' (by omega) hm' (by simp (disch := first | omega | (simp only [npz, nsz, nmz] <;> omega) | (simp <;> omega) | fail) [lhz, lgz, sgz, faA_mk, boxA_agg, Heap.gqz, Heap.gpz, Heap.gtz, Heap.gsz, gmz, npz, nsz, nmz, chk_agg, g0]) (by simp (disch := first | omega | (simp only [npz, nsz, nmz] <;> omega) | (simp <;> omega) | fail) [lhz, lgz, sgz, faA_mk, boxA_agg, Heap.gqz, Heap.gpz, Heap.gtz, Heap.gsz, gmz, npz, nsz, nmz, chk_agg, g1]) (by simp (disch := first | omega | (simp only [npz, nsz, nmz] <;> omega) | (simp <;> omega) | fail) [lhz, lgz, sgz, faA_mk, boxA_agg, Heap.gqz, Heap.gpz, Heap.gtz, Heap.gsz, gmz, npz, nsz, nmz, chk_agg, g2])
end N
end Go.AM
end
section
set_option linter.unusedVariables false
set_option linter.unusedSimpArgs false
set_option linter.unusedSimpArgs false
set_option linter.unusedVariables false
set_option maxRecDepth 100000
namespace Go.AM
def momQ (L : List Spt) (c : Spt) : Rat := if L.length < 3 then 0 else momTo L c L.length
theorem cells_fro {c : Spt} : (V.agg c.cells).fro = true := N.spotR_fro
theorem cells_free {c : Spt} : (V.agg c.cells).free = true := N.spotR_free
namespace N
variable {H : Heap}
theorem energy_moment_N {L : List Spt} {c : Spt} (hL : ∀ p ∈ L, p.ok) (hc : c.ok) (hn : L.length < 100) :
    Gv (fun n => f_energy_moment n [rowS L, .agg c.cells] H) (ratQ (momQ L c)) H := by
  refine energy_moment_tot (all2 rowS_fro cells_fro) (fre2 rowS_free cells_free) ?_
  simp only [energy_moment_b, Spt.cells]
  repeat (first | refine Tot.pure (by simp (disch := first | omega | (simp only [npz, nsz, nmz] <;> omega) | fail) [lhz, lgz, sgz, boxA, gz, gs, Heap.gqz, Heap.gpz, Heap.gtz, Heap.gsz, gmz, npz, nsz, nmz, encN_one, encN_cells]; try exact rfl) ?_ | refine Tot.chk (by simp (disch := first | omega | (simp only [npz, nsz, nmz] <;> omega) | fail) [lhz, lgz, sgz, boxA, gz, gs, Heap.gqz, Heap.gpz, Heap.gtz, Heap.gsz, gmz, npz, nsz, nmz, encN_one, encN_cells]; done) ?_ | fail)
  refine Gv.bind (rat_Of_N (by omega)) ?_
  dsimp only [ratQ, ratW]
  repeat (first | refine Tot.autoP ?_ | refine Tot.autoC ?_ | fail)
  refine Tot.pure (lenSl_row (by omega)) ?_
  by_cases h3 : L.length < 3
  · have e1 : arA .lss (.int .i64 (L.length : Int)) (.int .i64 3) = some (.bool true) := by simp (disch := omega) []; omega
    refine Tot.pure e1 ?_
    repeat (first | refine Tot.autoP ?_ | refine Tot.autoC ?_ | fail)
    refine Tot.rf (by simp) ?_
    simp only [momQ, if_pos h3]
    simp [ratQ, ratW]
  · have e1 : arA .lss (.int .i64 (L.length : Int)) (.int .i64 3) = some (.bool false) := by simp (disch := omega) []; omega
    refine Tot.pure e1 ?_
    repeat (first | refine Tot.autoP ?_ | refine Tot.autoC ?_ | fail)
    refine Tot.pure (lenSl_row (by omega)) ?_
    refine Tot.mono (moment_loop hL hc hn (by omega) L.length 0 _ _ (by omega) Big.id ?_ ?_ ?_) ?_
    · simp (disch := first | omega | (simp only [npz, nsz, nmz] <;> omega) | (simp <;> omega) | fail) [lhz, lgz, sgz, faA_mk, boxA_agg, Heap.gqz, Heap.gpz, Heap.gtz, Heap.gsz, gmz, npz, nsz, nmz, chk_agg, Spt.cells]
    · simp (disch := first | omega | (simp only [npz, nsz, nmz] <;> omega) | (simp <;> omega) | fail) [lhz, lgz, sgz, faA_mk, boxA_agg, Heap.gqz, Heap.gpz, Heap.gtz, Heap.gsz, gmz, npz, nsz, nmz, chk_agg, ]
    · simp (disch := first | omega | (simp only [npz, nsz, nmz] <;> omega) | (simp <;> omega) | fail) [lhz, lgz, sgz, faA_mk, boxA_agg, Heap.gqz, Heap.gpz, Heap.gtz, Heap.gsz, gmz, npz, nsz, nmz, chk_agg, momTo]
    · intro v _ hv
      subst hv
      simp only [momQ, if_neg h3]
      simp [ratQ, ratW_free] <;> rfl
theorem energy_Moment_N {L : List Spt} {c : Spt} (hL : ∀ p ∈ L, p.ok) (hc : c.ok) (hn : L.length < 100) :
    Gv (fun n => f_energy_Moment n [rowS L, .agg c.cells] H) (ratQ (momQ L c)) H := by
  refine energy_Moment_tot (all2 rowS_fro cells_fro) (fre2 rowS_free cells_free) ?_
  simp only [energy_Moment_b, Spt.cells]
  repeat (first | refine Tot.pure (by simp (disch := first | omega | (simp only [npz, nsz, nmz] <;> omega) | fail) [lhz, lgz, sgz, boxA, gz, gs, Heap.gqz, Heap.gpz, Heap.gtz, Heap.gsz, gmz, npz, nsz, nmz, encN_one, encN_cells]; try exact rfl) ?_ | refine Tot.chk (by simp (disch := first | omega | (simp only [npz, nsz, nmz] <;> omega) | fail) [lhz, lgz, sgz, boxA, gz, gs, Heap.gqz, Heap.gpz, Heap.gtz, Heap.gsz, gmz, npz, nsz, nmz, encN_one, encN_cells]; done) ?_ | fail)
  refine Gv.bind (energy_moment_N hL hc hn) ?_
  dsimp only [ratQ, ratW]
  repeat (first | refine Tot.autoP ?_ | refine Tot.autoC ?_ | fail)
  exact Tot.rf (by simp) (by simp [ratQ, ratW])
end N
end Go.AM
end
section
set_option linter.unusedVariables false
set_option linter.unusedSimpArgs false
set_option linter.unusedSimpArgs false
set_option linter.unusedVariables false
set_option maxRecDepth 100000
namespace Go.AM
structure Dq (k : Nat) (x : Int) (d : Nat) (q : Rat) : Prop where
  pos : 0 < d
  bx : x.natAbs < 2 ^ k
  bd : d < 2 ^ k
  is : mkRat x d = q
theorem Dq.mono {k m : Nat} {x : Int} {d : Nat} {q : Rat} (h : Dq k x d q) (hm : k ≤ m) : Dq m x d q :=
  ⟨h.pos, Nat.lt_of_lt_of_le h.bx (Nat.pow_le_pow_right (by decide) hm), Nat.lt_of_lt_of_le h.bd (Nat.pow_le_pow_right (by decide) hm), h.is⟩
theorem Dq.add {k m : Nat} {x y : Int} {d e : Nat} {p q : Rat} (h : Dq k x d p) (h' : Dq m y e q) : Dq (k + m + 1) (x * e + y * d) (d * e) (p + q) := by
  have a := lt_mul2 h.bx h'.bd
  have b := lt_mul2 h'.bx h.bd
  have c := lt_mul2 h.bd h'.bd
  have e1 : (x * (e : Int)).natAbs = x.natAbs * e := by rw [Int.natAbs_mul, Int.natAbs_natCast]
  have e2 : (y * (d : Int)).natAbs = y.natAbs * d := by rw [Int.natAbs_mul, Int.natAbs_natCast]
  have t := Int.natAbs_add_le (x * e) (y * d)
  have e3 : 2 ^ (k + m + 1) = 2 ^ (k + m) + 2 ^ (k + m) := by rw [Nat.pow_succ]; omega
  rw [Nat.add_comm m k] at b
  refine ⟨Nat.mul_pos h.pos h'.pos, by omega, by omega, ?_⟩
  rw [← h.is, ← h'.is, Rat.mkRat_add_mkRat _ _ (by have := h.pos; omega) (by have := h'.pos; omega)]
theorem Dq.neg {k : Nat} {x : Int} {d : Nat} {q : Rat} (h : Dq k x d q) : Dq k (-x) d (-q) :=
  ⟨h.pos, by rw [Int.natAbs_neg]; exact h.bx, h.bd, by rw [← h.is, Rat.neg_mkRat]⟩
theorem Dq.sub {k m : Nat} {x y : Int} {d e : Nat} {p q : Rat} (h : Dq k x d p) (h' : Dq m y e q) : Dq (k + m + 1) (x * e - y * d) (d * e) (p - q) := by
  have := h.add h'.neg
  rwa [Int.neg_mul, ← Int.sub_eq_add_neg, ← Rat.sub_eq_add_neg] at this
theorem Dq.mul {k m : Nat} {x y : Int} {d e : Nat} {p q : Rat} (h : Dq k x d p) (h' : Dq m y e q) : Dq (k + m) (x * y) (d * e) (p * q) :=
  ⟨Nat.mul_pos h.pos h'.pos, by rw [Int.natAbs_mul]; exact lt_mul2 h.bx h'.bx, lt_mul2 h.bd h'.bd, by rw [← h.is, ← h'.is, Rat.mkRat_mul_mkRat]⟩
theorem Dq.low {k : Nat} {x : Int} {d : Nat} {q : Rat} (h : Dq k x d q) : Dq k q.num q.den q := by
  have := mk_le x d
  rw [h.is] at this
  exact ⟨q.den_pos, Nat.lt_of_le_of_lt this.1 h.bx, by have := h.pos; have := h.bd; omega, Rat.mkRat_self q⟩
abbrev Dv (f : Nat → Option R) (k : Nat) (q : Rat) (H : Heap) : Prop := Tot f fun v H' => H' = H ∧ ∃ x d, v = ratD x d ∧ Dq k x d q
theorem Dv.bind {f : Nat → Option R} {k : Nat} {q : Rat} {H : Heap} {kk : Nat → R → Option R} {Q : V → Heap → Prop} (hf : Dv f k q H) (hk : ∀ x d, Dq k x d q → Tot (fun n => kk n (ratD x d, H)) Q) : Tot (fun n => bnd (f n) (kk n)) Q :=
  Tot.bind hf fun v H' ⟨h1, x, d, h2, h3⟩ => by subst h1 h2; exact hk x d h3
theorem Dq.dec {k : Nat} {x : Int} {d : Nat} {q : Rat} (h : Dq k x d q) (hk : k < 1000000) : decK (ratD x d) = some (x, d) :=
  decK_ratD (szD_of h.bx hk) (szD_of h.bd hk) h.pos
namespace N
variable {H : Heap}
theorem r5_Add_N {k m : Nat} {x y : Int} {d e : Nat} {p q : Rat} (h : Dq k x d p) (h' : Dq m y e q) (hk : k < 1000000) (hm : m < 1000000) : Dv (fun n => f_ref05_Add n [ratD x d, ratD y e] H) (k + m + 1) (p + q) H :=
  ref05_Add_ext (ext_tot (all2 ratD_fro ratD_fro) (by simp only [dKK, h.dec hk, h'.dec hm]; rfl) ⟨rfl, _, _, rfl, h.add h'⟩)
theorem r5_Sub_N {k m : Nat} {x y : Int} {d e : Nat} {p q : Rat} (h : Dq k x d p) (h' : Dq m y e q) (hk : k < 1000000) (hm : m < 1000000) : Dv (fun n => f_ref05_Sub n [ratD x d, ratD y e] H) (k + m + 1) (p - q) H :=
  ref05_Sub_ext (ext_tot (all2 ratD_fro ratD_fro) (by simp only [dKK, h.dec hk, h'.dec hm]; rfl) ⟨rfl, _, _, rfl, h.sub h'⟩)
theorem r5_Mul_N {k m : Nat} {x y : Int} {d e : Nat} {p q : Rat} (h : Dq k x d p) (h' : Dq m y e q) (hk : k < 1000000) (hm : m < 1000000) : Dv (fun n => f_ref05_Mul n [ratD x d, ratD y e] H) (k + m) (p * q) H :=
  ref05_Mul_ext (ext_tot (all2 ratD_fro ratD_fro) (by simp only [dKK, h.dec hk, h'.dec hm]; rfl) ⟨rfl, _, _, rfl, h.mul h'⟩)
theorem r5_Low_N {k : Nat} {x : Int} {d : Nat} {q : Rat} (h : Dq k x d q) (hk : k < 1000000) : Gv (fun n => f_ref05_Low n [ratD x d] H) (ratD q.num q.den) H :=
  ref05_Low_ext (ext_tot (all1 ratD_fro) (by simp only [dK, h.dec hk]; rfl) ⟨rfl, by simp only [low_mk, h.is]⟩)
theorem r5_Of_raw {s : Bool} {l q : List Nat} (h : Raw l q) : Dv (fun n => f_ref05_Of n [rawL s l q] H) 64 (rawQ s l q) H := by
  refine ref05_Of_ext (ext_tot (all1 rawL_fro) (by simp only [dR, decR_raw h]; rfl) ⟨rfl, _, _, rfl, ?_⟩)
  have h1 := val_lt h.l1
  have h2 := val_lt h.l2
  have e1 : 4294967296 ^ l.length ≤ 4294967296 ^ 2 := Nat.pow_le_pow_right (by decide) h.l3
  have e2 : 4294967296 ^ q.length ≤ 4294967296 ^ 2 := Nat.pow_le_pow_right (by decide) (by have := h.l4; omega)
  have e3 : 4294967296 ^ 2 = 2 ^ 64 := by decide
  have e4 : 0 < 2 ^ 64 := by decide
  have e5 : 1 < 2 ^ 64 := by decide
  by_cases hz : val 4294967296 q = 0
  · simp only [hz, if_true]
    exact ⟨by decide, by simp, e5, by unfold rawQ; rw [hz, Rat.mkRat_zero, Rat.zero_mkRat]⟩
  · simp only [hz, if_false]
    exact ⟨by omega, by rw [sgn_abs]; omega, by omega, rfl⟩
end N
end Go.AM
end
section
set_option linter.unusedVariables false
set_option linter.unusedSimpArgs false
set_option linter.unusedSimpArgs false
set_option linter.unusedVariables false
set_option maxRecDepth 100000
namespace Go.AM
def cellsD (p q : Rat) : List V := [.int .i64 p.num.sign, natD p.num.natAbs, .int .i64 (p.den : Int).sign, natD p.den, .int .i64 q.num.sign, natD q.num.natAbs, .int .i64 (q.den : Int).sign, natD q.den]
def spotD (p q : Rat) : V := .agg (cellsD p q)
theorem spotD_fro {p q : Rat} : (spotD p q).fro = true := by simp [spotD, cellsD]
theorem spotD_free {p q : Rat} : (spotD p q).free = true := by simp [spotD, cellsD]
namespace N
variable {H : Heap}
theorem ref20_Of_N {c : Spt} (hc : c.ok) : Gv (fun n => f_ref20_Of n [.agg c.cells] H) (spotD c.x c.y) H := by
  refine ref20_Of_tot (all1 cells_fro) (fre1 cells_free) ?_
  simp only [ref20_Of_b, Spt.cells]
  repeat (first | refine Tot.pure (by simp (disch := first | omega | (simp only [npz, nsz, nmz] <;> omega) | fail) [lhz, lgz, sgz, boxA, gz, gs, Heap.gqz, Heap.gpz, Heap.gtz, Heap.gsz, gmz, npz, nsz, nmz, encN_one, encN_cells, encN_beq]; try exact rfl) ?_ | refine Tot.chk (by simp (disch := first | omega | (simp only [npz, nsz, nmz] <;> omega) | fail) [lhz, lgz, sgz, boxA, gz, gs, Heap.gqz, Heap.gpz, Heap.gtz, Heap.gsz, gmz, npz, nsz, nmz, encN_one, encN_cells, encN_beq]; done) ?_ | fail)
  refine Dv.bind (r5_Of_raw hc.x) fun x d h => ?_
  dsimp only
  refine Gv.bind (r5_Low_N h (by decide)) ?_
  dsimp only [ratD]
  repeat (first | refine Tot.pure (by simp (disch := first | omega | (simp only [npz, nsz, nmz] <;> omega) | fail) [lhz, lgz, sgz, boxA, gz, gs, Heap.gqz, Heap.gpz, Heap.gtz, Heap.gsz, gmz, npz, nsz, nmz, encN_one, encN_cells, encN_beq]; try exact rfl) ?_ | refine Tot.chk (by simp (disch := first | omega | (simp only [npz, nsz, nmz] <;> omega) | fail) [lhz, lgz, sgz, boxA, gz, gs, Heap.gqz, Heap.gpz, Heap.gtz, Heap.gsz, gmz, npz, nsz, nmz, encN_one, encN_cells, encN_beq]; done) ?_ | fail)
  refine Dv.bind (r5_Of_raw hc.y) fun y e h' => ?_
  dsimp only
  refine Gv.bind (r5_Low_N h' (by decide)) ?_
  dsimp only [ratD]
  repeat (first | refine Tot.autoP ?_ | refine Tot.autoC ?_ | fail)
  exact Tot.rf (by simp) (by simp [spotD, cellsD, Spt.x, Spt.y])
end N
end Go.AM
end
section
set_option linter.unusedVariables false
set_option linter.unusedSimpArgs false
set_option linter.unusedSimpArgs false
set_option linter.unusedVariables false
set_option maxRecDepth 100000
namespace Go.AM
theorem Bq.dq {k : Nat} {q : Rat} (h : Bq k q) : Dq k q.num q.den q := ⟨q.den_pos, h.1, h.2, Rat.mkRat_self q⟩
theorem all3 {a b c : V} (h : a.fro = true) (h' : b.fro = true) (h'' : c.fro = true) : List.all [a, b, c] V.fro = true := by simp [h, h', h'']
theorem fre3 {a b c : V} (h : a.free = true) (h' : b.free = true) (h'' : c.free = true) : V.frees [a, b, c] = true := by simp [V.frees, h, h', h'']
def triQ (ax ay bx by_ cx cy : Rat) : Rat := (bx - ax) * (cy - ay) - (by_ - ay) * (cx - ax)
theorem triQ_B {ax ay bx by_ cx cy : Rat} {k : Nat} (h1 : Bq k ax) (h2 : Bq k ay) (h3 : Bq k bx) (h4 : Bq k by_) (h5 : Bq k cx) (h6 : Bq k cy) : Bq (8 * k + 5) (triQ ax ay bx by_ cx cy) :=
  ((((h3.sub h1).mul (h6.sub h2) (by omega)).sub ((h4.sub h2).mul (h5.sub h1) (by omega)))).mono (by omega)
namespace N
variable {H : Heap}
theorem ref20_Tri_N {ax ay bx by_ cx cy : Rat} {k : Nat} (h1 : Bq k ax) (h2 : Bq k ay) (h3 : Bq k bx) (h4 : Bq k by_) (h5 : Bq k cx) (h6 : Bq k cy) (hk : k < 10000) :
    Gv (fun n => f_ref20_Tri n [spotD ax ay, spotD bx by_, spotD cx cy] H) (ratD (triQ ax ay bx by_ cx cy).num (triQ ax ay bx by_ cx cy).den) H := by
  refine ref20_Tri_tot (all3 spotD_fro spotD_fro spotD_fro) (fre3 spotD_free spotD_free spotD_free) ?_
  simp only [ref20_Tri_b, spotD, cellsD]
  repeat (first | refine Tot.autoP ?_ | refine Tot.autoC ?_ | fail)
  refine Dv.bind (r5_Sub_N h3.dq h1.dq (by omega) (by omega)) fun x1 d1 e1 => ?_
  dsimp only [ratD]
  repeat (first | refine Tot.autoP ?_ | refine Tot.autoC ?_ | fail)
  refine Dv.bind (r5_Sub_N h6.dq h2.dq (by omega) (by omega)) fun x2 d2 e2 => ?_
  dsimp only [ratD]
  refine Dv.bind (r5_Mul_N e1 e2 (by omega) (by omega)) fun x3 d3 e3 => ?_
  dsimp only [ratD]
  repeat (first | refine Tot.autoP ?_ | refine Tot.autoC ?_ | fail)
  refine Dv.bind (r5_Sub_N h4.dq h2.dq (by omega) (by omega)) fun x4 d4 e4 => ?_
  dsimp only [ratD]
  repeat (first | refine Tot.autoP ?_ | refine Tot.autoC ?_ | fail)
  refine Dv.bind (r5_Sub_N h5.dq h1.dq (by omega) (by omega)) fun x5 d5 e5 => ?_
  dsimp only [ratD]
  refine Dv.bind (r5_Mul_N e4 e5 (by omega) (by omega)) fun x6 d6 e6 => ?_
  dsimp only [ratD]
  repeat (first | refine Tot.autoP ?_ | refine Tot.autoC ?_ | fail)
  refine Dv.bind (r5_Sub_N e3 e6 (by omega) (by omega)) fun x7 d7 e7 => ?_
  dsimp only
  refine Gv.bind (r5_Low_N e7 (by omega)) ?_
  dsimp only [ratD]
  repeat (first | refine Tot.autoP ?_ | refine Tot.autoC ?_ | fail)
  exact Tot.rf (by simp) (by simp [ratD, triQ])
end N
end Go.AM
end
section
set_option linter.unusedVariables false
set_option linter.unusedSimpArgs false
set_option linter.unusedSimpArgs false
set_option linter.unusedVariables false
set_option maxRecDepth 100000
namespace Go.AM
def tri42 (ax ay bx by_ cx cy : Rat) : Rat := triQ ax ay bx by_ cx cy * (((bx - ax) * (bx - ax) + (by_ - ay) * (by_ - ay)) + ((cx - ax) * (cx - ax) + (cy - ay) * (cy - ay)) + ((bx - ax) * (cx - ax) + (by_ - ay) * (cy - ay)))
theorem tri42_part {ax ay bx by_ cx cy : Rat} : tri42 ax ay bx by_ cx cy = partQ (bx - ax) (by_ - ay) (cx - ax) (cy - ay) := by
  unfold tri42 partQ triQ
  grind
theorem low_Bq {k : Nat} {x : Int} {d : Nat} {q : Rat} (h : Dq k x d q) : Bq k q := ⟨h.low.bx, h.low.bd⟩
namespace N
variable {H : Heap}
theorem ref42_Tri_N {ax ay bx by_ cx cy : Rat} {k : Nat} (h1 : Bq k ax) (h2 : Bq k ay) (h3 : Bq k bx) (h4 : Bq k by_) (h5 : Bq k cx) (h6 : Bq k cy) (hk : k < 10000) :
    Gv (fun n => f_ref42_Tri n [spotD ax ay, spotD bx by_, spotD cx cy] H) (ratD (tri42 ax ay bx by_ cx cy).num (tri42 ax ay bx by_ cx cy).den) H := by
  refine ref42_Tri_tot (all3 spotD_fro spotD_fro spotD_fro) (fre3 spotD_free spotD_free spotD_free) ?_
  simp only [ref42_Tri_b, spotD, cellsD]
  repeat (first | refine Tot.autoP ?_ | refine Tot.autoC ?_ | fail)
  refine Dv.bind (r5_Sub_N h3.dq h1.dq (by omega) (by omega)) fun x1 d1 e1 => ?_
  dsimp only [ratD]
  repeat (first | refine Tot.autoP ?_ | refine Tot.autoC ?_ | fail)
  refine Dv.bind (r5_Sub_N h4.dq h2.dq (by omega) (by omega)) fun x2 d2 e2 => ?_
  dsimp only [ratD]
  repeat (first | refine Tot.autoP ?_ | refine Tot.autoC ?_ | fail)
  refine Dv.bind (r5_Sub_N h5.dq h1.dq (by omega) (by omega)) fun x3 d3 e3 => ?_
  dsimp only [ratD]
  repeat (first | refine Tot.autoP ?_ | refine Tot.autoC ?_ | fail)
  refine Dv.bind (r5_Sub_N h6.dq h2.dq (by omega) (by omega)) fun x4 d4 e4 => ?_
  dsimp only [ratD]
  repeat (first | refine Tot.autoP ?_ | refine Tot.autoC ?_ | fail)
  refine Dv.bind (r5_Mul_N e1 e1 (by omega) (by omega)) fun y1 f1 g1 => ?_
  dsimp only [ratD]
  repeat (first | refine Tot.autoP ?_ | refine Tot.autoC ?_ | fail)
  refine Dv.bind (r5_Mul_N e2 e2 (by omega) (by omega)) fun y2 f2 g2 => ?_
  dsimp only [ratD]
  refine Dv.bind (r5_Add_N g1 g2 (by omega) (by omega)) fun y3 f3 g3 => ?_
  dsimp only [ratD]
  repeat (first | refine Tot.autoP ?_ | refine Tot.autoC ?_ | fail)
  refine Dv.bind (r5_Mul_N e3 e3 (by omega) (by omega)) fun y4 f4 g4 => ?_
  dsimp only [ratD]
  repeat (first | refine Tot.autoP ?_ | refine Tot.autoC ?_ | fail)
  refine Dv.bind (r5_Mul_N e4 e4 (by omega) (by omega)) fun y5 f5 g5 => ?_
  dsimp only [ratD]
  refine Dv.bind (r5_Add_N g4 g5 (by omega) (by omega)) fun y6 f6 g6 => ?_
  dsimp only [ratD]
  repeat (first | refine Tot.autoP ?_ | refine Tot.autoC ?_ | fail)
  refine Dv.bind (r5_Mul_N e1 e3 (by omega) (by omega)) fun y7 f7 g7 => ?_
  dsimp only [ratD]
  repeat (first | refine Tot.autoP ?_ | refine Tot.autoC ?_ | fail)
  refine Dv.bind (r5_Mul_N e2 e4 (by omega) (by omega)) fun y8 f8 g8 => ?_
  dsimp only [ratD]
  refine Dv.bind (r5_Add_N g7 g8 (by omega) (by omega)) fun y9 f9 g9 => ?_
  dsimp only [ratD]
  repeat (first | refine Tot.autoP ?_ | refine Tot.autoC ?_ | fail)
  refine Gv.bind (ref20_Tri_N h1 h2 h3 h4 h5 h6 (by omega)) ?_
  dsimp only [ratD]
  repeat (first | refine Tot.autoP ?_ | refine Tot.autoC ?_ | fail)
  refine Gv.bind (r5_Low_N g3 (by omega)) ?_
  dsimp only [ratD]
  repeat (first | refine Tot.autoP ?_ | refine Tot.autoC ?_ | fail)
  refine Gv.bind (r5_Low_N g6 (by omega)) ?_
  dsimp only [ratD]
  refine Dv.bind (r5_Add_N (low_Bq g3).dq (low_Bq g6).dq (by omega) (by omega)) fun z1 w1 v1 => ?_
  dsimp only [ratD]
  repeat (first | refine Tot.autoP ?_ | refine Tot.autoC ?_ | fail)
  refine Gv.bind (r5_Low_N g9 (by omega)) ?_
  dsimp only [ratD]
  refine Dv.bind (r5_Add_N v1 (low_Bq g9).dq (by omega) (by omega)) fun z2 w2 v2 => ?_
  dsimp only
  refine Gv.bind (r5_Low_N v2 (by omega)) ?_
  dsimp only [ratD]
  refine Dv.bind (r5_Mul_N (triQ_B h1 h2 h3 h4 h5 h6).dq (low_Bq v2).dq (by omega) (by omega)) fun z3 w3 v3 => ?_
  dsimp only
  refine Gv.bind (r5_Low_N v3 (by omega)) ?_
  dsimp only [ratD]
  repeat (first | refine Tot.autoP ?_ | refine Tot.autoC ?_ | fail)
  exact Tot.rf (by simp) (by simp [ratD, tri42])
end N
end Go.AM
end
section
set_option linter.unusedVariables false
set_option linter.unusedSimpArgs false
set_option linter.unusedSimpArgs false
set_option linter.unusedVariables false
set_option maxRecDepth 100000
namespace Go.AM
def Spt.dc (p : Spt) : List V := cellsD p.x p.y
def rowD (L : List Spt) : V := if L.length = 0 then .list 0 0 [] else .list L.length 8 (L.flatMap Spt.dc)
theorem drop8 : ∀ (L : List Spt) (i : Nat) (h : i < L.length), ((L.flatMap Spt.dc).drop (i * 8)).take 8 = L[i].dc ∧ 8 ≤ ((L.flatMap Spt.dc).drop (i * 8)).length
  | p :: L, 0, h => by simp [Spt.dc, cellsD]
  | p :: L, i + 1, h => by
    have := drop8 L i (by simpa using h)
    have e : (i + 1) * 8 = 8 + i * 8 := by omega
    have e2 : p.dc.length = 8 := rfl
    have e3 : (p.dc ++ L.flatMap Spt.dc).drop 8 = L.flatMap Spt.dc := by rw [← e2, List.drop_left]
    rw [List.flatMap_cons, e, ← List.drop_drop, e3]
    simpa using this
theorem idxS_rowD {L : List Spt} {i : Nat} (h : i < L.length) : idxS 8 (rowD L) (.int .i64 (i : Int)) = some (.lptr ((L.flatMap Spt.dc).drop (i * 8))) := by
  unfold rowD
  rw [if_neg (by omega)]
  simp only [idxS, Int.toNat_natCast]
  rw [if_pos (by constructor <;> simp <;> omega)]
theorem ldN_rowD {L : List Spt} {i : Nat} (h : i < L.length) {H : Heap} : ldN 8 (.lptr ((L.flatMap Spt.dc).drop (i * 8))) H = some (spotD L[i].x L[i].y) := by
  obtain ⟨h1, h2⟩ := drop8 L i h
  simp only [ldN, if_pos h2, h1]; rfl
theorem lenSl_rowD {L : List Spt} (h : L.length < 1000) : lenSl (rowD L) = some (.int .i64 (L.length : Int)) := by
  unfold rowD
  split
  · simp_all [lenSl]
  · simp_all [lenSl]
theorem flatD_fro : ∀ L : List Spt, (L.flatMap Spt.dc).all V.fro1 = true ∧ V.frees (L.flatMap Spt.dc) = true
  | [] => ⟨rfl, rfl⟩
  | p :: L => by
    have := flatD_fro L
    simp only [List.flatMap_cons, Spt.dc, cellsD, List.cons_append, List.nil_append, List.all_cons, frees_cons]
    simp [this]
theorem rowD_fro {L : List Spt} : (rowD L).fro = true := by unfold rowD; split <;> rfl
theorem rowD_free {L : List Spt} : (rowD L).free = true := by
  unfold rowD; split
  · simp [V.free, V.frees]
  · simp [V.free, (flatD_fro L).2]
def momAt (L : List Spt) (cx cy : Rat) : Nat → Rat
  | 0 => 0
  | i + 1 => momAt L cx cy i + partQ ((L[i]!).x - cx) ((L[i]!).y - cy) ((L[(i + 1) % L.length]!).x - cx) ((L[(i + 1) % L.length]!).y - cy)
theorem momTo_at {L : List Spt} {c : Spt} : ∀ i, momTo L c i = momAt L c.x c.y i
  | 0 => rfl
  | i + 1 => by unfold momTo momAt; rw [momTo_at i]
theorem Spt.ok.bx {p : Spt} (h : p.ok) : Bq 64 p.x := rawQ_B h.x
theorem Spt.ok.by_ {p : Spt} (h : p.ok) : Bq 64 p.y := rawQ_B h.y
theorem momAt_B {L : List Spt} {cx cy : Rat} {k : Nat} (hL : ∀ p ∈ L, p.ok) (hx : Bq k cx) (hy : Bq k cy) : ∀ i, i ≤ L.length → Bq (1 + i * (16 * (65 + k) + 7)) (momAt L cx cy i)
  | 0, _ => by show Bq _ 0; exact Bq.zero.mono (by omega)
  | i + 1, h => by
    have a := momAt_B hL hx hy i (by omega)
    have h1 : i < L.length := by omega
    have h2 : (i + 1) % L.length < L.length := Nat.mod_lt _ (by omega)
    have o1 := hL L[i] (List.getElem_mem h1)
    have o2 := hL L[(i + 1) % L.length] (List.getElem_mem h2)
    have b := partQ_B (k := 65 + k) ((o1.bx.sub hx).mono (by omega)) ((o1.by_.sub hy).mono (by omega)) ((o2.bx.sub hx).mono (by omega)) ((o2.by_.sub hy).mono (by omega)) (by omega)
    have := a.add b
    unfold momAt
    rw [getElem!_pos L i h1, getElem!_pos L _ h2]
    refine this.mono ?_
    have e := Nat.succ_mul i (16 * (65 + k) + 7)
    have e' : i.succ * (16 * (65 + k) + 7) = (i + 1) * (16 * (65 + k) + 7) := rfl
    omega
theorem chk_ratD {x : Int} {d : Nat} : chk (some (ratD x d)) (ratD x d) = some () := by simp [ratD, V.beq]
namespace N
theorem moment42_loop {L : List Spt} {cx cy : Rat} {k : Nat} (hL : ∀ p ∈ L, p.ok) (hx : Bq k cx) (hy : Bq k cy) (hk : 64 ≤ k) (hk2 : k < 10000) (hb : L.length * (16 * (65 + k) + 7) < 900000) (h3 : 3 ≤ L.length) : ∀ (j i : Nat) (H : Heap) (m : Nat → Nat), i + j = L.length → Big m →
    H.get 0 = .cells (cellsD cx cy) ty_ref09_Spot false → H.get 1 = .cells [.int .i64 0, .slice ⟨none, 0, 0, false⟩, .int .i64 0, .slice ⟨none, 0, 0, false⟩] ty_ref05_Rat false →
    H.get 2 = .cells [.int .i64 (momAt L cx cy i).num.sign, natD (momAt L cx cy i).num.natAbs, .int .i64 ((momAt L cx cy i).den : Int).sign, natD (momAt L cx cy i).den] ty_ref05_Rat false →
    Tot (fun n => ref42_Moment.l0 n (m n) (rowD L) (.ptr (some (0, 0))) (.ptr (some (1, 0))) (.ptr (some (2, 0))) (.int .i64 (i : Int)) H) fun v _ => v = ratD (momAt L cx cy L.length).num (momAt L cx cy L.length).den
  | 0, i, H, m, hij, hm, g0, g1, g2 => by
    refine ref42_Moment.l0_tot hm fun m' hm' => ?_
    simp only [ref42_Moment.l0_b]
    obtain rfl : i = L.length := by omega
    have hn : L.length < 800 := by
      rcases Nat.lt_or_ge L.length 800 with h | h
      · exact h
      · have := Nat.mul_le_mul h (show 1129 ≤ 16 * (65 + k) + 7 by omega); omega
    refine Tot.pure (lenSl_rowD (by omega)) ?_
    repeat (first | refine Tot.pure (by simp (disch := first | omega | (simp only [npz, nsz, nmz] <;> omega) | fail) [lhz, lgz, sgz, boxA, gz, gs, Heap.gqz, Heap.gpz, Heap.gtz, Heap.gsz, gmz, npz, nsz, nmz, g0, g1, g2]; try exact rfl) ?_ | refine Tot.chk (by simp (disch := first | omega | (simp only [npz, nsz, nmz] <;> omega) | fail) [lhz, lgz, sgz, boxA, gz, gs, Heap.gqz, Heap.gpz, Heap.gtz, Heap.gsz, gmz, npz, nsz, nmz, g0, g1, g2]; done) ?_ | fail)
    exact Tot.rf (by simp) (by simp [ratD])
  | j + 1, i, H, m, hij, hm, g0, g1, g2 => by
    have h1 : i < L.length := by omega
    have hn : L.length < 800 := by
      rcases Nat.lt_or_ge L.length 800 with h | h
      · exact h
      · have := Nat.mul_le_mul h (show 1129 ≤ 16 * (65 + k) + 7 by omega); omega
    have h2 : (i + 1) % L.length < L.length := Nat.mod_lt _ (by omega)
    have o1 := hL L[i] (List.getElem_mem h1)
    have o2 := hL L[(i + 1) % L.length] (List.getElem_mem h2)
    have hr := rem_is (i := i + 1) (n := L.length) (by omega) (by omega) (by omega)
    refine ref42_Moment.l0_tot hm fun m' hm' => ?_
    simp only [ref42_Moment.l0_b, more0]
    have l0 : ldN 8 (.ptr (some (0, 0))) H = some (spotD cx cy) := by simp [ldN, g0, spotD, cellsD]
    have l2 : ldN 4 (.ptr (some (2, 0))) H = some (ratD (momAt L cx cy i).num (momAt L cx cy i).den) := by simp [ldN, g2, ratD]
    have ln := lenSl_rowD (L := L) (by omega)
    have ad := add1_is (i := i) (by omega)
    have e1 : (arA .lss (.int .i64 (i : Int)) (.int .i64 (L.length : Int))) = some (.bool true) := by simp (disch := omega) []; omega
    have e2 : decide ((2 : Int) < (L.length : Int)) = true := decide_eq_true (by omega)
    refine Tot.pure ln ?_
    refine Tot.pure e1 ?_
    repeat (first | refine Tot.pure (by simp (disch := first | omega | (simp only [npz, nsz, nmz] <;> omega) | fail) [lhz, lgz, sgz, boxA, gz, gs, Heap.gqz, Heap.gpz, Heap.gtz, Heap.gsz, gmz, npz, nsz, nmz, ln]; try exact rfl) ?_ | refine Tot.chk (by simp (disch := first | omega | (simp only [npz, nsz, nmz] <;> omega) | fail) [lhz, lgz, sgz, boxA, gz, gs, Heap.gqz, Heap.gpz, Heap.gtz, Heap.gsz, gmz, npz, nsz, nmz, ln]; done) ?_ | fail)
    simp only [e2, if_true]
    repeat (first | refine Tot.pure (by simp (disch := first | omega | (simp only [npz, nsz, nmz] <;> omega) | fail) [lhz, lgz, sgz, boxA, gz, gs, Heap.gqz, Heap.gpz, Heap.gtz, Heap.gsz, gmz, npz, nsz, nmz, idxS_rowD h1, ldN_rowD h1, l0]; try exact rfl) ?_ | refine Tot.chk (by simp (disch := first | omega | (simp only [npz, nsz, nmz] <;> omega) | fail) [lhz, lgz, sgz, boxA, gz, gs, Heap.gqz, Heap.gpz, Heap.gtz, Heap.gsz, gmz, npz, nsz, nmz, idxS_rowD h1, ldN_rowD h1, l0]; done) ?_ | fail)
    have hr' : arA .rem (.int .i64 ((i : Int) + 1)) (.int .i64 (L.length : Int)) = some (.int .i64 (((i + 1) % L.length : Nat) : Int)) := hr
    refine Tot.pure ln ?_
    refine Tot.pure hr' ?_
    refine Tot.pure (idxS_rowD h2) ?_
    refine Tot.pure (ldN_rowD h2) ?_
    refine Gv.bind (ref42_Tri_N hx hy (o1.bx.mono hk) (o1.by_.mono hk) (o2.bx.mono hk) (o2.by_.mono hk) (by omega)) ?_
    dsimp only
    repeat (first | refine Tot.pure (by simp (disch := first | omega | (simp only [npz, nsz, nmz] <;> omega) | fail) [lhz, lgz, sgz, boxA, gz, gs, Heap.gqz, Heap.gpz, Heap.gtz, Heap.gsz, gmz, npz, nsz, nmz, l2, chk_ratD]; try exact rfl) ?_ | refine Tot.chk (by simp (disch := first | omega | (simp only [npz, nsz, nmz] <;> omega) | fail) [lhz, lgz, sgz, boxA, gz, gs, Heap.gqz, Heap.gpz, Heap.gtz, Heap.gsz, gmz, npz, nsz, nmz, l2, chk_ratD]; done) ?_ | fail)
    have bt := momAt_B hL hx hy i (by omega)
    have hm1 : i.succ * (16 * (65 + k) + 7) ≤ L.length * (16 * (65 + k) + 7) := Nat.mul_le_mul_right _ h1
    have hm2 := Nat.succ_mul i (16 * (65 + k) + 7)
    have bp := partQ_B (k := 65 + k) ((o1.bx.sub hx).mono (by omega)) ((o1.by_.sub hy).mono (by omega)) ((o2.bx.sub hx).mono (by omega)) ((o2.by_.sub hy).mono (by omega)) (by omega)
    rw [tri42_part]
    have mm : momAt L cx cy i + partQ (L[i].x - cx) (L[i].y - cy) (L[(i + 1) % L.length].x - cx) (L[(i + 1) % L.length].y - cy) = momAt L cx cy (i + 1) := by
      show _ = momAt L cx cy i + _
      rw [getElem!_pos L i h1, getElem!_pos L _ h2]
    refine Dv.bind (r5_Add_N bt.dq bp.dq (by omega) (by omega)) fun x d e => ?_
    rw [mm] at e
    dsimp only
    refine Gv.bind (r5_Low_N e (by omega)) ?_
    dsimp only
    have st : stA 4 (.ptr (some (2, 0))) (ratD (momAt L cx cy (i + 1)).num (momAt L cx cy (i + 1)).den) H = some (H.set 2 (.cells [.int .i64 (momAt L cx cy (i + 1)).num.sign, natD (momAt L cx cy (i + 1)).num.natAbs, .int .i64 ((momAt L cx cy (i + 1)).den : Int).sign, natD (momAt L cx cy (i + 1)).den] ty_ref05_Rat false)) := by
      have io : ∀ {k : IntKind} {z : Int}, (V.int k z).one = true := rfl
      simp [stA, g2, ratD, V.cells, io, lset]
    refine Tot.pure st ?_
    refine Tot.pure ad ?_
    exact moment42_loop hL hx hy hk hk2 hb h3 j (i + 1) _ m' (by omega) hm' (by simp (disch := first | omega | (simp only [npz, nsz, nmz] <;> omega) | (simp <;> omega) | fail) [lhz, lgz, sgz, faA_mk, boxA_agg, Heap.gqz, Heap.gpz, Heap.gtz, Heap.gsz, gmz, npz, nsz, nmz, chk_agg, g0]) (by simp (disch := first | omega | (simp only [npz, nsz, nmz] <;> omega) | (simp <;> omega) | fail) [lhz, lgz, sgz, faA_mk, boxA_agg, Heap.gqz, Heap.gpz, Heap.gtz, Heap.gsz, gmz, npz, nsz, nmz, chk_agg, g1]) (by simp (disch := first | omega | (simp only [npz, nsz, nmz] <;> omega) | (simp <;> omega) | fail) [lhz, lgz, sgz, faA_mk, boxA_agg, Heap.gqz, Heap.gpz, Heap.gtz, Heap.gsz, gmz, npz, nsz, nmz, chk_agg, g2])
end N
end Go.AM
end
section
set_option linter.unusedVariables false
set_option linter.unusedSimpArgs false
set_option linter.unusedSimpArgs false
set_option linter.unusedVariables false
set_option maxRecDepth 100000
namespace Go.AM
def momA (L : List Spt) (cx cy : Rat) : Rat := if L.length < 3 then 0 else momAt L cx cy L.length
theorem momA_Q {L : List Spt} {c : Spt} : momA L c.x c.y = momQ L c := by unfold momA momQ; rw [momTo_at]
namespace N
variable {H : Heap}
theorem ref42_Moment_A {L : List Spt} {cx cy : Rat} {k : Nat} (hL : ∀ p ∈ L, p.ok) (hx : Bq k cx) (hy : Bq k cy) (hk : 64 ≤ k) (hk2 : k < 10000) (hb : L.length * (16 * (65 + k) + 7) < 900000) :
    Gv (fun n => f_ref42_Moment n [rowD L, spotD cx cy] H) (ratD (momA L cx cy).num (momA L cx cy).den) H := by
  have hn : L.length < 800 := by
    rcases Nat.lt_or_ge L.length 800 with h | h
    · exact h
    · have := Nat.mul_le_mul h (show 1129 ≤ 16 * (65 + k) + 7 by omega); omega
  refine ref42_Moment_tot (all2 rowD_fro spotD_fro) (fre2 rowD_free spotD_free) ?_
  simp only [ref42_Moment_b, spotD, cellsD]
  repeat (first | refine Tot.autoP ?_ | refine Tot.autoC ?_ | fail)
  refine Gv.bind (r5_Long_N (by omega)) ?_
  dsimp only [ratD]
  repeat (first | refine Tot.autoP ?_ | refine Tot.autoC ?_ | fail)
  by_cases h3 : L.length < 3
  · refine ref42_Moment.l0_tot Big.id fun m' hm' => ?_
    simp only [ref42_Moment.l0_b]
    refine Tot.pure (lenSl_rowD (by omega)) ?_
    by_cases h0 : L.length = 0
    · have e1 : arA .lss (.int .i64 0) (.int .i64 (L.length : Int)) = some (.bool false) := by rw [h0]; simp (disch := omega) []
      refine Tot.pure e1 ?_
      repeat (first | refine Tot.autoP ?_ | refine Tot.autoC ?_ | fail)
      refine Tot.rf (by simp) ?_
      simp only [momA, if_pos h3]
      simp [ratD]
    · have e1 : arA .lss (.int .i64 0) (.int .i64 (L.length : Int)) = some (.bool true) := by simp (disch := omega) []; omega
      refine Tot.pure e1 ?_
      repeat (first | refine Tot.pure (by simp (disch := first | omega | (simp only [npz, nsz, nmz] <;> omega) | fail) [lhz, lgz, sgz, boxA, gz, gs, Heap.gqz, Heap.gpz, Heap.gtz, Heap.gsz, gmz, npz, nsz, nmz, lenSl_rowD (L := L) (by omega)]; try exact rfl) ?_ | refine Tot.chk (by simp (disch := first | omega | (simp only [npz, nsz, nmz] <;> omega) | fail) [lhz, lgz, sgz, boxA, gz, gs, Heap.gqz, Heap.gpz, Heap.gtz, Heap.gsz, gmz, npz, nsz, nmz, lenSl_rowD (L := L) (by omega)]; done) ?_ | fail)
      have e2 : decide ((2 : Int) < (L.length : Int)) = false := decide_eq_false (by omega)
      simp only [e2, if_false, Bool.false_eq_true]
      repeat (first | refine Tot.autoP ?_ | refine Tot.autoC ?_ | fail)
      refine Tot.rf (by simp) ?_
      simp only [momA, if_pos h3]
      simp [ratD]
  · refine Tot.mono (moment42_loop hL hx hy hk hk2 hb (by omega) L.length 0 _ _ (by omega) Big.id ?_ ?_ ?_) ?_
    · simp (disch := first | omega | (simp only [npz, nsz, nmz] <;> omega) | (simp <;> omega) | fail) [lhz, lgz, sgz, faA_mk, boxA_agg, Heap.gqz, Heap.gpz, Heap.gtz, Heap.gsz, gmz, npz, nsz, nmz, chk_agg, cellsD]
    · simp (disch := first | omega | (simp only [npz, nsz, nmz] <;> omega) | (simp <;> omega) | fail) [lhz, lgz, sgz, faA_mk, boxA_agg, Heap.gqz, Heap.gpz, Heap.gtz, Heap.gsz, gmz, npz, nsz, nmz, chk_agg, ]
    · simp (disch := first | omega | (simp only [npz, nsz, nmz] <;> omega) | (simp <;> omega) | fail) [lhz, lgz, sgz, faA_mk, boxA_agg, Heap.gqz, Heap.gpz, Heap.gtz, Heap.gsz, gmz, npz, nsz, nmz, chk_agg, momAt]
    · intro v _ hv
      subst hv
      simp only [momA, if_neg h3]
      exact ⟨ratD_free, by simp [ratD]⟩
theorem ref42_Moment_N {L : List Spt} {c : Spt} (hL : ∀ p ∈ L, p.ok) (hc : c.ok) (hn : L.length < 100) :
    Gv (fun n => f_ref42_Moment n [rowD L, spotD c.x c.y] H) (ratD (momQ L c).num (momQ L c).den) H := by
  rw [← momA_Q]
  exact ref42_Moment_A hL (rawQ_B hc.x) (rawQ_B hc.y) (Nat.le_refl _) (by decide) (by omega)
end N
end Go.AM
end
section
set_option linter.unusedVariables false
set_option linter.unusedSimpArgs false
set_option linter.unusedSimpArgs false
set_option linter.unusedVariables false
set_option maxRecDepth 100000
namespace Go.AM
def Grow (H : Heap) (e : TypeId) (v : V) (m n : Nat) (cs : List V) : Prop := ∃ i, v = .slice ⟨some (i, 0), m, n, false⟩ ∧ i < H.n ∧ H.get i = .cells cs e false ∧ cs.length = m * n
theorem app_one {H : Heap} {e : TypeId} {v : V} {m n by_ j : Nat} {cs xs : List V} {e' : TypeId} {r f : Bool} (g : Grow H e v m n cs) (hj : H.get j = .cells xs e' r) (hx : xs.length = n) (hm : m < 1000000) (hb : by_ ≤ 4096) :
    ∃ v' H', appA n by_ e v (.slice ⟨some (j, 0), 1, n, f⟩) H = some (v', H') ∧ Grow H' e v' (m + 1) n (cs ++ xs) := by
  obtain ⟨i, rfl, h1, h2, h3⟩ := g
  unfold appA
  have s1 : srcA n (.slice ⟨some (j, 0), 1, n, f⟩) H = some (1, xs) := by
    simp only [srcA, rdS, hj, Nat.one_mul, Nat.zero_add, List.drop_zero]
    simp [hx, List.take_of_length_le (Nat.le_of_eq hx)]
  simp only [s1, Option.bind_some]
  rw [if_neg (by decide), if_pos ⟨by omega, hb, .inr trivial⟩]
  have r1 : rdS ⟨some (i, 0), m, n, false⟩ H = some cs := by
    simp only [rdS, h2, Nat.zero_add, List.drop_zero, ← h3, List.take_length, Nat.le_refl, if_true]
    split
    · rename_i hz
      subst hz
      have : cs = [] := List.eq_nil_of_length_eq_zero (by omega)
      rw [this]
    · rfl
  simp only [r1, Option.bind_some, killA, h2, Bool.false_eq_true, if_false, if_true]
  exact ⟨_, _, rfl, H.n, by simp, by simp, by rw [Heap.gpz (by simp)], by rw [List.length_append, h3, hx, Nat.add_mul, Nat.one_mul]⟩
theorem Grow.frz {H : Heap} {e : TypeId} {v : V} {m n : Nat} {cs : List V} (g : Grow H e v m n cs) (hc : cs.all V.fro1 = true) {Q : V → Heap → Prop} (q : ∀ H', Q (if m = 0 then .list 0 0 [] else .list m n cs) H') : Tot (fun _ => frzR v H) Q := by
  obtain ⟨i, rfl, h1, h2, h3⟩ := g
  by_cases hz : m = 0
  · have h : frzR (.slice ⟨some (i, 0), m, n, false⟩) H = some (.list 0 0 [], killL [] H) := by unfold frzR frzV; simp only [hz, if_true]
    exact Tot.frz h (by have := q (killL [] H); rwa [if_pos hz] at this)
  · have ht : (cs.drop 0).take (m * n) = cs := by rw [List.drop_zero, ← h3, List.take_length]
    have h : frzR (.slice ⟨some (i, 0), m, n, false⟩) H = some (.list m n cs, killL [i] H) := by
      unfold frzR frzV
      simp only [if_neg hz, h2, ht, frzL_fro1 (d := 4) hc, Nat.zero_add]
      rw [if_pos (by omega)]
    exact Tot.frz h (by have := q (killL [i] H); rwa [if_neg hz] at this)
namespace N
theorem all_loop {L : List Spt} (hL : ∀ p ∈ L, p.ok) (hn : L.length < 100) : ∀ (j i : Nat) (H : Heap) (v : V) (m : Nat → Nat), i + j = L.length → Big m → Grow H ty_ref09_Spot v i 8 ((L.take i).flatMap Spt.dc) →
    Tot (fun n => ref20_All.l0 n (m n) (rowS L) v (.int .i64 (i : Int)) H) fun u _ => u = rowD L
  | 0, i, H, v, m, hij, hm, g => by
    refine ref20_All.l0_tot hm fun m' hm' => ?_
    simp only [ref20_All.l0_b]
    obtain rfl : i = L.length := by omega
    refine Tot.pure (lenSl_row (by omega)) ?_
    have e1 : arA .lss (.int .i64 (L.length : Int)) (.int .i64 (L.length : Int)) = some (.bool false) := by simp (disch := omega) []
    refine Tot.pure e1 ?_
    repeat (first | refine Tot.autoP ?_ | refine Tot.autoC ?_ | fail)
    rw [List.take_length] at g
    exact g.frz (flatD_fro L).1 fun H' => rfl
  | j + 1, i, H, v, m, hij, hm, g => by
    have h1 : i < L.length := by omega
    have o1 := hL L[i] (List.getElem_mem h1)
    refine ref20_All.l0_tot hm fun m' hm' => ?_
    simp only [ref20_All.l0_b]
    refine Tot.pure (lenSl_row (by omega)) ?_
    have e1 : (arA .lss (.int .i64 (i : Int)) (.int .i64 (L.length : Int))) = some (.bool true) := by simp (disch := omega) []; omega
    refine Tot.pure e1 ?_
    repeat (first | refine Tot.pure (by simp (disch := first | omega | (simp only [npz, nsz, nmz] <;> omega) | fail) [lhz, lgz, sgz, boxA, gz, gs, Heap.gqz, Heap.gpz, Heap.gtz, Heap.gsz, gmz, npz, nsz, nmz, idxS_row h1, ldN_row h1]; try exact rfl) ?_ | refine Tot.chk (by simp (disch := first | omega | (simp only [npz, nsz, nmz] <;> omega) | fail) [lhz, lgz, sgz, boxA, gz, gs, Heap.gqz, Heap.gpz, Heap.gtz, Heap.gsz, gmz, npz, nsz, nmz, idxS_row h1, ldN_row h1]; done) ?_ | fail)
    refine Gv.bind (ref20_Of_N o1) ?_
    have b1 : bSl 8 ty_ref09_Spot [.int .i64 0, .slice ⟨none, 0, 0, false⟩, .int .i64 0, .slice ⟨none, 0, 0, false⟩, .int .i64 0, .slice ⟨none, 0, 0, false⟩, .int .i64 0, .slice ⟨none, 0, 0, false⟩] 1 [(0, spotD L[i].x L[i].y)] = some (.cells L[i].dc ty_ref09_Spot false) := by
      have io : ∀ {k : IntKind} {z : Int}, (V.int k z).one = true := rfl
      simp [bSl, rowA, spotD, cellsD, Spt.dc, natD_one, io]
    refine Tot.pure b1 ?_
    have g' : Grow (H.push (.cells L[i].dc ty_ref09_Spot false)) ty_ref09_Spot v i 8 ((L.take i).flatMap Spt.dc) := by
      obtain ⟨a, rfl, c1, c2, c3⟩ := g
      exact ⟨a, rfl, by simp; omega, by rw [Heap.gqz (by omega)]; exact c2, c3⟩
    obtain ⟨v', H', a1, g2⟩ := app_one (by_ := 128) (j := H.n) (xs := L[i].dc) (r := false) (f := false) (e' := ty_ref09_Spot) g' (by rw [Heap.gpz rfl]) rfl (by omega) (by decide)
    refine Tot.pure a1 ?_
    refine Tot.pure (add1_is (i := i) (by omega)) ?_
    refine all_loop hL hn j (i + 1) H' v' m' (by omega) hm' ?_
    have : (L.take (i + 1)).flatMap Spt.dc = (L.take i).flatMap Spt.dc ++ L[i].dc := by
      rw [List.take_succ_eq_append_getElem h1, List.flatMap_append, List.flatMap_cons, List.flatMap_nil, List.append_nil]
    rw [this]; exact g2
theorem ref20_All_N {H : Heap} {L : List Spt} (hL : ∀ p ∈ L, p.ok) (hn : L.length < 100) : Gv (fun n => f_ref20_All n [rowS L] H) (rowD L) H := by
  refine ref20_All_tot (all1 rowS_fro) (fre1 rowS_free) ?_
  simp only [ref20_All_b]
  have b1 : bSl 8 ty_ref09_Spot [.int .i64 0, .slice ⟨none, 0, 0, false⟩, .int .i64 0, .slice ⟨none, 0, 0, false⟩, .int .i64 0, .slice ⟨none, 0, 0, false⟩, .int .i64 0, .slice ⟨none, 0, 0, false⟩] 0 [] = some (.cells [] ty_ref09_Spot false) := by
    have io : ∀ {k : IntKind} {z : Int}, (V.int k z).one = true := rfl
    simp [bSl, rowA, io]
  refine Tot.pure b1 ?_
  refine Tot.mono (all_loop hL hn L.length 0 _ _ _ (by omega) Big.id ⟨0, rfl, by simp, by simp (disch := first | omega | (simp only [npz, nsz, nmz] <;> omega) | (simp <;> omega) | fail) [lhz, lgz, sgz, faA_mk, boxA_agg, Heap.gqz, Heap.gpz, Heap.gtz, Heap.gsz, gmz, npz, nsz, nmz, chk_agg, ], by simp⟩) ?_
  intro v _ hv
  subst hv
  simp [rowD_free]
end N
end Go.AM
end
section
set_option linter.unusedVariables false
set_option linter.unusedSimpArgs false
set_option linter.unusedSimpArgs false
set_option linter.unusedVariables false
set_option maxRecDepth 100000
namespace Go.AM
def pairs : List Nat → List Nat
  | [] => []
  | [a] => [a]
  | a :: c :: r => (a + 65536 * c) :: pairs r
theorem pairs_dig (b : Nat) (hb : 2 ≤ b) (hb' : b = 65536) : ∀ (n x : Nat), x ≤ n → pairs (dig b x) = dig (b * b) x := by
  intro n
  induction n with
  | zero => intro x h; obtain rfl : x = 0 := by omega
            rw [dig_zero, dig_zero]; rfl
  | succ n ih =>
    intro x h
    by_cases hx : x = 0
    · subst hx; rw [dig_zero, dig_zero]; rfl
    have hbb : 2 ≤ b * b := Nat.le_trans hb (Nat.le_mul_self b)
    rw [dig_pos hb hx, dig_pos hbb hx]
    by_cases hx2 : x / b = 0
    · have hlt : x < b := by
        rcases Nat.div_eq_zero_iff.1 hx2 with h | h
        · omega
        · exact h
      have h2 : x < b * b := Nat.lt_of_lt_of_le hlt (Nat.le_mul_self b)
      rw [hx2, dig_zero, Nat.mod_eq_of_lt hlt, Nat.mod_eq_of_lt h2, Nat.div_eq_of_lt h2, dig_zero]; rfl
    · rw [dig_pos hb hx2]
      have e1 : x / b / b = x / (b * b) := Nat.div_div_eq_div_mul x b b
      have e2 : x % (b * b) = x % b + b * (x / b % b) := Nat.mod_mul
      have e3 : x / (b * b) < x := Nat.div_lt_self (by omega) (by omega)
      unfold pairs
      rw [e1, ih _ (by omega), e2, ← hb']
theorem idx_encN {k : IntKind} {l : List Nat} {i : Nat} (h : i < l.length) : idxS 1 (encN k l) (.int .i64 (i : Int)) = some (.lptr ((nums k l).drop i)) := by
  unfold encN
  rw [if_neg (by omega)]
  simp only [idxS, Int.toNat_natCast, Nat.mul_one]
  rw [if_pos (by constructor <;> simp <;> omega)]
theorem ld1_encN {k : IntKind} {l : List Nat} {i : Nat} (h : i < l.length) {H : Heap} : ld1 (.lptr ((nums k l).drop i)) H = some (.int k (l[i] : Int)) := by
  have : (nums k l).drop i = .int k (l[i] : Int) :: (nums k l).drop (i + 1) := by
    rw [List.drop_eq_getElem_cons (by simpa [nums] using h)]; simp [nums]
  rw [this]; rfl
theorem len_encN {k : IntKind} {l : List Nat} (h : l.length < 1000000) : lenSl (encN k l) = some (.int .i64 (l.length : Int)) := by
  unfold encN; split
  · simp_all [lenSl]
  · simp_all [lenSl]
end Go.AM
end
section
set_option linter.unusedVariables false
set_option linter.unusedSimpArgs false
set_option linter.unusedSimpArgs false
set_option linter.unusedVariables false
set_option maxRecDepth 100000
namespace Go.AM
namespace N
theorem nat_loop {l : List Nat} (hl : Lim 65536 l) (hn : l.length < 900000) : ∀ (j i : Nat) (H : Heap) (v : V) (m : Nat → Nat) (done : List Nat), l.length ≤ i + j → i ≤ l.length + 1 → Big m → done.length ≤ i → Grow H ty_uint32 v done.length 1 (nums .u32 done) →
    Tot (fun n => ref03_Nat.l0 n (m n) (encN .i64 l) v (.int .i64 (i : Int)) H) fun u _ => u = encN .u32 (done ++ pairs (l.drop i)) := by
  intro j
  induction j with
  | zero =>
    intro i H v m done h1 h2 hm h3 g
    refine ref03_Nat.l0_tot hm fun m' hm' => ?_
    simp only [ref03_Nat.l0_b]
    refine Tot.pure (len_encN (by omega)) ?_
    have e1 : arA .lss (.int .i64 (i : Int)) (.int .i64 (l.length : Int)) = some (.bool false) := by simp (disch := omega) []; omega
    refine Tot.pure e1 ?_
    repeat (first | refine Tot.autoP ?_ | refine Tot.autoC ?_ | fail)
    rw [List.drop_of_length_le (by omega)]
    exact g.frz (by simp [nums]) fun H' => by simp [pairs, encN]
  | succ j ih =>
    intro i H v m done h1 h2 hm h3 g
    refine ref03_Nat.l0_tot hm fun m' hm' => ?_
    simp only [ref03_Nat.l0_b]
    refine Tot.pure (len_encN (by omega)) ?_
    by_cases hi : i < l.length
    · have e1 : arA .lss (.int .i64 (i : Int)) (.int .i64 (l.length : Int)) = some (.bool true) := by simp (disch := omega) []; omega
      refine Tot.pure e1 ?_
      repeat (first | refine Tot.pure (by simp (disch := first | omega | (simp only [npz, nsz, nmz] <;> omega) | fail) [lhz, lgz, sgz, boxA, gz, gs, Heap.gqz, Heap.gpz, Heap.gtz, Heap.gsz, gmz, npz, nsz, nmz, idx_encN hi, ld1_encN hi]; try exact rfl) ?_ | refine Tot.chk (by simp (disch := first | omega | (simp only [npz, nsz, nmz] <;> omega) | fail) [lhz, lgz, sgz, boxA, gz, gs, Heap.gqz, Heap.gpz, Heap.gtz, Heap.gsz, gmz, npz, nsz, nmz, idx_encN hi, ld1_encN hi]; done) ?_ | fail)
      have a1 : l[i] < 65536 := hl _ (List.getElem_mem hi)
      have tail : ∀ w : Nat, Tot (fun n => bnd (bSl 1 ty_uint32 [.int .u32 0] 1 [(0, .int .u32 (w : Int))]) fun o => bnd (appA 1 4 ty_uint32 v (.slice ⟨some (H.n, 0), 1, 1, false⟩) (H.push o)) fun p =>
          bnd (arA .add (.int .i64 (i : Int)) (.int .i64 2)) fun t => ref03_Nat.l0 n (m' n) (encN .i64 l) p.1 t p.2) fun u _ => u = encN .u32 ((done ++ [w]) ++ pairs (l.drop (i + 2))) := by
        intro w
        have b1 : bSl 1 ty_uint32 [.int .u32 0] 1 [(0, .int .u32 (w : Int))] = some (.cells (nums .u32 [w]) ty_uint32 false) := by
          have io : ∀ {k : IntKind} {z : Int}, (V.int k z).one = true := rfl
          simp [bSl, rowA, nums, io]
        refine Tot.pure b1 ?_
        have g' : Grow (H.push (.cells (nums .u32 [w]) ty_uint32 false)) ty_uint32 v done.length 1 (nums .u32 done) := by
          obtain ⟨a, rfl, c1, c2, c3⟩ := g
          exact ⟨a, rfl, by simp; omega, by rw [Heap.gqz (by omega)]; exact c2, c3⟩
        obtain ⟨v', H', q1, g2⟩ := app_one (by_ := 4) (j := H.n) (xs := nums .u32 [w]) (r := false) (f := false) (e' := ty_uint32) g' (by rw [Heap.gpz rfl]) rfl (by omega) (by decide)
        refine Tot.pure q1 ?_
        have e2 : arA .add (.int .i64 (i : Int)) (.int .i64 2) = some (.int .i64 ((i + 2 : Nat) : Int)) := by simp (disch := omega) []
        refine Tot.pure e2 ?_
        refine ih (i + 2) H' v' m' (done ++ [w]) (by omega) (by omega) hm' (by simp; omega) ?_
        have e3 : nums .u32 done ++ nums .u32 [w] = nums .u32 (done ++ [w]) := by simp [nums]
        rw [e3] at g2
        rw [List.length_append]
        exact g2
      refine Tot.pure (len_encN (by omega)) ?_
      by_cases hi2 : i + 1 < l.length
      · have a2 : l[i + 1] < 65536 := hl _ (List.getElem_mem hi2)
        have e4 : arA .lss (.int .i64 ((i : Int) + 1)) (.int .i64 (l.length : Int)) = some (.bool true) := by simp (disch := omega) []; omega
        refine Tot.pure e4 ?_
        refine Tot.pure (show asB (.bool true) = some true from rfl) ?_
        simp only [if_true]
        have e9 : arA .add (.int .i64 (i : Int)) (.int .i64 1) = some (.int .i64 ((i + 1 : Nat) : Int)) := by simp (disch := omega) []
        refine Tot.pure e9 ?_
        refine Tot.pure (idx_encN hi2) ?_
        refine Tot.pure (ld1_encN hi2) ?_
        have e5 : arA .mul (.int .i64 65536) (.int .i64 (l[i + 1] : Int)) = some (.int .i64 ((65536 * l[i + 1] : Nat) : Int)) := by simp (disch := omega) []
        have e6 : arA .add (.int .i64 (l[i] : Int)) (.int .i64 ((65536 * l[i + 1] : Nat) : Int)) = some (.int .i64 ((l[i] + 65536 * l[i + 1] : Nat) : Int)) := by simp (disch := omega) []
        have e7 : cvInt .u32 (.int .i64 ((l[i] + 65536 * l[i + 1] : Nat) : Int)) = some (.int .u32 ((l[i] + 65536 * l[i + 1] : Nat) : Int)) := by simp (disch := omega) [cvInt]
        refine Tot.pure e5 ?_
        refine Tot.pure e6 ?_
        refine Tot.pure e7 ?_
        have e8 : l.drop i = l[i] :: l[i + 1] :: l.drop (i + 2) := by rw [List.drop_eq_getElem_cons hi, List.drop_eq_getElem_cons hi2]
        have := tail (l[i] + 65536 * l[i + 1])
        rw [List.append_assoc] at this
        rw [e8]
        exact this
      · have e4 : arA .lss (.int .i64 ((i : Int) + 1)) (.int .i64 (l.length : Int)) = some (.bool false) := by simp (disch := omega) []; omega
        refine Tot.pure e4 ?_
        refine Tot.pure (show asB (.bool false) = some false from rfl) ?_
        simp only [Bool.false_eq_true, if_false]
        have e7 : cvInt .u32 (.int .i64 (l[i] : Int)) = some (.int .u32 (l[i] : Int)) := by simp (disch := omega) [cvInt]
        refine Tot.pure e7 ?_
        have e8 : l.drop i = [l[i]] := by rw [List.drop_eq_getElem_cons hi, List.drop_of_length_le (by omega)]
        have := tail l[i]
        rw [List.drop_of_length_le (by omega)] at this
        rw [e8]
        simpa [pairs] using this
    · have e1 : arA .lss (.int .i64 (i : Int)) (.int .i64 (l.length : Int)) = some (.bool false) := by simp (disch := omega) []; omega
      refine Tot.pure e1 ?_
      repeat (first | refine Tot.autoP ?_ | refine Tot.autoC ?_ | fail)
      rw [List.drop_of_length_le (by omega)]
      exact g.frz (by simp [nums]) fun H' => by simp [pairs, encN]
theorem pairs_digK {x : Nat} : pairs (digK 65536 x) = digK 4294967296 x := by
  rw [digK_eq (by decide), digK_eq (by decide), pairs_dig 65536 (by decide) rfl x x (Nat.le_refl _)]
theorem ref03_Nat_N {H : Heap} {x k : Nat} (h : x < 2 ^ k) (hk : k < 900000) : Gv (fun n => f_ref03_Nat n [natD x] H) (natW x) H := by
  refine ref03_Nat_tot (all1 natD_fro) (fre1 natD_free) ?_
  simp only [ref03_Nat_b]
  have b1 : bSl 1 ty_uint32 [.int .u32 0] 0 [] = some (.cells [] ty_uint32 false) := by
    have io : ∀ {k : IntKind} {z : Int}, (V.int k z).one = true := rfl
    simp [bSl, rowA, io]
  refine Tot.pure b1 ?_
  have hl : (digK 65536 x).length < 900000 := by
    rw [digK_eq (by decide)]
    exact Nat.lt_of_le_of_lt (dig_len2 (by decide) h) hk
  refine Tot.mono (nat_loop (digK_lim (by decide)) hl (digK 65536 x).length 0 _ _ _ [] (by omega) (by omega) Big.id (by simp) ⟨0, rfl, by simp, by simp (disch := first | omega | (simp only [npz, nsz, nmz] <;> omega) | (simp <;> omega) | fail) [lhz, lgz, sgz, faA_mk, boxA_agg, Heap.gqz, Heap.gpz, Heap.gtz, Heap.gsz, gmz, npz, nsz, nmz, chk_agg, nums], by simp [nums]⟩) ?_
  intro v _ hv
  rw [List.drop_zero, List.nil_append, pairs_digK] at hv
  subst hv
  exact ⟨natW_free, by simp [natW]⟩
end N
end Go.AM
end
section
set_option linter.unusedVariables false
set_option linter.unusedSimpArgs false
set_option linter.unusedSimpArgs false
set_option linter.unusedVariables false
set_option maxRecDepth 100000
namespace Go.AM
namespace N
theorem same_loop {l : List Nat} (hn : l.length < 900000) : ∀ (j i : Nat) (H : Heap) (m : Nat → Nat), i + j = l.length → Big m →
    Tot (fun n => ref03_Same.l0 n (m n) (encN .u32 l) (encN .u32 l) (.int .i64 (i : Int)) H) fun u H' => H' = H ∧ u = .bool true := by
  intro j
  induction j with
  | zero =>
    intro i H m h1 hm
    refine ref03_Same.l0_tot hm fun m' hm' => ?_
    simp only [ref03_Same.l0_b]
    refine Tot.pure (len_encN (by omega)) ?_
    have e1 : arA .lss (.int .i64 (i : Int)) (.int .i64 (l.length : Int)) = some (.bool false) := by simp (disch := omega) []; omega
    refine Tot.pure e1 ?_
    repeat (first | refine Tot.autoP ?_ | refine Tot.autoC ?_ | fail)
    exact ⟨_, _, ⟨rfl, rfl⟩, 0, fun _ _ => rfl⟩
  | succ j ih =>
    intro i H m h1 hm
    have hi : i < l.length := by omega
    refine ref03_Same.l0_tot hm fun m' hm' => ?_
    simp only [ref03_Same.l0_b, more0]
    refine Tot.pure (len_encN (by omega)) ?_
    have e1 : arA .lss (.int .i64 (i : Int)) (.int .i64 (l.length : Int)) = some (.bool true) := by simp (disch := omega) []; omega
    refine Tot.pure e1 ?_
    repeat (first | refine Tot.pure (by simp (disch := first | omega | (simp only [npz, nsz, nmz] <;> omega) | fail) [lhz, lgz, sgz, boxA, gz, gs, Heap.gqz, Heap.gpz, Heap.gtz, Heap.gsz, gmz, npz, nsz, nmz, idx_encN hi, ld1_encN hi]; try exact rfl) ?_ | refine Tot.chk (by simp (disch := first | omega | (simp only [npz, nsz, nmz] <;> omega) | fail) [lhz, lgz, sgz, boxA, gz, gs, Heap.gqz, Heap.gpz, Heap.gtz, Heap.gsz, gmz, npz, nsz, nmz, idx_encN hi, ld1_encN hi]; done) ?_ | fail)
    have e9 : arA .add (.int .i64 (i : Int)) (.int .i64 1) = some (.int .i64 ((i + 1 : Nat) : Int)) := by simp (disch := omega) []
    first
      | exact ih (i + 1) H m' (by omega) hm'
      | (simp only [Bool.false_eq_true, if_false]; refine Tot.pure e9 ?_; exact ih (i + 1) H m' (by omega) hm')
theorem ref03_Same_N {H : Heap} {x k : Nat} (h : x < 2 ^ k) (hk : k < 900000) : Gv (fun n => f_ref03_Same n [natW x, natD x] H) (.bool true) H := by
  refine ref03_Same_tot (all2 natW_fro natD_fro) (fre2 natW_free natD_free) ?_
  simp only [ref03_Same_b]
  refine Gv.bind (ref03_Nat_N h hk) ?_
  dsimp only
  have hl : (digK 4294967296 x).length < 900000 := by
    rw [digK_eq (by decide)]
    exact Nat.lt_of_le_of_lt (dig_len2 (by decide) h) hk
  refine Tot.pure (len_encN (by omega)) ?_
  refine Tot.pure (len_encN (by omega)) ?_
  repeat (first | refine Tot.autoP ?_ | refine Tot.autoC ?_ | fail)
  refine Tot.mono (same_loop hl (digK 4294967296 x).length 0 _ _ (by omega) Big.id) ?_
  intro v _ ⟨_, hv⟩
  subst hv
  simp
end N
end Go.AM
end
section
set_option linter.unusedVariables false
set_option linter.unusedSimpArgs false
set_option linter.unusedSimpArgs false
set_option linter.unusedVariables false
set_option maxRecDepth 100000
namespace Go.AM
namespace N
variable {H : Heap}
theorem ref04_Same_N {z : Int} {k : Nat} (h : z.natAbs < 2 ^ k) (hk : k < 900000) : Gv (fun n => f_ref04_Same n [intW z, intD z] H) (.bool true) H := by
  refine ref04_Same_tot (all2 intW_fro intD_fro) (fre2 intW_free intD_free) ?_
  simp only [ref04_Same_b, intW, intD]
  repeat (first | refine Tot.autoP ?_ | refine Tot.autoC ?_ | fail)
  refine Gv.bind (ref03_Same_N h hk) ?_
  dsimp only
  repeat (first | refine Tot.autoP ?_ | refine Tot.autoC ?_ | fail)
  exact Tot.ret (by simp)
theorem ref05_Same_N {q : Rat} {k : Nat} (h : Bq k q) (hk : k < 900000) : Gv (fun n => f_ref05_Same n [ratQ q, ratD q.num q.den] H) (.bool true) H := by
  refine ref05_Same_tot (all2 ratW_fro ratD_fro) (fre2 ratW_free ratD_free) ?_
  simp only [ref05_Same_b, ratQ, ratW, ratD]
  repeat (first | refine Tot.autoP ?_ | refine Tot.autoC ?_ | fail)
  refine Gv.bind (r5_Low_N h.dq (by omega)) ?_
  dsimp only [ratD]
  repeat (first | refine Tot.autoP ?_ | refine Tot.autoC ?_ | fail)
  refine Gv.bind (ref04_Same_N h.1 hk) ?_
  dsimp only
  repeat (first | refine Tot.autoP ?_ | refine Tot.autoC ?_ | fail)
  refine Gv.bind (ref03_Same_N h.2 hk) ?_
  dsimp only
  exact Tot.ret (by simp)
end N
end Go.AM
end
section
set_option linter.unusedVariables false
set_option linter.unusedSimpArgs false
set_option linter.unusedSimpArgs false
set_option linter.unusedVariables false
set_option maxRecDepth 100000
namespace Go.AM
theorem sl_encN {k : IntKind} {l : List Nat} {m : Nat} (h0 : 0 < m) (h : m < l.length) : slSl 1 (encN k l) none (some (.int .i64 (m : Int))) = some (encN k (l.take m)) := by
  have e : (l.take m).length = m := by rw [List.length_take]; omega
  unfold encN
  rw [if_neg (by omega), if_neg (by omega), e]
  simp only [slSl, bndA, Option.bind_some, Int.toNat_natCast]
  simp [nums, List.map_take, show ¬ 0 = m by omega, show m ≤ l.length by omega]
theorem len_enc {k : IntKind} {l : List Nat} : lenSl (encN k l) = some (.int .i64 (l.length : Int)) := by
  unfold encN; split
  · simp_all [lenSl]
  · simp_all [lenSl]
namespace N
variable {H : Heap}
theorem src_encN {k : IntKind} {l : List Nat} : srcA 1 (encN k l) H = some (l.length, nums k l) := by
  unfold encN; split
  · rename_i h
    obtain rfl := List.eq_nil_of_length_eq_zero h
    simp [srcA, nums]
  · simp [srcA, nums]
theorem short_p1 {s : Bool} {l q : List Nat} {a b : V} (hl : l.length < 900000) (hq : q.length < 900000) (h2 : H.n = 2) (g0 : H.get 0 = .cells [.bool s, a, b] ty_api_Rat false)
    (g1 : H.get 1 = .cells [.bool false, .slice ⟨none, 0, 0, false⟩, .slice ⟨none, 0, 0, false⟩] ty_api_Rat false) :
    Tot (fun n => law42_short.p1 n (.ptr (some (0, 0))) (.ptr (some (1, 0))) (encN .u32 l) (encN .u32 q) H) fun u _ => u = rawL s l q := by
  refine law42_short.p1_tot ?_
  simp only [law42_short.p1_b]
  have b1 : bSl 1 ty_uint32 [.int .u32 0] 0 [] = some (.cells (nums .u32 []) ty_uint32 false) := by
    have io : ∀ {k : IntKind} {z : Int}, (V.int k z).one = true := rfl
    simp [bSl, rowA, io, nums]
  refine Tot.pure b1 ?_
  have o1 : Own ((H.more 2).set (H.n + 0) (.cells (nums .u32 []) ty_uint32 false)) .u32 ty_uint32 ⟨some (H.n + 0, 0), 0, 1, false⟩ [] := .inr ⟨H.n + 0, rfl, by simp (disch := first | omega | (simp only [npz, nsz, nmz] <;> omega) | (simp <;> omega) | fail) [lhz, lgz, sgz, faA_mk, boxA_agg, Heap.gqz, Heap.gpz, Heap.gtz, Heap.gsz, gmz, npz, nsz, nmz, chk_agg, h2], by simp (disch := first | omega | (simp only [npz, nsz, nmz] <;> omega) | (simp <;> omega) | fail) [lhz, lgz, sgz, faA_mk, boxA_agg, Heap.gqz, Heap.gpz, Heap.gtz, Heap.gsz, gmz, npz, nsz, nmz, chk_agg, h2]⟩
  have cA : Ext0 H ((H.more 2).set (H.n + 0) (.cells (nums .u32 []) ty_uint32 false)) := Keep.ext (Keep.auto)
  obtain ⟨s1, H1, a1, w1, c1, d1⟩ := appA_own (by_ := 4) o1 (src_encN (l := l)) (by simp; omega) (by decide)
  refine Tot.pure a1 ?_
  refine Tot.pure b1 ?_
  have c1' : Ext0 H H1 := (cA.trans c1 (Y := (Sl.mk (some (H.n + 0, 0)) 0 1 false).has) fun i hi hx => by rw [has_mk] at hx; omega)
  have n1 := c1.n
  simp only [nsz, nmz] at n1
  have o2 : Own (H1.set (H.n + 1) (.cells (nums .u32 []) ty_uint32 false)) .u32 ty_uint32 ⟨some (H.n + 1, 0), 0, 1, false⟩ [] := .inr ⟨H.n + 1, rfl, by simp; omega, Heap.gsz rfl⟩
  have cB : Ext0 H (H1.set (H.n + 1) (.cells (nums .u32 []) ty_uint32 false)) := (c1'.trans (Y := fun i => i = H.n + 1) (Ch.set rfl) fun i hi hx => by omega)
  obtain ⟨s2, H2, a2, w2, c2, d2⟩ := appA_own (by_ := 4) o2 (src_encN (l := q)) (by simp; omega) (by decide)
  dsimp only
  refine Tot.pure a2 ?_
  have c2' : Ext0 H H2 := cB.trans c2 fun i hi hx => by rw [has_mk] at hx; omega
  have n2 := c2.n
  simp only [nsz] at n2
  have x0 := c1'.get 0 (by omega) (fun f => f)
  have x1 := c2'.get 0 (by omega) (fun f => f)
  have y1 := c2'.get 1 (by omega) (fun f => f)
  rw [g0] at x0 x1
  rw [g1] at y1
  dsimp only
  have hs1 : ∀ i, s1.has i → i ≠ H.n + 1 := by
    intro i hi
    rcases d1 i hi with h | h
    · rw [has_mk] at h; omega
    · simp at h; omega
  have hb : ∀ i, s1.has i → 2 ≤ i := by
    intro i hi
    rcases d1 i hi with h | h
    · rw [has_mk] at h; omega
    · simp at h; omega
  have hb2 : ∀ i, s2.has i → 2 ≤ i := by
    intro i hi
    rcases d2 i hi with h | h
    · rw [has_mk] at h; omega
    · simp at h; omega
  repeat (first | refine Tot.pure (by simp (disch := first | omega | (simp only [npz, nsz, nmz] <;> omega) | fail) [lhz, lgz, sgz, boxA, gz, gs, Heap.gqz, Heap.gpz, Heap.gtz, Heap.gsz, gmz, npz, nsz, nmz, x0, x1, y1, g0, faA_mk]; try exact rfl) ?_ | refine Tot.chk (by simp (disch := first | omega | (simp only [npz, nsz, nmz] <;> omega) | fail) [lhz, lgz, sgz, boxA, gz, gs, Heap.gqz, Heap.gpz, Heap.gtz, Heap.gsz, gmz, npz, nsz, nmz, x0, x1, y1, g0, faA_mk]; done) ?_ | fail)
  have r1 : Row H2 .u32 s1 ([] ++ l) := ((w1.ch (X := fun i => i = H.n + 1) (Ch.set rfl) hs1).ch c2 fun i hi hx => hs1 i hi (has_mk.1 hx)).row
  have r2 : Row H2 .u32 s2 ([] ++ q) := w2.row
  have r1' := r1.ch (H' := H2.set 1 (.cells [.bool s, .slice s1, .slice s2] ty_api_Rat false)) (X := fun i => i = 1) (Ch.set rfl) fun i hi hx => by have := hb i hi; omega
  have r2' := r2.ch (H' := H2.set 1 (.cells [.bool s, .slice s1, .slice s2] ty_api_Rat false)) (X := fun i => i = 1) (Ch.set rfl) fun i hi hx => by have := hb2 i hi; omega
  exact Tot.fa (FzL.fro (by simp) (FzL.row r1' (FzL.row r2' FzL.nil))) fun H' => rfl
theorem short_p0 {s : Bool} {l q : List Nat} {a b : V} (hl : l.length < 900000) (h2 : H.n = 2) (g0 : H.get 0 = .cells [.bool s, a, b] ty_api_Rat false)
    (g1 : H.get 1 = .cells [.bool false, .slice ⟨none, 0, 0, false⟩, .slice ⟨none, 0, 0, false⟩] ty_api_Rat false) :
    Tot (fun n => law42_short.p0 n (.ptr (some (0, 0))) (.ptr (some (1, 0))) (encN .u32 l) (encN .u32 q) H) fun u _ => u = rawL s l (q.take 1) := by
  refine law42_short.p0_tot ?_
  simp only [law42_short.p0_b]
  refine Tot.pure (len_enc) ?_
  by_cases h : 1 < q.length
  · have e1 : arA .gtr (.int .i64 (q.length : Int)) (.int .i64 1) = some (.bool true) := by simp (disch := omega) []; omega
    refine Tot.pure e1 ?_
    refine Tot.pure (show asB (.bool true) = some true from rfl) ?_
    simp only [if_true]
    refine Tot.pure (sl_encN (m := 1) (by decide) h) ?_
    exact short_p1 hl (by rw [List.length_take]; omega) h2 g0 g1
  · have e1 : arA .gtr (.int .i64 (q.length : Int)) (.int .i64 1) = some (.bool false) := by simp (disch := omega) []; omega
    refine Tot.pure e1 ?_
    refine Tot.pure (show asB (.bool false) = some false from rfl) ?_
    simp only [Bool.false_eq_true, if_false]
    rw [List.take_of_length_le (by omega)]
    exact short_p1 hl (by omega) h2 g0 g1
theorem short_N {s : Bool} {l q : List Nat} : Gv (fun n => f_law42_short n [rawL s l q] H) (rawL s (l.take 2) (q.take 1)) H := by
  refine law42_short_tot (all1 rawL_fro) (fre1 rawL_free) ?_
  simp only [law42_short_b, rawL]
  repeat (first | refine Tot.pure (by simp (disch := first | omega | (simp only [npz, nsz, nmz] <;> omega) | fail) [lhz, lgz, sgz, boxA, gz, gs, Heap.gqz, Heap.gpz, Heap.gtz, Heap.gsz, gmz, npz, nsz, nmz, encN_one, encN_cells, encN_beq]; try exact rfl) ?_ | refine Tot.chk (by simp (disch := first | omega | (simp only [npz, nsz, nmz] <;> omega) | fail) [lhz, lgz, sgz, boxA, gz, gs, Heap.gqz, Heap.gpz, Heap.gtz, Heap.gsz, gmz, npz, nsz, nmz, encN_one, encN_cells, encN_beq]; done) ?_ | fail)
  refine Tot.pure (len_enc) ?_
  by_cases h : 2 < l.length
  · have e1 : arA .gtr (.int .i64 (l.length : Int)) (.int .i64 2) = some (.bool true) := by simp (disch := omega) []; omega
    refine Tot.pure e1 ?_
    refine Tot.pure (show asB (.bool true) = some true from rfl) ?_
    simp only [if_true]
    refine Tot.pure (sl_encN (m := 2) (by decide) h) ?_
    refine Tot.mono (short_p0 (a := encN .u32 l) (b := encN .u32 q) (s := s) (l := l.take 2) (by rw [List.length_take]; omega) (by simp (disch := first | omega | (simp only [npz, nsz, nmz] <;> omega) | (simp <;> omega) | fail) [lhz, lgz, sgz, faA_mk, boxA_agg, Heap.gqz, Heap.gpz, Heap.gtz, Heap.gsz, gmz, npz, nsz, nmz, chk_agg, ]) (by simp (disch := first | omega | (simp only [npz, nsz, nmz] <;> omega) | (simp <;> omega) | fail) [lhz, lgz, sgz, faA_mk, boxA_agg, Heap.gqz, Heap.gpz, Heap.gtz, Heap.gsz, gmz, npz, nsz, nmz, chk_agg, ]) (by simp (disch := first | omega | (simp only [npz, nsz, nmz] <;> omega) | (simp <;> omega) | fail) [lhz, lgz, sgz, faA_mk, boxA_agg, Heap.gqz, Heap.gpz, Heap.gtz, Heap.gsz, gmz, npz, nsz, nmz, chk_agg, ])) ?_
    intro v _ hv
    subst hv
    exact ⟨rawL_free, by simp [rawL]⟩
  · have e1 : arA .gtr (.int .i64 (l.length : Int)) (.int .i64 2) = some (.bool false) := by simp (disch := omega) []; omega
    refine Tot.pure e1 ?_
    refine Tot.pure (show asB (.bool false) = some false from rfl) ?_
    simp only [Bool.false_eq_true, if_false]
    refine Tot.mono (short_p0 (a := encN .u32 l) (b := encN .u32 q) (s := s) (l := l) (by omega) (by simp (disch := first | omega | (simp only [npz, nsz, nmz] <;> omega) | (simp <;> omega) | fail) [lhz, lgz, sgz, faA_mk, boxA_agg, Heap.gqz, Heap.gpz, Heap.gtz, Heap.gsz, gmz, npz, nsz, nmz, chk_agg, ]) (by simp (disch := first | omega | (simp only [npz, nsz, nmz] <;> omega) | (simp <;> omega) | fail) [lhz, lgz, sgz, faA_mk, boxA_agg, Heap.gqz, Heap.gpz, Heap.gtz, Heap.gsz, gmz, npz, nsz, nmz, chk_agg, ]) (by simp (disch := first | omega | (simp only [npz, nsz, nmz] <;> omega) | (simp <;> omega) | fail) [lhz, lgz, sgz, faA_mk, boxA_agg, Heap.gqz, Heap.gpz, Heap.gtz, Heap.gsz, gmz, npz, nsz, nmz, chk_agg, ])) ?_
    intro v _ hv
    subst hv
    rw [List.take_of_length_le (show l.length ≤ 2 by omega)]
    exact ⟨rawL_free, by simp [rawL]⟩
end N
end Go.AM
end
section
set_option linter.unusedVariables false
set_option linter.unusedSimpArgs false
set_option linter.unusedSimpArgs false
set_option linter.unusedVariables false
set_option maxRecDepth 100000
namespace Go.AM
def Spt.cut (p : Spt) : Spt := ⟨p.s, p.l.take 2, p.q.take 1, p.t, p.m.take 2, p.r.take 1⟩
theorem take33 {c : List V} {p : Spt} (h : c.take 6 = p.cells) : c.take 3 = [.bool p.s, encN .u32 p.l, encN .u32 p.q] ∧ (c.drop 3).take 3 = [.bool p.t, encN .u32 p.m, encN .u32 p.r] := by
  have e1 : c.take 3 = (c.take 6).take 3 := by rw [List.take_take]; rfl
  have e2 : (c.drop 3).take 3 = (c.take 6).drop 3 := by rw [List.drop_take]
  rw [e1, e2, h]
  exact ⟨rfl, rfl⟩
namespace N
theorem few_loop {L : List Spt} (hn : L.length < 100) : ∀ (j i : Nat) (H : Heap) (v : V) (m : Nat → Nat), i + j = L.length → Big m → Grow H ty_api_Spot v i 6 ((L.take i).flatMap fun p => p.cut.cells) →
    Tot (fun n => law42_few.l1 n (m n) (rowS L) v (.int .i64 (i : Int)) H) fun u _ => u = rowS (L.map Spt.cut) := by
  intro j
  induction j with
  | zero =>
    intro i H v m hij hm g
    refine law42_few.l1_tot hm fun m' hm' => ?_
    simp only [law42_few.l1_b]
    obtain rfl : i = L.length := by omega
    refine Tot.pure (lenSl_row (by omega)) ?_
    have e1 : arA .lss (.int .i64 (L.length : Int)) (.int .i64 (L.length : Int)) = some (.bool false) := by simp (disch := omega) []
    refine Tot.pure e1 ?_
    repeat (first | refine Tot.autoP ?_ | refine Tot.autoC ?_ | fail)
    rw [List.take_length] at g
    have e2 : (L.flatMap fun p => p.cut.cells) = (L.map Spt.cut).flatMap Spt.cells := by rw [List.flatMap_map]
    rw [e2] at g
    exact g.frz (flat_fro _).1 fun H' => by simp [rowS]
  | succ j ih =>
    intro i H v m hij hm g
    have h1 : i < L.length := by omega
    refine law42_few.l1_tot hm fun m' hm' => ?_
    simp only [law42_few.l1_b]
    refine Tot.pure (lenSl_row (by omega)) ?_
    have e1 : (arA .lss (.int .i64 (i : Int)) (.int .i64 (L.length : Int))) = some (.bool true) := by simp (disch := omega) []; omega
    refine Tot.pure e1 ?_
    obtain ⟨d1, d2⟩ := drop6 L i h1
    obtain ⟨t1, t2⟩ := take33 d1
    repeat (first | refine Tot.pure (by simp (disch := first | omega | (simp only [npz, nsz, nmz] <;> omega) | fail) [lhz, lgz, sgz, boxA, gz, gs, Heap.gqz, Heap.gpz, Heap.gtz, Heap.gsz, gmz, npz, nsz, nmz, idxS_row h1, ldN_row h1]; try exact rfl) ?_ | refine Tot.chk (by simp (disch := first | omega | (simp only [npz, nsz, nmz] <;> omega) | fail) [lhz, lgz, sgz, boxA, gz, gs, Heap.gqz, Heap.gpz, Heap.gtz, Heap.gsz, gmz, npz, nsz, nmz, idxS_row h1, ldN_row h1]; done) ?_ | fail)
    have f0 : faA 0 (.lptr ((L.flatMap Spt.cells).drop (i * 6))) = some (.lptr (((L.flatMap Spt.cells).drop (i * 6)).drop 0)) := by simp only [faA]; rw [if_pos (by omega)]
    have f3 : faA 3 (.lptr ((L.flatMap Spt.cells).drop (i * 6))) = some (.lptr (((L.flatMap Spt.cells).drop (i * 6)).drop 3)) := by simp only [faA]; rw [if_pos (by omega)]
    have x0 : ∀ G : Heap, ldN 3 (.lptr (((L.flatMap Spt.cells).drop (i * 6)).drop 0)) G = some (rawL L[i].s L[i].l L[i].q) := by intro G; simp only [ldN, List.drop_zero, t1]; rw [if_pos (by omega)]; rfl
    have x3 : ∀ G : Heap, ldN 3 (.lptr (((L.flatMap Spt.cells).drop (i * 6)).drop 3)) G = some (rawL L[i].t L[i].m L[i].r) := by intro G; simp only [ldN, t2]; rw [if_pos (by rw [List.length_drop]; omega)]; rfl
    refine Tot.pure f0 ?_
    refine Tot.pure (x0 _) ?_
    refine Gv.bind (short_N) ?_
    refine Tot.pure (idxS_row h1) ?_
    refine Tot.pure f3 ?_
    refine Tot.pure (x3 _) ?_
    have ck : chk (some (rawL L[i].t L[i].m L[i].r)) (rawL L[i].t L[i].m L[i].r) = some () := by unfold rawL; rw [chk_aggb]; simp [encN_beq, V.beq]
    refine Tot.pure (by rw [x3]; exact ck) ?_
    refine Gv.bind (short_N) ?_
    dsimp only [rawL]
    repeat (first | refine Tot.pure (by simp (disch := first | omega | (simp only [npz, nsz, nmz] <;> omega) | fail) [lhz, lgz, sgz, boxA, gz, gs, Heap.gqz, Heap.gpz, Heap.gtz, Heap.gsz, gmz, npz, nsz, nmz, encN_one, encN_cells]; try exact rfl) ?_ | refine Tot.chk (by simp (disch := first | omega | (simp only [npz, nsz, nmz] <;> omega) | fail) [lhz, lgz, sgz, boxA, gz, gs, Heap.gqz, Heap.gpz, Heap.gtz, Heap.gsz, gmz, npz, nsz, nmz, encN_one, encN_cells]; done) ?_ | fail)
    have b1 : bSl 6 ty_api_Spot [.bool false, .slice ⟨none, 0, 0, false⟩, .slice ⟨none, 0, 0, false⟩, .bool false, .slice ⟨none, 0, 0, false⟩, .slice ⟨none, 0, 0, false⟩] 1 [(0, .agg L[i].cut.cells)] = some (.cells L[i].cut.cells ty_api_Spot false) := by
      simp [bSl, rowA, Spt.cells, encN_one, bool_one]
    refine Tot.pure b1 ?_
    have g' : Grow ((H.more 1).set (H.n + 0) (.cells L[i].cut.cells ty_api_Spot false)) ty_api_Spot v i 6 ((L.take i).flatMap fun p => p.cut.cells) := by
      obtain ⟨a, rfl, c1, c2, c3⟩ := g
      exact ⟨a, rfl, by simp; omega, by rw [Heap.get_set, if_neg (by omega)]; exact c2, c3⟩
    obtain ⟨v', H', a1, g2⟩ := app_one (by_ := 112) (j := H.n + 0) (xs := L[i].cut.cells) (r := false) (f := false) (e' := ty_api_Spot) g' (by rw [Heap.gsz rfl]) rfl (by omega) (by decide)
    refine Tot.pure a1 ?_
    refine Tot.pure (add1_is (i := i) (by omega)) ?_
    refine ih (i + 1) H' v' m' (by omega) hm' ?_
    rw [List.take_succ_eq_append_getElem h1, List.flatMap_append, List.flatMap_cons, List.flatMap_nil, List.append_nil]
    exact g2
end N
end Go.AM
end
section
set_option linter.unusedVariables false
set_option linter.unusedSimpArgs false
set_option linter.unusedSimpArgs false
set_option linter.unusedVariables false
set_option maxRecDepth 100000
namespace Go.AM
namespace N
variable {H : Heap}
theorem few_p0 {L : List Spt} (hn : L.length < 100) (h0 : H.n = 0) : Tot (fun n => law42_few.p0 n (rowS L) H) fun u _ => u = rowS (L.map Spt.cut) := by
  refine law42_few.p0_tot ?_
  simp only [law42_few.p0_b]
  have b1 : bSl 6 ty_api_Spot [.bool false, .slice ⟨none, 0, 0, false⟩, .slice ⟨none, 0, 0, false⟩, .bool false, .slice ⟨none, 0, 0, false⟩, .slice ⟨none, 0, 0, false⟩] 0 [] = some (.cells [] ty_api_Spot false) := by
    have so : ∀ {s : Sl}, (V.slice s).one = true := rfl
    simp [bSl, rowA, bool_one, so]
  refine Tot.pure b1 ?_
  exact few_loop hn L.length 0 _ _ _ (by omega) Big.id ⟨H.n, rfl, by simp, by rw [Heap.gpz rfl]; rfl, by simp⟩
end N
end Go.AM
end
section
set_option linter.unusedVariables false
set_option linter.unusedSimpArgs false
set_option linter.unusedSimpArgs false
set_option linter.unusedVariables false
set_option maxRecDepth 100000
namespace Go.AM
theorem part_move (x y u v a b : Rat) : partQ (x - a) (y - b) (u - a) (v - b) = partQ x y u v - 4 * (x * v - y * u) * (a * (x + u) + b * (y + v)) + 6 * (x * v - y * u) * (a * a + b * b) + partQ (x - a) (y - b) (-a) (-b) - partQ (u - a) (v - b) (-a) (-b) := by
  unfold partQ; grind
section
variable (X Y : Nat → Rat)
def fanA : Nat → Rat
  | 0 => 0
  | j + 1 => fanA j + triQ (X 0) (Y 0) (X (j + 1)) (Y (j + 1)) (X (j + 2)) (Y (j + 2))
def fanX : Nat → Rat
  | 0 => 0
  | j + 1 => fanX j + triQ (X 0) (Y 0) (X (j + 1)) (Y (j + 1)) (X (j + 2)) (Y (j + 2)) * ((X 0 + X (j + 1) + X (j + 2)) * mkRat 1 3)
def fanY : Nat → Rat
  | 0 => 0
  | j + 1 => fanY j + triQ (X 0) (Y 0) (X (j + 1)) (Y (j + 1)) (X (j + 2)) (Y (j + 2)) * ((Y 0 + Y (j + 1) + Y (j + 2)) * mkRat 1 3)
def edge (cx cy : Rat) (i j : Nat) : Rat := partQ (X i - cx) (Y i - cy) (X j - cx) (Y j - cy)
def sumM (cx cy : Rat) : Nat → Rat
  | 0 => 0
  | i + 1 => sumM cx cy i + edge X Y cx cy i (i + 1)
def cr (cx cy : Rat) (i j : Nat) : Rat := (X i - cx) * (Y j - cy) - (Y i - cy) * (X j - cx)
def tail_ (cx cy a b : Rat) (i : Nat) : Rat := partQ (X i - cx - a) (Y i - cy - b) (-a) (-b)
theorem edge_move (cx cy a b : Rat) (i j : Nat) : edge X Y (cx + a) (cy + b) i j = edge X Y cx cy i j - 4 * cr X Y cx cy i j * (a * ((X i - cx) + (X j - cx)) + b * ((Y i - cy) + (Y j - cy))) + 6 * cr X Y cx cy i j * (a * a + b * b) + tail_ X Y cx cy a b i - tail_ X Y cx cy a b j := by
  have h := part_move (X i - cx) (Y i - cy) (X j - cx) (Y j - cy) a b
  unfold edge tail_ cr
  have e1 : ∀ p q r : Rat, p - (q + r) = p - q - r := fun p q r => by grind
  rw [e1, e1, e1, e1]
  exact h
theorem tri_cr (cx cy : Rat) (i j : Nat) : triQ (X 0) (Y 0) (X i) (Y i) (X j) (Y j) = cr X Y cx cy i j - cr X Y cx cy i 0 + cr X Y cx cy j 0 := by
  unfold triQ cr; grind
theorem third : mkRat 1 3 * 3 = 1 := by decide +kernel
theorem moves (cx cy a b : Rat) : ∀ k : Nat, sumM X Y (cx + a) (cy + b) (k + 1) = sumM X Y cx cy (k + 1)
    - 4 * (a * (3 * (fanX X Y k - cx * fanA X Y k) - cr X Y cx cy (k + 1) 0 * ((X (k + 1) - cx) + (X 0 - cx))) + b * (3 * (fanY X Y k - cy * fanA X Y k) - cr X Y cx cy (k + 1) 0 * ((Y (k + 1) - cy) + (Y 0 - cy))))
    + 6 * (fanA X Y k - cr X Y cx cy (k + 1) 0) * (a * a + b * b) + tail_ X Y cx cy a b 0 - tail_ X Y cx cy a b (k + 1)
  | 0 => by
    simp only [sumM, fanA, fanX, fanY, edge_move]
    have : cr X Y cx cy 0 1 = - cr X Y cx cy 1 0 := by unfold cr; grind
    rw [this]
    grind
  | k + 1 => by
    have ih := moves cx cy a b k
    have e1 : sumM X Y (cx + a) (cy + b) (k + 1 + 1) = sumM X Y (cx + a) (cy + b) (k + 1) + edge X Y (cx + a) (cy + b) (k + 1) (k + 1 + 1) := rfl
    have e2 : sumM X Y cx cy (k + 1 + 1) = sumM X Y cx cy (k + 1) + edge X Y cx cy (k + 1) (k + 1 + 1) := rfl
    have e3 : fanA X Y (k + 1) = fanA X Y k + triQ (X 0) (Y 0) (X (k + 1)) (Y (k + 1)) (X (k + 2)) (Y (k + 2)) := rfl
    have e4 : fanX X Y (k + 1) = fanX X Y k + triQ (X 0) (Y 0) (X (k + 1)) (Y (k + 1)) (X (k + 2)) (Y (k + 2)) * ((X 0 + X (k + 1) + X (k + 2)) * mkRat 1 3) := rfl
    have e5 : fanY X Y (k + 1) = fanY X Y k + triQ (X 0) (Y 0) (X (k + 1)) (Y (k + 1)) (X (k + 2)) (Y (k + 2)) * ((Y 0 + Y (k + 1) + Y (k + 2)) * mkRat 1 3) := rfl
    have e6 := third
    rw [tri_cr X Y cx cy] at e3 e4 e5
    rw [e1, e2, ih, edge_move]
    have d : ∀ (q s o r w z : Rat), cr X Y cx cy (k + 1) (k + 2) = q → cr X Y cx cy (k + 1) 0 = s → cr X Y cx cy (k + 2) 0 = o → True := fun _ _ _ _ _ _ _ _ _ => trivial
    have e4' : fanX X Y (k + 1) * 3 = fanX X Y k * 3 + (cr X Y cx cy (k + 1) (k + 2) - cr X Y cx cy (k + 1) 0 + cr X Y cx cy (k + 2) 0) * (X 0 + X (k + 1) + X (k + 2)) := by rw [e4]; grind
    have e5' : fanY X Y (k + 1) * 3 = fanY X Y k * 3 + (cr X Y cx cy (k + 1) (k + 2) - cr X Y cx cy (k + 1) 0 + cr X Y cx cy (k + 2) 0) * (Y 0 + Y (k + 1) + Y (k + 2)) := by rw [e5]; grind
    clear e1 e2 e4 e5 e6 ih d
    have xx : a * (cr X Y cx cy (k + 1) (k + 2) * (X (k + 1) - cx) + cr X Y cx cy (k + 2) 0 * (X (k + 2) - cx) - cr X Y cx cy (k + 1) 0 * (X (k + 1) - cx)) = a * (cr X Y cx cy (k + 1) (k + 2) * (X (k + 1) - cx) + cr X Y cx cy (k + 2) 0 * (X (k + 2) - cx) - cr X Y cx cy (k + 1) 0 * (X (k + 1) - cx)) := rfl
    have z1 : cr X Y cx cy (k + 1) (k + 2) * (X 0 - cx) - cr X Y cx cy (k + 1) 0 * (X (k + 2) - cx) + cr X Y cx cy (k + 2) 0 * (X (k + 1) - cx) = 0 := by unfold cr; grind
    have z2 : cr X Y cx cy (k + 1) (k + 2) * (Y 0 - cy) - cr X Y cx cy (k + 1) 0 * (Y (k + 2) - cy) + cr X Y cx cy (k + 2) 0 * (Y (k + 1) - cy) = 0 := by unfold cr; grind
    clear xx
    generalize cr X Y cx cy (k + 1) (k + 2) = q at *
    generalize cr X Y cx cy (k + 1) 0 = s at *
    generalize cr X Y cx cy (k + 2) 0 = o at *
    generalize fanA X Y (k + 1) = A' at *
    generalize fanX X Y (k + 1) = F' at *
    generalize fanY X Y (k + 1) = G' at *
    generalize fanA X Y k = A at *
    generalize fanX X Y k = F at *
    generalize fanY X Y k = G at *
    generalize X 0 = x0 at *
    generalize X (k + 1) = x1 at *
    generalize X (k + 2) = x2 at *
    generalize Y 0 = y0 at *
    generalize Y (k + 1) = y1 at *
    generalize Y (k + 2) = y2 at *
    subst e3
    grind
theorem round (cx cy a b : Rat) (k : Nat) (hx : fanX X Y k = cx * fanA X Y k) (hy : fanY X Y k = cy * fanA X Y k) :
    sumM X Y (cx + a) (cy + b) (k + 1) + edge X Y (cx + a) (cy + b) (k + 1) 0 = sumM X Y cx cy (k + 1) + edge X Y cx cy (k + 1) 0 + 6 * fanA X Y k * (a * a + b * b) := by
  rw [moves, edge_move, hx, hy]
  grind
end
end Go.AM
end
section
set_option linter.unusedVariables false
set_option linter.unusedSimpArgs false
set_option linter.unusedSimpArgs false
set_option linter.unusedVariables false
set_option maxRecDepth 100000
namespace Go.AM
theorem beq_natD {x : Nat} : (natD x).beq (natD x) = true := encN_beq
theorem Dq.num0 {k : Nat} {x : Int} {d : Nat} {q : Rat} (h : Dq k x d q) (h0 : q ≠ 0) : x ≠ 0 := by
  intro e; subst e
  exact h0 (by rw [← h.is]; exact Rat.zero_mkRat d)
theorem mk_div {x y : Int} {d e : Nat} (hd : 0 < d) (he : 0 < e) (hy : y ≠ 0) : mkRat x d / mkRat y e = mkRat (x * e * (d * y).sign) (d * y).natAbs := by
  have hd0 : ((d : Int) : Rat) ≠ 0 := by exact_mod_cast (by omega : (d : Int) ≠ 0)
  have he0 : ((e : Int) : Rat) ≠ 0 := by exact_mod_cast (by omega : (e : Int) ≠ 0)
  have hy0 : ((y : Int) : Rat) ≠ 0 := by exact_mod_cast hy
  have hz : ((d * y : Int)).natAbs ≠ 0 := by
    rw [Int.natAbs_mul]
    exact Nat.mul_ne_zero (by simpa using (by omega : d ≠ 0)) (by omega)
  have e1 : ∀ (n : Int) (m : Nat), mkRat n m = (n : Rat) / (m : Int) := fun n m => by rw [Rat.mkRat_eq_div]; rfl
  rw [e1, e1, e1]
  have e2 : (((d * y : Int)).natAbs : Int) = (d * y) * (d * y).sign := by rw [Int.mul_sign_self]
  have hs0 : (((d * y : Int).sign : Int) : Rat) ≠ 0 := by
    have : (d * y : Int).sign ≠ 0 := by
      intro h; rw [Int.sign_eq_zero_iff_zero] at h; apply hz; rw [h]; rfl
    exact_mod_cast this
  rw [e2]
  simp only [Rat.intCast_mul]
  grind
theorem Dq.div {k m : Nat} {x y : Int} {d e : Nat} {p q : Rat} (h : Dq k x d p) (h' : Dq m y e q) (h0 : q ≠ 0) : Dq (k + m) (x * e * (d * y).sign) (d * y).natAbs (p / q) := by
  have hy := h'.num0 h0
  have hz : (d * y : Int) ≠ 0 := Int.mul_ne_zero (by have := h.pos; omega) hy
  refine ⟨by omega, ?_, ?_, ?_⟩
  · have hs : (d * y : Int).sign.natAbs = 1 := Int.natAbs_sign_of_ne_zero hz
    rw [Int.natAbs_mul, hs, Nat.mul_one, Int.natAbs_mul, Int.natAbs_natCast]
    exact lt_mul2 h.bx h'.bd
  · rw [Int.natAbs_mul, Int.natAbs_natCast]
    exact lt_mul2 h.bd h'.bx
  · rw [← h.is, ← h'.is]; exact (mk_div h.pos h'.pos hy).symm
namespace N
variable {H : Heap}
theorem r4_Mul_N {x y : Int} {k m : Nat} (h : x.natAbs < 2 ^ k) (h' : y.natAbs < 2 ^ m) (hk : k < 1000000) (hm : m < 1000000) : Gv (fun n => f_ref04_Mul n [intD x, intD y] H) (intD (x * y)) H :=
  ref04_Mul_ext (ext_tot (all2 intD_fro intD_fro) (by simp only [dJJ, decJ_intD (szD_of h hk), decJ_intD (szD_of h' hm)]; rfl) ⟨rfl, rfl⟩)
theorem r4_Neg_N {x : Int} {k : Nat} (h : x.natAbs < 2 ^ k) (hk : k < 1000000) : Gv (fun n => f_ref04_Neg n [intD x] H) (intD (-x)) H :=
  ref04_Neg_ext (ext_tot (all1 intD_fro) (by simp only [dJ, decJ_intD (szD_of h hk)]; rfl) ⟨rfl, rfl⟩)
theorem r4_Long_N {z : Int} (h : -9223372036854775808 ≤ z ∧ z ≤ 9223372036854775807) : Gv (fun n => f_ref04_Long n [.int .i64 z] H) (intD z) H :=
  ref04_Long_ext (ext_tot rfl (by simp only [dZ]; rw [if_pos h]; rfl) ⟨rfl, rfl⟩)
theorem r5_Cmp_N {k m : Nat} {x y : Int} {d e : Nat} {p q : Rat} (h : Dq k x d p) (h' : Dq m y e q) (hk : k < 1000000) (hm : m < 1000000) : Gv (fun n => f_ref05_Cmp n [ratD x d, ratD y e] H) (.int .i64 (x * e - y * d).sign) H :=
  ref05_Cmp_ext (ext_tot (all2 ratD_fro ratD_fro) (by simp only [dKK, h.dec hk, h'.dec hm]; rfl) ⟨rfl, rfl⟩)
theorem cmp_eq {k m : Nat} {x y : Int} {d e : Nat} {p : Rat} (h : Dq k x d p) (h' : Dq m y e p) : (x * e - y * d).sign = 0 := by
  have := h.is.trans h'.is.symm
  rw [Rat.mkRat_eq_iff (by have := h.pos; omega) (by have := h'.pos; omega)] at this
  rw [this]; simp
theorem r5_Over_N {z w : Int} {k m : Nat} (h : z.natAbs < 2 ^ k) (h' : w.natAbs < 2 ^ m) (hk : k < 1000000) (hm : m < 1000000) (h0 : w ≠ 0) : Gv (fun n => f_ref05_Over n [intD z, intD w] H) (ratD (z * w.sign) w.natAbs) H := by
  refine ref05_Over_tot (all2 intD_fro intD_fro) (fre2 intD_free intD_free) ?_
  simp only [ref05_Over_b, intD]
  repeat (first | refine Tot.autoP ?_ | refine Tot.autoC ?_ | fail)
  by_cases hw : w < 0
  · have hs : w.sign = -1 := Int.sign_eq_neg_one_of_neg hw
    have e1 : decide (w < 0) = true := decide_eq_true hw
    simp only [e1, if_true]
    repeat (first | refine Tot.autoP ?_ | refine Tot.autoC ?_ | fail)
    refine Gv.bind (r4_Neg_N h hk) ?_
    dsimp only [intD]
    repeat (first | refine Tot.autoP ?_ | refine Tot.autoC ?_ | fail)
    refine Gv.bind (r4_Neg_N h' hm) ?_
    dsimp only [intD]
    repeat (first | refine Tot.autoP ?_ | refine Tot.autoC ?_ | fail)
    have e2 : -w = (w.natAbs : Int) := by omega
    refine Tot.rf (by simp) ?_
    refine ⟨by simp, trivial, ?_⟩
    rw [hs]
    have e3 : ((w.natAbs : Nat) : Int).sign = 1 := Int.sign_eq_one_of_pos (by omega)
    simp only [ratD, e2, e3, Int.natAbs_natCast]
    simp
  · have hs : w.sign = 1 := Int.sign_eq_one_of_pos (by omega)
    have e1 : decide (w < 0) = false := decide_eq_false hw
    simp only [e1, if_false, Bool.false_eq_true]
    repeat (first | refine Tot.autoP ?_ | refine Tot.autoC ?_ | fail)
    have e2 : w = (w.natAbs : Int) := by omega
    refine Tot.rf (by simp) ?_
    refine ⟨by simp, trivial, ?_⟩
    rw [hs]
    have e3 : ((w.natAbs : Nat) : Int).sign = 1 := Int.sign_eq_one_of_pos (by omega)
    simp only [ratD, e3, Int.mul_one]
theorem r5_Div_N {k m : Nat} {x y : Int} {d e : Nat} {p q : Rat} (h : Dq k x d p) (h' : Dq m y e q) (hk : k + m < 1000000) (h0 : q ≠ 0) : Dv (fun n => f_ref05_Div n [ratD x d, ratD y e] H) (k + m) (p / q) H := by
  have hy := h'.num0 h0
  have hz : (d * y : Int) ≠ 0 := Int.mul_ne_zero (by have := h.pos; omega) hy
  refine ref05_Div_tot (all2 ratD_fro ratD_fro) (fre2 ratD_free ratD_free) ?_
  simp only [ref05_Div_b, ratD]
  repeat (first | refine Tot.autoP ?_ | refine Tot.autoC ?_ | fail)
  have a1 : x.natAbs < 2 ^ k := h.bx
  have a2 : ((e : Int)).natAbs < 2 ^ m := by rw [Int.natAbs_natCast]; exact h'.bd
  have a3 : ((d : Int)).natAbs < 2 ^ k := by rw [Int.natAbs_natCast]; exact h.bd
  refine Gv.bind (r4_Mul_N a1 a2 (by omega) (by omega)) ?_
  dsimp only [intD]
  repeat (first | refine Tot.pure (by simp (disch := first | omega | (simp only [npz, nsz, nmz] <;> omega) | fail) [lhz, lgz, sgz, boxA, gz, gs, Heap.gqz, Heap.gpz, Heap.gtz, Heap.gsz, gmz, npz, nsz, nmz, beq_natD]; try exact rfl) ?_ | refine Tot.chk (by simp (disch := first | omega | (simp only [npz, nsz, nmz] <;> omega) | fail) [lhz, lgz, sgz, boxA, gz, gs, Heap.gqz, Heap.gpz, Heap.gtz, Heap.gsz, gmz, npz, nsz, nmz, beq_natD]; done) ?_ | fail)
  refine Gv.bind (r4_Mul_N a3 h'.bx (by omega) (by omega)) ?_
  dsimp only
  refine Gv.bind (r5_Over_N (k := k + m) (m := k + m) (by rw [Int.natAbs_mul]; exact lt_mul2 a1 a2) (by rw [Int.natAbs_mul]; exact lt_mul2 a3 h'.bx) hk hk hz) ?_
  dsimp only [ratD]
  repeat (first | refine Tot.autoP ?_ | refine Tot.autoC ?_ | fail)
  exact Tot.rf (by simp) ⟨by simp, trivial, _, _, by simp [ratD], h.div h' h0⟩
theorem ref20_mean_N {k : Nat} {a b c : Rat} (ha : Bq k a) (hb : Bq k b) (hc : Bq k c) (hk : k < 100000) : Dv (fun n => f_ref20_mean n [ratD a.num a.den, ratD b.num b.den, ratD c.num c.den] H) (3 * k + 4) ((a + b + c) * mkRat 1 3) H := by
  refine ref20_mean_tot (all3 ratD_fro ratD_fro ratD_fro) (fre3 ratD_free ratD_free ratD_free) ?_
  simp only [ref20_mean_b, ratD]
  repeat (first | refine Tot.autoP ?_ | refine Tot.autoC ?_ | fail)
  refine Dv.bind (r5_Add_N ha.dq hb.dq (by omega) (by omega)) fun x1 d1 e1 => ?_
  dsimp only [ratD]
  repeat (first | refine Tot.pure (by simp (disch := first | omega | (simp only [npz, nsz, nmz] <;> omega) | fail) [lhz, lgz, sgz, boxA, gz, gs, Heap.gqz, Heap.gpz, Heap.gtz, Heap.gsz, gmz, npz, nsz, nmz, beq_natD]; try exact rfl) ?_ | refine Tot.chk (by simp (disch := first | omega | (simp only [npz, nsz, nmz] <;> omega) | fail) [lhz, lgz, sgz, boxA, gz, gs, Heap.gqz, Heap.gpz, Heap.gtz, Heap.gsz, gmz, npz, nsz, nmz, beq_natD]; done) ?_ | fail)
  refine Dv.bind (r5_Add_N e1 hc.dq (by omega) (by omega)) fun x2 d2 e2 => ?_
  dsimp only
  refine Gv.bind (r5_Low_N e2 (by omega)) ?_
  refine Gv.bind (r4_Long_N (by omega)) ?_
  refine Gv.bind (r4_Long_N (by omega)) ?_
  dsimp only [intD]
  repeat (first | refine Tot.autoP ?_ | refine Tot.autoC ?_ | fail)
  have t : Dq 2 1 3 (mkRat 1 3) := ⟨by decide, by decide, by decide, rfl⟩
  refine Dv.bind (r5_Mul_N (low_Bq e2).dq t (by omega) (by omega)) fun x3 d3 e3 => ?_
  dsimp only [ratD]
  repeat (first | refine Tot.autoP ?_ | refine Tot.autoC ?_ | fail)
  refine Tot.rf (by simp) ⟨by simp, trivial, _, _, by simp [ratD], e3.mono (by omega)⟩
end N
end Go.AM
end
section
set_option linter.unusedVariables false
set_option linter.unusedSimpArgs false
set_option linter.unusedSimpArgs false
set_option linter.unusedVariables false
set_option maxRecDepth 100000
namespace Go.AM
def pX (L : List Spt) (i : Nat) : Rat := (L[i]!).x
def pY (L : List Spt) (i : Nat) : Rat := (L[i]!).y
theorem pX_at {L : List Spt} {i : Nat} (h : i < L.length) : pX L i = L[i].x := by unfold pX; rw [getElem!_pos L i h]
theorem pY_at {L : List Spt} {i : Nat} (h : i < L.length) : pY L i = L[i].y := by unfold pY; rw [getElem!_pos L i h]
theorem pX_B {L : List Spt} {i : Nat} (hL : ∀ p ∈ L, p.ok) (h : i < L.length) : Bq 64 (pX L i) := by rw [pX_at h]; exact (hL _ (List.getElem_mem h)).bx
theorem pY_B {L : List Spt} {i : Nat} (hL : ∀ p ∈ L, p.ok) (h : i < L.length) : Bq 64 (pY L i) := by rw [pY_at h]; exact (hL _ (List.getElem_mem h)).by_
theorem fanT_B {L : List Spt} (hL : ∀ p ∈ L, p.ok) {j : Nat} (h : j + 2 < L.length) : Bq 517 (triQ (pX L 0) (pY L 0) (pX L (j + 1)) (pY L (j + 1)) (pX L (j + 2)) (pY L (j + 2))) :=
  (triQ_B (pX_B hL (by omega)) (pY_B hL (by omega)) (pX_B hL (by omega)) (pY_B hL (by omega)) (pX_B hL (by omega)) (pY_B hL (by omega))).mono (by omega)
theorem fanA_B {L : List Spt} (hL : ∀ p ∈ L, p.ok) : ∀ j, j ≤ L.length - 2 → Bq (1 + j * 518) (fanA (pX L) (pY L) j)
  | 0, _ => by show Bq _ 0; exact Bq.zero
  | j + 1, h => by
    have := (fanA_B hL j (by omega)).add (fanT_B hL (j := j) (by omega))
    exact this.mono (by omega)
theorem lenD {L : List Spt} : lenSl (rowD L) = some (.int .i64 (L.length : Int)) := by
  unfold rowD
  split
  · simp_all [lenSl]
  · simp_all [lenSl]
def ratC (q : Rat) : List V := [.int .i64 q.num.sign, natD q.num.natAbs, .int .i64 (q.den : Int).sign, natD q.den]
theorem ld_ratC {H : Heap} {i e : Nat} {q : Rat} (h : H.get i = .cells (ratC q) e false) : ldN 4 (.ptr (some (i, 0))) H = some (ratD q.num q.den) := by simp [ldN, h, ratC, ratD]
theorem st_ratC {H : Heap} {i e : Nat} {q : Rat} {cs : List V} (h : H.get i = .cells cs e false) (hl : cs.length = 4) : stA 4 (.ptr (some (i, 0))) (ratD q.num q.den) H = some (H.set i (.cells (ratC q) e false)) := by
  have io : ∀ {k : IntKind} {z : Int}, (V.int k z).one = true := rfl
  match cs, hl with
  | [a, b, c, d], _ => simp [stA, h, ratD, ratC, V.cells, io, lset]
namespace N
theorem area_loop {L : List Spt} (hL : ∀ p ∈ L, p.ok) (hn : L.length < 100) : ∀ (d j : Nat) (H : Heap) (m : Nat → Nat) (zs : List V), j + d = L.length - 2 → Big m → zs.length = 4 →
    H.get 0 = .cells zs ty_ref05_Rat false → H.get 1 = .cells (ratC (fanA (pX L) (pY L) j)) ty_ref05_Rat false →
    Tot (fun n => ref20_Area.l0 n (m n) (rowD L) (.ptr (some (0, 0))) (.ptr (some (1, 0))) (.int .i64 ((j + 1 : Nat) : Int)) H) fun v _ => v = ratD (fanA (pX L) (pY L) (L.length - 2)).num (fanA (pX L) (pY L) (L.length - 2)).den
  | 0, j, H, m, zs, hj, hm, hz, g0, g1 => by
    refine ref20_Area.l0_tot hm fun m' hm' => ?_
    simp only [ref20_Area.l0_b, more0]
    obtain rfl : j = L.length - 2 := by omega
    refine Tot.pure (add1_is (by omega)) ?_
    refine Tot.pure lenD ?_
    have e1 : arA .lss (.int .i64 ((L.length - 2 + 1 + 1 : Nat) : Int)) (.int .i64 (L.length : Int)) = some (.bool false) := by simp (disch := omega) []; omega
    refine Tot.pure e1 ?_
    refine Tot.pure (show asB (.bool false) = some false from rfl) ?_
    simp only [Bool.false_eq_true, if_false]
    refine Tot.pure (ld_ratC g1) ?_
    refine Tot.pure (st_ratC g0 hz) ?_
    refine Tot.pure (ld_ratC (q := fanA (pX L) (pY L) (L.length - 2)) (e := ty_ref05_Rat) (by simp (disch := first | omega | (simp only [npz, nsz, nmz] <;> omega) | (simp <;> omega) | fail) [lhz, lgz, sgz, faA_mk, boxA_agg, Heap.gqz, Heap.gpz, Heap.gtz, Heap.gsz, gmz, npz, nsz, nmz, chk_agg, ])) ?_
    exact Tot.rf ratD_fro rfl
  | d + 1, j, H, m, zs, hj, hm, hz, g0, g1 => by
    have h0 : 0 < L.length := by omega
    have h1 : j + 1 < L.length := by omega
    have h2 : j + 1 + 1 < L.length := by omega
    refine ref20_Area.l0_tot hm fun m' hm' => ?_
    simp only [ref20_Area.l0_b, more0]
    have ad := add1_is (i := j + 1) (by omega)
    have i0 : idxS 8 (rowD L) (.int .i64 0) = some (.lptr ((L.flatMap Spt.dc).drop (0 * 8))) := idxS_rowD (i := 0) h0
    have l1 := ld_ratC g1
    refine Tot.pure ad ?_
    refine Tot.pure lenD ?_
    have e1 : arA .lss (.int .i64 ((j + 1 + 1 : Nat) : Int)) (.int .i64 (L.length : Int)) = some (.bool true) := by simp (disch := omega) []; omega
    refine Tot.pure e1 ?_
    refine Tot.pure (show asB (.bool true) = some true from rfl) ?_
    simp only [if_true]
    refine Tot.pure i0 ?_
    refine Tot.pure (ldN_rowD h0) ?_
    refine Tot.pure (idxS_rowD h1) ?_
    refine Tot.pure (ldN_rowD h1) ?_
    refine Tot.pure ad ?_
    refine Tot.pure (idxS_rowD h2) ?_
    refine Tot.pure (ldN_rowD h2) ?_
    rw [← pX_at h0, ← pX_at h1, ← pX_at h2, ← pY_at h0, ← pY_at h1, ← pY_at h2]
    refine Gv.bind (ref20_Tri_N (pX_B hL h0) (pY_B hL h0) (pX_B hL h1) (pY_B hL h1) (pX_B hL h2) (pY_B hL h2) (by decide)) ?_
    dsimp only
    refine Tot.pure l1 ?_
    refine Tot.pure (by rw [l1]; exact chk_ratD) ?_
    have bf := fanA_B hL j (by omega)
    refine Dv.bind (r5_Add_N bf.dq (fanT_B hL (by omega)).dq (by omega) (by omega)) fun x y e => ?_
    refine Gv.bind (r5_Low_N e (by omega)) ?_
    dsimp only
    refine Tot.pure (st_ratC g1 rfl) ?_
    refine Tot.pure ad ?_
    exact area_loop hL hn d (j + 1) _ m' zs (by omega) hm' hz (by simp (disch := first | omega | (simp only [npz, nsz, nmz] <;> omega) | (simp <;> omega) | fail) [lhz, lgz, sgz, faA_mk, boxA_agg, Heap.gqz, Heap.gpz, Heap.gtz, Heap.gsz, gmz, npz, nsz, nmz, chk_agg, g0]) (by simp (disch := first | omega | (simp only [npz, nsz, nmz] <;> omega) | (simp <;> omega) | fail) [lhz, lgz, sgz, faA_mk, boxA_agg, Heap.gqz, Heap.gpz, Heap.gtz, Heap.gsz, gmz, npz, nsz, nmz, chk_agg, ]; rfl)
theorem ref20_Area_N {H : Heap} {L : List Spt} (hL : ∀ p ∈ L, p.ok) (hn : L.length < 100) : Gv (fun n => f_ref20_Area n [rowD L] H) (ratD (fanA (pX L) (pY L) (L.length - 2)).num (fanA (pX L) (pY L) (L.length - 2)).den) H := by
  refine ref20_Area_tot (all1 rowD_fro) (fre1 rowD_free) ?_
  simp only [ref20_Area_b]
  refine Gv.bind (r5_Long_N (by omega)) ?_
  dsimp only
  have st : stA 4 (.ptr (some (1, 0))) (ratD 0 1) ((E0.push (.cells [.int .i64 0, .slice ⟨none, 0, 0, false⟩, .int .i64 0, .slice ⟨none, 0, 0, false⟩] ty_ref05_Rat false)).push (.cells [.int .i64 0, .slice ⟨none, 0, 0, false⟩, .int .i64 0, .slice ⟨none, 0, 0, false⟩] ty_ref05_Rat false)) = some _ := st_ratC (q := 0) (e := ty_ref05_Rat) (cs := [.int .i64 0, .slice ⟨none, 0, 0, false⟩, .int .i64 0, .slice ⟨none, 0, 0, false⟩]) rfl rfl
  refine Tot.pure st ?_
  refine Tot.mono (area_loop hL hn (L.length - 2) 0 _ _ [.int .i64 0, .slice ⟨none, 0, 0, false⟩, .int .i64 0, .slice ⟨none, 0, 0, false⟩] (by omega) Big.id rfl rfl rfl) ?_
  intro v _ hv
  subst hv
  exact ⟨ratD_free, trivial, rfl⟩
end N
end Go.AM
end
section
set_option linter.unusedVariables false
set_option linter.unusedSimpArgs false
set_option linter.unusedSimpArgs false
set_option linter.unusedVariables false
set_option maxRecDepth 100000
namespace Go.AM
theorem fanX_B {L : List Spt} (hL : ∀ p ∈ L, p.ok) : ∀ j, j ≤ L.length - 2 → Bq (1 + j * 714) (fanX (pX L) (pY L) j)
  | 0, _ => by show Bq _ 0; exact Bq.zero
  | j + 1, h => by
    have t : Bq 2 (mkRat 1 3) := by constructor <;> decide +kernel
    have m := (((pX_B hL (show 0 < L.length by omega)).add (pX_B hL (show j + 1 < L.length by omega))).add (pX_B hL (show j + 2 < L.length by omega))).mul t (by omega)
    have := (fanX_B hL j (by omega)).add ((fanT_B hL (j := j) (by omega)).mul m (by omega))
    exact this.mono (by omega)
theorem fanY_B {L : List Spt} (hL : ∀ p ∈ L, p.ok) : ∀ j, j ≤ L.length - 2 → Bq (1 + j * 714) (fanY (pX L) (pY L) j)
  | 0, _ => by show Bq _ 0; exact Bq.zero
  | j + 1, h => by
    have t : Bq 2 (mkRat 1 3) := by constructor <;> decide +kernel
    have m := (((pY_B hL (show 0 < L.length by omega)).add (pY_B hL (show j + 1 < L.length by omega))).add (pY_B hL (show j + 2 < L.length by omega))).mul t (by omega)
    have := (fanY_B hL j (by omega)).add ((fanT_B hL (j := j) (by omega)).mul m (by omega))
    exact this.mono (by omega)
theorem fxD {L : List Spt} {i : Nat} (h : i < L.length) : faA 0 (.lptr ((L.flatMap Spt.dc).drop (i * 8))) = some (.lptr (((L.flatMap Spt.dc).drop (i * 8)).drop 0)) := by
  obtain ⟨_, h2⟩ := drop8 L i h
  simp only [faA]; rw [if_pos (by omega)]
theorem fyD {L : List Spt} {i : Nat} (h : i < L.length) : faA 4 (.lptr ((L.flatMap Spt.dc).drop (i * 8))) = some (.lptr (((L.flatMap Spt.dc).drop (i * 8)).drop 4)) := by
  obtain ⟨_, h2⟩ := drop8 L i h
  simp only [faA]; rw [if_pos (by omega)]
theorem lxD {L : List Spt} {i : Nat} (h : i < L.length) {H : Heap} : ldN 4 (.lptr (((L.flatMap Spt.dc).drop (i * 8)).drop 0)) H = some (ratD (pX L i).num (pX L i).den) := by
  obtain ⟨h1, h2⟩ := drop8 L i h
  have e : ((L.flatMap Spt.dc).drop (i * 8)).take 4 = L[i].dc.take 4 := by rw [← h1, List.take_take]; rfl
  simp only [ldN, List.drop_zero, e]
  rw [if_pos (by omega), pX_at h]; rfl
theorem lyD {L : List Spt} {i : Nat} (h : i < L.length) {H : Heap} : ldN 4 (.lptr (((L.flatMap Spt.dc).drop (i * 8)).drop 4)) H = some (ratD (pY L i).num (pY L i).den) := by
  obtain ⟨h1, h2⟩ := drop8 L i h
  have e : (((L.flatMap Spt.dc).drop (i * 8)).drop 4).take 4 = L[i].dc.drop 4 := by rw [← h1, List.drop_take]
  simp only [ldN, e]
  rw [if_pos (by rw [List.length_drop]; omega), pY_at h]; rfl
theorem st_spotD {H : Heap} {i e : Nat} {p q : Rat} {cs : List V} (h : H.get i = .cells cs e false) (hl : cs.length = 8) : stA 8 (.ptr (some (i, 0))) (spotD p q) H = some (H.set i (.cells (cellsD p q) e false)) := by
  have io : ∀ {k : IntKind} {z : Int}, (V.int k z).one = true := rfl
  match cs, hl with
  | [a, b, c, d, a', b', c', d'], _ => simp [stA, h, spotD, cellsD, V.cells, io, lset]
theorem ld_spotD {H : Heap} {i e : Nat} {p q : Rat} (h : H.get i = .cells (cellsD p q) e false) : ldN 8 (.ptr (some (i, 0))) H = some (spotD p q) := by simp [ldN, h, cellsD, spotD]
abbrev zD : List V := [.int .i64 0, .slice ⟨none, 0, 0, false⟩, .int .i64 0, .slice ⟨none, 0, 0, false⟩]
abbrev zS : List V := [.int .i64 0, .slice ⟨none, 0, 0, false⟩, .int .i64 0, .slice ⟨none, 0, 0, false⟩, .int .i64 0, .slice ⟨none, 0, 0, false⟩, .int .i64 0, .slice ⟨none, 0, 0, false⟩]
theorem fl_spotD {p q : Rat} : flA [(0, 4), (4, 4)] zS [(0, ratD p.num p.den), (1, ratD q.num q.den)] = some (spotD p q) := by
  have io : ∀ {k : IntKind} {z : Int}, (V.int k z).one = true := rfl
  simp [flA, ratD, spotD, cellsD, natD_one, io, V.cells, lset]
namespace N
theorem nought_N {H : Heap} : Gv (fun n => f_ref09_Nought n [] H) (spotD 0 0) H := by
  refine ref09_Nought_tot rfl rfl ?_
  simp only [ref09_Nought_b]
  refine Gv.bind (r5_Long_N (by omega)) ?_
  refine Gv.bind (r5_Long_N (by omega)) ?_
  dsimp only
  refine Tot.pure (fl_spotD (p := 0) (q := 0)) ?_
  refine Tot.pure (st_spotD (e := ty_ref09_Spot) (cs := zS) rfl rfl) ?_
  refine Tot.pure (ld_spotD (e := ty_ref09_Spot) (by simp (disch := first | omega | (simp only [npz, nsz, nmz] <;> omega) | (simp <;> omega) | fail) [lhz, lgz, sgz, faA_mk, boxA_agg, Heap.gqz, Heap.gpz, Heap.gtz, Heap.gsz, gmz, npz, nsz, nmz, chk_agg, ]; rfl)) ?_
  exact Tot.rf spotD_fro ⟨spotD_free, trivial, rfl⟩
theorem cent_end {L : List Spt} {A U W : Rat} {k : Nat} {H : Heap} {zs : List V} (hz : zs.length = 8) (g0 : H.get 0 = .cells zs ty_ref09_Spot false) (g1 : H.get 1 = .cells (ratC A) ty_ref05_Rat false) (g2 : H.get 2 = .cells (ratC U) ty_ref05_Rat false) (g3 : H.get 3 = .cells (ratC W) ty_ref05_Rat false)
    (hA : Bq k A) (hU : Bq k U) (hW : Bq k W) (hk : k < 100000) (h0 : A ≠ 0) :
    Tot (fun n => ref20_Centroid.p1 n (.ptr (some (0, 0))) (.ptr (some (1, 0))) (.ptr (some (2, 0))) (.ptr (some (3, 0))) H) fun v _ => v = .tuple [spotD (U / A) (W / A), .bool true] := by
  refine ref20_Centroid.p1_tot ?_
  simp only [ref20_Centroid.p1_b, more0]
  have l1 := ld_ratC g1
  have l2 := ld_ratC g2
  have l3 := ld_ratC g3
  refine Tot.pure l2 ?_
  refine Tot.pure l1 ?_
  refine Dv.bind (r5_Div_N hU.dq hA.dq (by omega) h0) fun x d e => ?_
  dsimp only
  refine Gv.bind (r5_Low_N e (by omega)) ?_
  dsimp only
  refine Tot.pure l3 ?_
  refine Tot.pure (by rw [l3]; exact chk_ratD) ?_
  refine Tot.pure (by rw [l3]; exact chk_ratD) ?_
  refine Tot.pure l1 ?_
  refine Tot.pure (by rw [l1]; exact chk_ratD) ?_
  refine Tot.pure (by rw [l1]; exact chk_ratD) ?_
  refine Dv.bind (r5_Div_N hW.dq hA.dq (by omega) h0) fun x' d' e' => ?_
  dsimp only
  refine Gv.bind (r5_Low_N e' (by omega)) ?_
  dsimp only
  refine Tot.pure fl_spotD ?_
  refine Tot.pure (st_spotD g0 hz) ?_
  refine Tot.pure (ld_spotD (p := U / A) (q := W / A) (e := ty_ref09_Spot) (by simp (disch := first | omega | (simp only [npz, nsz, nmz] <;> omega) | (simp <;> omega) | fail) [lhz, lgz, sgz, faA_mk, boxA_agg, Heap.gqz, Heap.gpz, Heap.gtz, Heap.gsz, gmz, npz, nsz, nmz, chk_agg, ])) ?_
  exact Tot.rt (by simp [spotD_fro]; rfl) rfl
theorem cent_loop {L : List Spt} {A : Rat} {k : Nat} (hL : ∀ p ∈ L, p.ok) (hn : L.length ≤ 6) (hA : Bq 2073 A) (h0 : A ≠ 0) : ∀ (d j : Nat) (H : Heap) (m : Nat → Nat), j + d = L.length - 2 → Big m → 4 ≤ H.n →
    H.get 0 = .cells zS ty_ref09_Spot false → H.get 1 = .cells (ratC A) ty_ref05_Rat false → H.get 2 = .cells (ratC (fanX (pX L) (pY L) j)) ty_ref05_Rat false → H.get 3 = .cells (ratC (fanY (pX L) (pY L) j)) ty_ref05_Rat false →
    Tot (fun n => ref20_Centroid.l0 n (m n) (rowD L) (.ptr (some (0, 0))) (.ptr (some (1, 0))) (.ptr (some (2, 0))) (.ptr (some (3, 0))) (.int .i64 ((j + 1 : Nat) : Int)) H) fun v _ => v = .tuple [spotD (fanX (pX L) (pY L) (L.length - 2) / A) (fanY (pX L) (pY L) (L.length - 2) / A), .bool true]
  | 0, j, H, m, hj, hm, hh, g0, g1, g2, g3 => by
    refine ref20_Centroid.l0_tot hm fun m' hm' => ?_
    simp only [ref20_Centroid.l0_b, more0]
    obtain rfl : j = L.length - 2 := by omega
    refine Tot.pure (add1_is (by omega)) ?_
    refine Tot.pure lenD ?_
    have e1 : arA .lss (.int .i64 ((L.length - 2 + 1 + 1 : Nat) : Int)) (.int .i64 (L.length : Int)) = some (.bool false) := by simp (disch := omega) []; omega
    refine Tot.pure e1 ?_
    refine Tot.pure (show asB (.bool false) = some false from rfl) ?_
    simp only [Bool.false_eq_true, if_false]
    exact cent_end (L := L) (k := 3000) rfl g0 g1 g2 g3 (hA.mono (by omega)) ((fanX_B hL _ (by omega)).mono (by omega)) ((fanY_B hL _ (by omega)).mono (by omega)) (by omega) h0
  | d + 1, j, H, m, hj, hm, hh, g0, g1, g2, g3 => by
    have h0' : 0 < L.length := by omega
    have h1 : j + 1 < L.length := by omega
    have h2 : j + 1 + 1 < L.length := by omega
    refine ref20_Centroid.l0_tot hm fun m' hm' => ?_
    simp only [ref20_Centroid.l0_b, more0]
    have ad := add1_is (i := j + 1) (by omega)
    have i0 : idxS 8 (rowD L) (.int .i64 0) = some (.lptr ((L.flatMap Spt.dc).drop (0 * 8))) := idxS_rowD (i := 0) h0'
    refine Tot.pure ad ?_
    refine Tot.pure lenD ?_
    have e1 : arA .lss (.int .i64 ((j + 1 + 1 : Nat) : Int)) (.int .i64 (L.length : Int)) = some (.bool true) := by simp (disch := omega) []; omega
    refine Tot.pure e1 ?_
    refine Tot.pure (show asB (.bool true) = some true from rfl) ?_
    simp only [if_true]
    refine Tot.pure i0 ?_
    refine Tot.pure (ldN_rowD h0') ?_
    refine Tot.pure (idxS_rowD h1) ?_
    refine Tot.pure (ldN_rowD h1) ?_
    refine Tot.pure ad ?_
    refine Tot.pure (idxS_rowD h2) ?_
    refine Tot.pure (ldN_rowD h2) ?_
    rw [← pX_at h0', ← pX_at h1, ← pX_at h2, ← pY_at h0', ← pY_at h1, ← pY_at h2]
    refine Gv.bind (ref20_Tri_N (pX_B hL h0') (pY_B hL h0') (pX_B hL h1) (pY_B hL h1) (pX_B hL h2) (pY_B hL h2) (by decide)) ?_
    dsimp only
    obtain ⟨T, hT⟩ : ∃ T, T = triQ (pX L 0) (pY L 0) (pX L (j + 1)) (pY L (j + 1)) (pX L (j + 1 + 1)) (pY L (j + 1 + 1)) := ⟨_, rfl⟩
    have bT : Bq 517 T := by rw [hT]; exact fanT_B hL (by omega)
    rw [← hT]
    obtain ⟨G, hG⟩ : ∃ G, G = ((H.more 1).set (H.n + 0) (.cells zD ty_ref05_Rat false)).set (H.n + 0) (.cells (ratC T) ty_ref05_Rat false) := ⟨_, rfl⟩
    have st : stA 4 (.ptr (some (H.n + 0, 0))) (ratD T.num T.den) ((H.more 1).set (H.n + 0) (.cells zD ty_ref05_Rat false)) = some G := by
      rw [hG]; exact st_ratC (cs := zD) (Heap.gsz rfl) rfl
    have G0 : G.get 0 = .cells zS ty_ref09_Spot false := by rw [hG]; simp (disch := first | omega | (simp only [npz, nsz, nmz] <;> omega) | (simp <;> omega) | fail) [lhz, lgz, sgz, faA_mk, boxA_agg, Heap.gqz, Heap.gpz, Heap.gtz, Heap.gsz, gmz, npz, nsz, nmz, chk_agg, g0]
    have G1 : G.get 1 = .cells (ratC A) ty_ref05_Rat false := by rw [hG]; simp (disch := first | omega | (simp only [npz, nsz, nmz] <;> omega) | (simp <;> omega) | fail) [lhz, lgz, sgz, faA_mk, boxA_agg, Heap.gqz, Heap.gpz, Heap.gtz, Heap.gsz, gmz, npz, nsz, nmz, chk_agg, g1]
    have G2 : G.get 2 = .cells (ratC (fanX (pX L) (pY L) j)) ty_ref05_Rat false := by rw [hG]; simp (disch := first | omega | (simp only [npz, nsz, nmz] <;> omega) | (simp <;> omega) | fail) [lhz, lgz, sgz, faA_mk, boxA_agg, Heap.gqz, Heap.gpz, Heap.gtz, Heap.gsz, gmz, npz, nsz, nmz, chk_agg, g2]
    have G3 : G.get 3 = .cells (ratC (fanY (pX L) (pY L) j)) ty_ref05_Rat false := by rw [hG]; simp (disch := first | omega | (simp only [npz, nsz, nmz] <;> omega) | (simp <;> omega) | fail) [lhz, lgz, sgz, faA_mk, boxA_agg, Heap.gqz, Heap.gpz, Heap.gtz, Heap.gsz, gmz, npz, nsz, nmz, chk_agg, g3]
    have Gn : G.n = H.n + 1 := by rw [hG]; simp
    have GT : G.get (H.n + 0) = .cells (ratC T) ty_ref05_Rat false := by rw [hG]; exact Heap.gsz rfl
    clear hG
    refine Tot.pure st ?_
    have lT := ld_ratC GT
    have l2 := ld_ratC G2
    refine Tot.pure i0 ?_
    refine Tot.pure (fxD h0') ?_
    refine Tot.pure (lxD h0') ?_
    refine Tot.pure (idxS_rowD h1) ?_
    refine Tot.pure (fxD h1) ?_
    refine Tot.pure (lxD h1) ?_
    refine Tot.pure ad ?_
    refine Tot.pure (idxS_rowD h2) ?_
    refine Tot.pure (fxD h2) ?_
    refine Tot.pure (lxD h2) ?_
    refine Dv.bind (ref20_mean_N (pX_B hL h0') (pX_B hL h1) (pX_B hL h2) (by decide)) fun x1 d1 e1 => ?_
    dsimp only
    refine Tot.pure lT ?_
    refine Tot.pure (by rw [lT]; exact chk_ratD) ?_
    refine Dv.bind (r5_Mul_N bT.dq e1 (by omega) (by omega)) fun x2 d2 e2 => ?_
    dsimp only
    refine Tot.pure l2 ?_
    refine Tot.pure (by rw [l2]; exact chk_ratD) ?_
    refine Tot.pure (by rw [l2]; exact chk_ratD) ?_
    have bX := fanX_B hL j (by omega)
    refine Dv.bind (r5_Add_N bX.dq e2 (by omega) (by omega)) fun x3 d3 e3 => ?_
    have m1 : fanX (pX L) (pY L) j + T * ((pX L 0 + pX L (j + 1) + pX L (j + 1 + 1)) * mkRat 1 3) = fanX (pX L) (pY L) (j + 1) := by rw [hT]; rfl
    rw [m1] at e3
    refine Gv.bind (r5_Low_N e3 (by omega)) ?_
    dsimp only
    refine Tot.pure (st_ratC G2 rfl) ?_
    obtain ⟨F, hF⟩ : ∃ F, F = G.set 2 (.cells (ratC (fanX (pX L) (pY L) (j + 1))) ty_ref05_Rat false) := ⟨_, rfl⟩
    rw [← hF]
    have F0 : F.get 0 = .cells zS ty_ref09_Spot false := by rw [hF]; simp (disch := first | omega | (simp only [npz, nsz, nmz] <;> omega) | (simp <;> omega) | fail) [lhz, lgz, sgz, faA_mk, boxA_agg, Heap.gqz, Heap.gpz, Heap.gtz, Heap.gsz, gmz, npz, nsz, nmz, chk_agg, G0]
    have F1 : F.get 1 = .cells (ratC A) ty_ref05_Rat false := by rw [hF]; simp (disch := first | omega | (simp only [npz, nsz, nmz] <;> omega) | (simp <;> omega) | fail) [lhz, lgz, sgz, faA_mk, boxA_agg, Heap.gqz, Heap.gpz, Heap.gtz, Heap.gsz, gmz, npz, nsz, nmz, chk_agg, G1]
    have F2 : F.get 2 = .cells (ratC (fanX (pX L) (pY L) (j + 1))) ty_ref05_Rat false := by rw [hF]; exact Heap.gsz rfl
    have F3 : F.get 3 = .cells (ratC (fanY (pX L) (pY L) j)) ty_ref05_Rat false := by rw [hF]; simp (disch := first | omega | (simp only [npz, nsz, nmz] <;> omega) | (simp <;> omega) | fail) [lhz, lgz, sgz, faA_mk, boxA_agg, Heap.gqz, Heap.gpz, Heap.gtz, Heap.gsz, gmz, npz, nsz, nmz, chk_agg, G3]
    have FT : F.get (H.n + 0) = .cells (ratC T) ty_ref05_Rat false := by rw [hF]; rw [Heap.get_set, if_neg (by omega)]; exact GT
    have Fn : F.n = H.n + 1 := by rw [hF]; simpa using Gn
    clear hF st
    have lT' := ld_ratC FT
    have l3 := ld_ratC F3
    refine Tot.pure i0 ?_
    refine Tot.pure (fyD h0') ?_
    refine Tot.pure (lyD h0') ?_
    refine Tot.pure (idxS_rowD h1) ?_
    refine Tot.pure (fyD h1) ?_
    refine Tot.pure (lyD h1) ?_
    refine Tot.pure ad ?_
    refine Tot.pure (idxS_rowD h2) ?_
    refine Tot.pure (fyD h2) ?_
    refine Tot.pure (lyD h2) ?_
    refine Dv.bind (ref20_mean_N (pY_B hL h0') (pY_B hL h1) (pY_B hL h2) (by decide)) fun x4 d4 e4 => ?_
    dsimp only
    refine Tot.pure lT' ?_
    refine Tot.pure (by rw [lT']; exact chk_ratD) ?_
    refine Dv.bind (r5_Mul_N bT.dq e4 (by omega) (by omega)) fun x5 d5 e5 => ?_
    dsimp only
    refine Tot.pure l3 ?_
    refine Tot.pure (by rw [l3]; exact chk_ratD) ?_
    refine Tot.pure (by rw [l3]; exact chk_ratD) ?_
    have bY := fanY_B hL j (by omega)
    refine Dv.bind (r5_Add_N bY.dq e5 (by omega) (by omega)) fun x6 d6 e6 => ?_
    have m2 : fanY (pX L) (pY L) j + T * ((pY L 0 + pY L (j + 1) + pY L (j + 1 + 1)) * mkRat 1 3) = fanY (pX L) (pY L) (j + 1) := by rw [hT]; rfl
    rw [m2] at e6
    refine Gv.bind (r5_Low_N e6 (by omega)) ?_
    dsimp only
    refine Tot.pure (st_ratC F3 rfl) ?_
    refine Tot.pure ad ?_
    exact cent_loop (k := k) hL hn hA h0 d (j + 1) _ m' (by omega) hm' (by simp; omega) (by simp (disch := first | omega | (simp only [npz, nsz, nmz] <;> omega) | (simp <;> omega) | fail) [lhz, lgz, sgz, faA_mk, boxA_agg, Heap.gqz, Heap.gpz, Heap.gtz, Heap.gsz, gmz, npz, nsz, nmz, chk_agg, F0]) (by simp (disch := first | omega | (simp only [npz, nsz, nmz] <;> omega) | (simp <;> omega) | fail) [lhz, lgz, sgz, faA_mk, boxA_agg, Heap.gqz, Heap.gpz, Heap.gtz, Heap.gsz, gmz, npz, nsz, nmz, chk_agg, F1]) (by simp (disch := first | omega | (simp only [npz, nsz, nmz] <;> omega) | (simp <;> omega) | fail) [lhz, lgz, sgz, faA_mk, boxA_agg, Heap.gqz, Heap.gpz, Heap.gtz, Heap.gsz, gmz, npz, nsz, nmz, chk_agg, F2]) (by simp (disch := first | omega | (simp only [npz, nsz, nmz] <;> omega) | (simp <;> omega) | fail) [lhz, lgz, sgz, faA_mk, boxA_agg, Heap.gqz, Heap.gpz, Heap.gtz, Heap.gsz, gmz, npz, nsz, nmz, chk_agg, ])
end N
end Go.AM
end
section
set_option linter.unusedVariables false
set_option linter.unusedSimpArgs false
set_option linter.unusedSimpArgs false
set_option linter.unusedVariables false
set_option maxRecDepth 100000
namespace Go.AM
def area (L : List Spt) : Rat := fanA (pX L) (pY L) (L.length - 2)
def cenX (L : List Spt) : Rat := fanX (pX L) (pY L) (L.length - 2) / area L
def cenY (L : List Spt) : Rat := fanY (pX L) (pY L) (L.length - 2) / area L
def cenV (L : List Spt) : V := if area L = 0 then .tuple [spotD 0 0, .bool false] else .tuple [spotD (cenX L) (cenY L), .bool true]
theorem area_B {L : List Spt} (hL : ∀ p ∈ L, p.ok) (hn : L.length ≤ 6) : Bq 2073 (area L) := (fanA_B hL _ (Nat.le_refl _)).mono (by omega)
theorem tup_free {p q : Rat} {b : Bool} : (V.tuple [spotD p q, .bool b]).free = true := by simp [V.free, V.frees, spotD_free]
namespace N
theorem ref20_Centroid_N {H : Heap} {L : List Spt} (hL : ∀ p ∈ L, p.ok) (hn : L.length ≤ 6) : Gv (fun n => f_ref20_Centroid n [rowD L] H) (cenV L) H := by
  refine ref20_Centroid_tot (all1 rowD_fro) (fre1 rowD_free) ?_
  simp only [ref20_Centroid_b]
  refine Gv.bind (ref20_Area_N hL (by omega)) ?_
  refine Gv.bind (r5_Long_N (by omega)) ?_
  refine Gv.bind (r5_Long_N (by omega)) ?_
  dsimp only
  obtain ⟨A, hA⟩ : ∃ A, A = area L := ⟨_, rfl⟩
  have bA : Bq 2073 A := by rw [hA]; exact area_B hL hn
  have eA : fanA (pX L) (pY L) (L.length - 2) = A := hA.symm
  rw [eA]
  obtain ⟨H0, hH0⟩ : ∃ H0, H0 = E0.push (.cells zS ty_ref09_Spot false) := ⟨_, rfl⟩
  have st1 : stA 4 (.ptr (some (1, 0))) (ratD A.num A.den) (((H0.push (.cells zD ty_ref05_Rat false)).push (.cells zD ty_ref05_Rat false)).push (.cells zD ty_ref05_Rat false)) = some _ := st_ratC (e := ty_ref05_Rat) (cs := zD) (by rw [hH0]; rfl) rfl
  have st2 : stA 4 (.ptr (some (2, 0))) (ratD 0 1) ((((H0.push (.cells zD ty_ref05_Rat false)).push (.cells zD ty_ref05_Rat false)).push (.cells zD ty_ref05_Rat false)).set 1 (.cells (ratC A) ty_ref05_Rat false)) = some _ := st_ratC (q := 0) (e := ty_ref05_Rat) (cs := zD) (by rw [hH0]; rfl) rfl
  have st3 : stA 4 (.ptr (some (3, 0))) (ratD 0 1) (((((H0.push (.cells zD ty_ref05_Rat false)).push (.cells zD ty_ref05_Rat false)).push (.cells zD ty_ref05_Rat false)).set 1 (.cells (ratC A) ty_ref05_Rat false)).set 2 (.cells (ratC 0) ty_ref05_Rat false)) = some _ := st_ratC (q := 0) (e := ty_ref05_Rat) (cs := zD) (by rw [hH0]; rfl) rfl
  rw [hH0] at st1 st2 st3
  refine Tot.pure st1 ?_
  refine Tot.pure st2 ?_
  refine Tot.pure st3 ?_
  obtain ⟨G, hG⟩ : ∃ G, G = ((((((E0.push (.cells zS ty_ref09_Spot false)).push (.cells zD ty_ref05_Rat false)).push (.cells zD ty_ref05_Rat false)).push (.cells zD ty_ref05_Rat false)).set 1 (.cells (ratC A) ty_ref05_Rat false)).set 2 (.cells (ratC 0) ty_ref05_Rat false)).set 3 (.cells (ratC 0) ty_ref05_Rat false) := ⟨_, rfl⟩
  rw [← hG]
  have G0 : G.get 0 = .cells zS ty_ref09_Spot false := by rw [hG]; rfl
  have G1 : G.get 1 = .cells (ratC A) ty_ref05_Rat false := by rw [hG]; rfl
  have G2 : G.get 2 = .cells (ratC 0) ty_ref05_Rat false := by rw [hG]; rfl
  have G3 : G.get 3 = .cells (ratC 0) ty_ref05_Rat false := by rw [hG]; rfl
  have Gn : G.n = 4 := by rw [hG]; rfl
  clear hG st1 st2 st3 hH0
  have ls : ld1 (.ptr (some (1, 0))) G = some (.int .i64 A.num.sign) := by simp [ld1, G1, ratC]
  refine Tot.pure (show faA 0 (.ptr (some (1, 0))) = some (.ptr (some (1, 0))) from rfl) ?_
  refine Tot.pure (show faA 0 (.ptr (some (1, 0))) = some (.ptr (some (1, 0))) from rfl) ?_
  refine Tot.pure ls ?_
  by_cases h0 : A = 0
  · have e1 : arA .eql (.int .i64 A.num.sign) (.int .i64 0) = some (.bool true) := by rw [h0]; rfl
    refine Tot.pure e1 ?_
    refine Tot.pure (show asB (.bool true) = some true from rfl) ?_
    simp only [if_true]
    refine Gv.bind nought_N ?_
    dsimp only
    refine Tot.pure (st_spotD G0 rfl) ?_
    refine Tot.pure (ld_spotD (p := 0) (q := 0) (e := ty_ref09_Spot) (by simp (disch := first | omega | (simp only [npz, nsz, nmz] <;> omega) | (simp <;> omega) | fail) [lhz, lgz, sgz, faA_mk, boxA_agg, Heap.gqz, Heap.gpz, Heap.gtz, Heap.gsz, gmz, npz, nsz, nmz, chk_agg, ])) ?_
    refine Tot.rt (by simp [spotD_fro]; rfl) ⟨tup_free, trivial, ?_⟩
    unfold cenV; rw [if_pos (by rw [← hA]; exact h0)]
  · have hs : A.num.sign ≠ 0 := by
      intro h
      rw [Int.sign_eq_zero_iff_zero] at h
      exact h0 (Rat.num_eq_zero.1 h)
    have e1 : arA .eql (.int .i64 A.num.sign) (.int .i64 0) = some (.bool false) := by
      simp (disch := omega) [hs]
    refine Tot.pure e1 ?_
    refine Tot.pure (show asB (.bool false) = some false from rfl) ?_
    simp only [Bool.false_eq_true, if_false]
    refine Tot.mono (cent_loop (k := 0) hL hn bA h0 (L.length - 2) 0 G _ (by omega) Big.id (by omega) G0 G1 G2 G3) ?_
    intro v _ hv
    subst hv
    refine ⟨tup_free, trivial, ?_⟩
    unfold cenV cenX cenY; rw [if_neg (by rw [← hA]; exact h0), ← hA]
end N
end Go.AM
end
section
set_option linter.unusedVariables false
set_option linter.unusedSimpArgs false
set_option linter.unusedSimpArgs false
set_option linter.unusedVariables false
set_option maxRecDepth 100000
namespace Go.AM
theorem momAt_sum {L : List Spt} {cx cy : Rat} : ∀ i, i < L.length → momAt L cx cy i = sumM (pX L) (pY L) cx cy i
  | 0, _ => rfl
  | i + 1, h => by
    show momAt L cx cy i + _ = sumM (pX L) (pY L) cx cy i + _
    rw [momAt_sum i (by omega), Nat.mod_eq_of_lt h]
    rfl
theorem momAt_all {L : List Spt} {cx cy : Rat} {k : Nat} (h : L.length = k + 2) : momAt L cx cy L.length = sumM (pX L) (pY L) cx cy (k + 1) + edge (pX L) (pY L) cx cy (k + 1) 0 := by
  have e : momAt L cx cy (k + 1 + 1) = momAt L cx cy (k + 1) + partQ ((L[k + 1]!).x - cx) ((L[k + 1]!).y - cy) ((L[(k + 1 + 1) % L.length]!).x - cx) ((L[(k + 1 + 1) % L.length]!).y - cy) := rfl
  have e0 : (k + 1 + 1) % L.length = 0 := by rw [h]; exact Nat.mod_self _
  rw [e0, momAt_sum (k + 1) (by omega)] at e
  rw [h]
  exact e
theorem least {L : List Spt} {c : Spt} (h0 : area L ≠ 0) : momQ L c = momA L (cenX L) (cenY L) + 6 * area L * ((c.x - cenX L) * (c.x - cenX L) + (c.y - cenY L) * (c.y - cenY L)) := by
  have h3 : ¬ L.length < 3 := by
    intro h
    apply h0
    unfold area
    rw [show L.length - 2 = 0 by omega]; rfl
  obtain ⟨k, hk⟩ : ∃ k, L.length = k + 2 := ⟨L.length - 2, by omega⟩
  have hk2 : L.length - 2 = k := by omega
  rw [← momA_Q]
  unfold momA
  rw [if_neg h3, if_neg h3, momAt_all hk, momAt_all hk]
  have hA : fanA (pX L) (pY L) k ≠ 0 := by rw [← hk2]; exact h0
  have r := round (pX L) (pY L) (cenX L) (cenY L) (c.x - cenX L) (c.y - cenY L) k (by unfold cenX area; rw [hk2]; grind) (by unfold cenY area; rw [hk2]; grind)
  have e1 : cenX L + (c.x - cenX L) = c.x := by grind
  have e2 : cenY L + (c.y - cenY L) = c.y := by grind
  rw [e1, e2] at r
  rw [r]
  unfold area; rw [hk2]
end Go.AM
end
section
set_option linter.unusedVariables false
set_option linter.unusedSimpArgs false
set_option linter.unusedSimpArgs false
namespace Go.AM
open Go.RowKit (Below)
section
variable {P : Program} {B n0 N : Nat} {w0 w1 w w' w'' : World} {μ0 μ μ' μ'' ν : Mu} {H0 H H' H'' : Heap} {T : Type} {enc : TypeId × Value → T}
theorem got_one {k : Nat} {t : TypeId} {v : V} {x : Value} (hr : Rel B w0 μ H w) (ho : ∀ j M, μ j = some M → (H.get j).own = false) (h1 : VRel μ v x) (h2 : v.one = true) (h3 : P.cellsOf t = 1) (h4 : WT P k t [v] H) : Got P B w0 μ H w k t [x] :=
  ⟨μ, H, [v], Grows.refl, hr, ho, by simp only [VRels]; exact ⟨x, [], rfl, h1, rfl⟩, by simp [h2], by simp [h3], h4⟩
theorem cells_spec {base n : Nat} {a : Addr} {xs : List Value} (h : w.cells? base a n = some xs) : xs.length = n ∧ ∀ (i : Nat), i < n → w.cell? (a.add i) = xs[i]? := by
  unfold World.cells? at h
  split at h
  · obtain ⟨h1, h2⟩ := mapM_some h
    simp at h1
    refine ⟨h1.symm, fun i hi => ?_⟩
    obtain ⟨y, h3, h4⟩ := h2 i i (by simp [hi])
    rw [h3, h4]
  · simp at h
theorem cell_spot {a : Addr} {x : Value} (h : w.cell? a = some x) : ∃ c e fr, w.heap[a.block]? = some (.cells c e fr) ∧ a.spot = none ∧ c[a.off]? = some x := by
  unfold World.cell? at h
  split at h
  · rename_i c e fr hb
    split at h
    · simp at h
    · rename_i hs; exact ⟨c, e, fr, hb, by simpa using hs, h⟩
  · simp at h
theorem flatten_get {α : Type} {k : Nat} {xss : List (List α)} {i j : Nat} {xs : List α} (hl : ∀ (i : Nat) (u : List α), xss[i]? = some u → u.length = k) (hi : xss[i]? = some xs) (hj : j < k) : xss.flatten[i * k + j]? = xs[j]? := by
  have := flatten_chunk hl hi
  rw [← this, List.getElem?_take, if_pos hj, List.getElem?_drop]
theorem build_list {A : Type} : ∀ (n : Nat) {Q : Nat → A → Prop}, (∀ i, i < n → ∃ x, Q i x) → ∃ l : List A, l.length = n ∧ ∀ (i : Nat) (x : A), l[i]? = some x → Q i x
  | 0, Q, _ => ⟨[], rfl, by simp⟩
  | n + 1, Q, h => by
    obtain ⟨x, hx⟩ := h 0 (by omega)
    obtain ⟨l, hl, hq⟩ := build_list n (Q := fun i x => Q (i + 1) x) fun i hi => h (i + 1) (by omega)
    refine ⟨x :: l, by simp [hl], ?_⟩
    intro i y hy
    cases i with
    | zero => simp at hy; subst hy; exact hx
    | succ i => simp at hy; exact hq i y hy
theorem chunk_whole {α : Type} {k : Nat} {cs : List α} : ∀ {xss : List (List α)} {off : Nat}, off + xss.length * k = cs.length → (∀ (i : Nat) (u : List α), xss[i]? = some u → u = (cs.drop (off + i * k)).take k) → xss.flatten = cs.drop off
  | [], off, h, _ => by simp at h; simp [h]
  | u :: xss, off, h, hu => by
    have h0 := hu 0 u (by simp)
    simp only [Nat.zero_mul, Nat.add_zero] at h0
    have ih := chunk_whole (k := k) (cs := cs) (xss := xss) (off := off + k) (by simp [Nat.succ_mul] at h; omega) fun i v hv => by
      have := hu (i + 1) v (by simpa using hv)
      rw [this, Nat.succ_mul]
      congr 2
      omega
    simp only [List.flatten_cons, ih, h0]
    rw [← List.drop_drop]
    exact List.take_append_drop _ _
theorem add_off (a : Addr) (i : Nat) (hs : a.spot = none) : a.add i = ⟨a.block, a.off + i, none⟩ := by
  cases a with
  | mk b o s =>
    simp only at hs; subst hs
    unfold Addr.add
    split
    · rename_i h; subst h; rfl
    · rfl
theorem got_slice {k fuel len cap : Nat} {t e : TypeId} {a : Addr} (hr : Rel B w0 μ H w) (ho : ∀ j M, μ j = some M → (H.get j).own = false)
    (hu : P.underlying t = some (.slice e)) (hp1 : P.cellsOf t = 1) (hp2 : 0 < P.cellsOf e) (hlc : len ≤ cap) (hcm : cap ≤ maxLen)
    (hstep : ∀ (x : {xs : List Value // ∃ d ps, DataW.trod enc P w 0 (fun _ => true) true fuel e xs = some (d, ps)}) (μ : Mu) (H : Heap), Rel B w0 μ H w → (∀ j M, μ j = some M → (H.get j).own = false) → Got P B w0 μ H w k e x.1)
    (hE : ∀ i, i < cap → ∃ xs, w.cells? 0 (a.add (i * P.cellsOf e)) (P.cellsOf e) = some xs ∧ ∃ d ps, DataW.trod enc P w 0 (fun _ => true) true fuel e xs = some (d, ps)) :
    Got P B w0 μ H w (k + 1) t [.slice (some a) len cap] := by
  by_cases hc0 : cap = 0
  · subst hc0
    have hl0 : len = 0 := by omega
    subst hl0
    have hfr : μ H.n = none := hr.fresh (Nat.le_refl _)
    refine ⟨μ.put H.n ⟨0, 0, 0⟩, H.push .none, [.slice ⟨some (H.n, 0), 0, P.cellsOf e, false⟩], ⟨Mu.le_put hfr, by simp, fun i hi => by rw [Heap.get_push, if_neg (by omega)]⟩,
      hr.lay (by simp [O.live]) rfl ho trivial, ?_, ?_, rfl, by simp [hp1], ?_⟩
    · intro j M e1
      rw [Heap.get_push]
      simp only [Mu.put] at e1
      split at e1
      · rename_i hj; rw [if_pos hj]; rfl
      · rename_i hj; rw [if_neg hj]; exact ho j M e1
    · simp only [VRels, VRel]
      exact ⟨_, _, rfl, ⟨⟨0, 0, 0⟩, a, 0, by simp [Mu.put], rfl, Nat.le_refl _, by simp, .inl rfl⟩, rfl⟩
    · unfold WT
      simp only [hu]
      exact .inr ⟨H.n, 0, false, rfl, by simp, by omega, by simp⟩
  · obtain ⟨las, hl, hq⟩ := build_list (A := {xs : List Value // ∃ d ps, DataW.trod enc P w 0 (fun _ => true) true fuel e xs = some (d, ps)}) len
      (Q := fun i x => w.cells? 0 (a.add (i * P.cellsOf e)) (P.cellsOf e) = some x.1) fun i hi => by
        obtain ⟨xs, h1, h2⟩ := hE i (by omega)
        exact ⟨⟨xs, h2⟩, h1⟩
    obtain ⟨μ1, H1, vss, g1, r1, o1, l1, v1, n1, t1⟩ := got_list (P := P) (fuel := k) (w := w) (w0 := w0) (B := B) (fun _ => e) (fun x => x.1) hstep las μ H hr ho
    have hget : ∀ (i : Nat) (u : List V), vss[i]? = some u → u.length = P.cellsOf e ∧ WT P k e u H1 := by
      intro i u h2
      have hi : i < las.length := by rw [← l1]; exact (List.getElem?_eq_some_iff.mp h2).1
      exact t1 i _ u (List.getElem?_eq_getElem hi) h2
    have hfl := flatten_len fun i u hi => (hget i u hi).1
    rw [l1, hl] at hfl
    have hlast : ∃ c e' fr, w.heap[a.block]? = some (.cells c e' fr) ∧ a.spot = none ∧ a.off + cap * P.cellsOf e ≤ c.size := by
      obtain ⟨xs, h1, _⟩ := hE (cap - 1) (by omega)
      obtain ⟨hx1, hx2⟩ := cells_spec h1
      have h3 := hx2 (P.cellsOf e - 1) (by omega)
      have h4 : xs[P.cellsOf e - 1]? = some (xs[P.cellsOf e - 1]'(by omega)) := List.getElem?_eq_getElem _
      rw [h4] at h3
      obtain ⟨c, e', fr, k1, k2, k3⟩ := cell_spot h3
      have hs : a.spot = none := by
        obtain ⟨ys, j1, _⟩ := hE 0 (by omega)
        obtain ⟨jx1, jx2⟩ := cells_spec j1
        have j3 := jx2 0 hp2
        have j4 : ys[0]? = some (ys[0]'(by omega)) := List.getElem?_eq_getElem _
        rw [j4] at j3
        obtain ⟨_, _, _, _, m2, _⟩ := cell_spot j3
        simpa [Addr.add] using m2
      rw [add_off a _ hs, add_off _ _ rfl] at k1 k3
      simp only at k1 k3
      have k4 := (Array.getElem?_eq_some_iff.mp k3).1
      refine ⟨c, e', fr, k1, hs, ?_⟩
      have : cap * P.cellsOf e = (cap - 1) * P.cellsOf e + P.cellsOf e := by
        rw [← Nat.succ_mul]; congr 1; omega
      omega
    obtain ⟨c, e', fr, hb, hs, hsz⟩ := hlast
    have hfr : μ1 H1.n = none := r1.fresh (Nat.le_refl _)
    have hle := Mu.le_put (L := ⟨a.block, a.off, c.size⟩) hfr
    have hmul : len * P.cellsOf e ≤ cap * P.cellsOf e := Nat.mul_le_mul_right _ hlc
    refine ⟨μ1.put H1.n ⟨a.block, a.off, c.size⟩, H1.push (.cells vss.flatten e true), [.slice ⟨some (H1.n, 0), len, P.cellsOf e, false⟩],
      g1.trans ⟨hle, by simp, fun i hi => by rw [Heap.get_push, if_neg (by omega)]⟩,
      r1.lay (fun _ => (Array.getElem?_eq_some_iff.mp hb).1) rfl o1 ?_, ?_, ?_, rfl, by simp [hp1], ?_⟩
    · refine ⟨c, e', fr, hb, rfl, by simp only [hfl]; omega, ?_, by simp⟩
      intro j v hv
      have hj : j < len * P.cellsOf e := by rw [← hfl]; exact (List.getElem?_eq_some_iff.mp hv).1
      refine ⟨?_, ?_⟩
      · have := List.all_eq_true.mp n1 v (List.mem_of_getElem? hv)
        exact this
      · obtain ⟨x, hx, hv'⟩ := VRels.get v1 j v hv
        refine ⟨x, ?_, VRel.mono hle _ _ hv'⟩
        have hdm : j / P.cellsOf e < len := (Nat.div_lt_iff_lt_mul hp2).mpr hj
        have hja : las[j / P.cellsOf e]? = some (las[j / P.cellsOf e]'(by omega)) := List.getElem?_eq_getElem _
        have hq1 := hq _ _ hja
        obtain ⟨hx1, hx2⟩ := cells_spec hq1
        have hmod : j % P.cellsOf e < P.cellsOf e := Nat.mod_lt _ hp2
        have h3 := hx2 _ hmod
        have hlens : ∀ (i : Nat) (u : List Value), (las.map fun x => x.1)[i]? = some u → u.length = P.cellsOf e := by
          intro i u hi
          rw [List.getElem?_map] at hi
          cases ha : las[i]? with
          | none => rw [ha] at hi; simp at hi
          | some y => rw [ha] at hi; simp at hi; rw [← hi]; exact (cells_spec (hq i y ha)).1
        have h4 := flatten_get (xss := las.map fun x => x.1) (i := j / P.cellsOf e) (j := j % P.cellsOf e) (k := P.cellsOf e) hlens (by rw [List.getElem?_map, hja]; rfl) hmod
        have hjj : j / P.cellsOf e * P.cellsOf e + j % P.cellsOf e = j := by rw [Nat.mul_comm]; exact Nat.div_add_mod _ _
        rw [hjj, hx] at h4
        rw [← h4, add_off a _ hs, add_off _ _ rfl] at h3
        obtain ⟨c', e'', fr', k1, k2, k3⟩ := cell_spot h3
        simp only at k1 k3
        rw [hb] at k1
        cases k1
        rw [show a.off + j / P.cellsOf e * P.cellsOf e + j % P.cellsOf e = a.off + j by omega] at k3
        exact k3
    · intro j M e1
      rw [Heap.get_push]
      simp only [Mu.put] at e1
      split at e1
      · rename_i hj; rw [if_pos hj]; rfl
      · rename_i hj; rw [if_neg hj]; exact o1 j M e1
    · simp only [VRels, VRel]
      refine ⟨_, _, rfl, ⟨⟨a.block, a.off, c.size⟩, a, cap, by simp [Mu.put], rfl, hlc, by simp, .inr ⟨?_, by simpa using hsz⟩⟩, rfl⟩
      cases a with
      | mk b o s => simp at hs; subst hs; simp
    · unfold WT
      simp only [hu]
      refine .inr ⟨H1.n, len, false, rfl, by simp, by omega, fun _ => ⟨e, vss.flatten, by rw [Heap.get_push, if_pos rfl], hfl, fun j hj => ?_⟩⟩
      have h2 : vss[j]? = some vss[j] := List.getElem?_eq_getElem (by omega)
      rw [flatten_chunk (fun i u hi => (hget i u hi).1) h2]
      exact (hget j _ h2).2.mono (by simp) fun i hi => by rw [Heap.get_push, if_neg (by omega)]
theorem got : ∀ (k : Nat) (t : TypeId), plainT P k t = true → ∀ (fuel : Nat) (cs : List Value) (d : DataW T) (ps : List MemPlace),
    DataW.trod enc P w 0 (fun _ => true) true fuel t cs = some (d, ps) → ∀ (μ : Mu) (H : Heap), Rel B w0 μ H w → (∀ j M, μ j = some M → (H.get j).own = false) → Got P B w0 μ H w k t cs
  | 0, t, hp, _, _, _, _, _, _, _, _, _ => by simp [plainT] at hp
  | k + 1, t, hp, 0, cs, d, ps, h, μ, H, hr, ho => by simp [DataW.trod] at h
  | k + 1, t, hp, fuel + 1, cs, d, ps, h, μ, H, hr, ho => by
    unfold plainT at hp
    unfold DataW.trod at h
    split at hp
    · rename_i hu
      simp only [hu] at h
      split at h
      all_goals first
        | (rename_i heq; cases heq; done)
        | (simp at h; done)
        | skip
      rename_i b _
      exact got_one hr ho (v := .bool b) (by simp only [VRel]) rfl (by simpa using hp) (by unfold WT; simp [hu])
    · rename_i q hu
      simp only [hu] at h
      split at h
      all_goals first
        | (rename_i heq; cases heq; done)
        | (simp at h; done)
        | skip
      rename_i q' k' n heq
      cases heq
      split at h
      · rename_i hc
        obtain ⟨rfl, hw⟩ := hc
        exact got_one hr ho (v := .int k' n) (by simp only [VRel]) rfl (by simpa using hp) (by unfold WT; simp [hu]; exact hw)
      · simp at h
    · rename_i hu
      simp only [hu] at h
      split at h
      all_goals first
        | (rename_i heq; cases heq; done)
        | (simp at h; done)
        | skip
      rename_i s _
      split at h
      · rename_i hc
        exact got_one hr ho (v := .str s.data.toList) (by simp only [VRel]) rfl (by simpa using hp) (by unfold WT; simp only [hu]; exact ⟨_, rfl, by simpa using hc⟩)
      · simp at h
    · rename_i e hu
      simp only [Bool.and_eq_true, decide_eq_true_eq] at hp
      obtain ⟨⟨hp1, hp2⟩, hp3⟩ := hp
      simp only [hu] at h
      split at h
      all_goals first
        | (rename_i heq; cases heq; done)
        | (simp at h; done)
        | skip
      · exact got_one hr ho (v := .slice ⟨none, 0, 0, false⟩) (by simp only [VRel]; exact ⟨trivial, trivial⟩) rfl hp1 (by unfold WT; simp [hu])
      · rename_i e' a len cap heq
        cases heq
        split at h
        · rename_i hc
          obtain ⟨_, hlc, hcm⟩ := hc
          cases hes : (List.range len).mapM fun i => (w.cells? 0 (a.add (i * P.cellsOf e)) (P.cellsOf e)).bind (DataW.trod enc P w 0 (fun _ => true) true fuel e) with
          | none => rw [hes] at h; simp at h
          | some elems =>
            rw [hes] at h
            simp only [Option.bind_some, if_true] at h
            cases hrs : (List.range (cap - len)).mapM fun j => (w.cells? 0 (a.add ((len + j) * P.cellsOf e)) (P.cellsOf e)).bind (DataW.trod enc P w 0 (fun _ => true) true fuel e) with
            | none => rw [hrs] at h; simp at h
            | some rest =>
              clear h
              have hE : ∀ i, i < cap → ∃ xs, w.cells? 0 (a.add (i * P.cellsOf e)) (P.cellsOf e) = some xs ∧ ∃ d ps, DataW.trod enc P w 0 (fun _ => true) true fuel e xs = some (d, ps) := by
                intro i hi
                by_cases hil : i < len
                · obtain ⟨y, h1, _⟩ := (mapM_some hes).2 i i (by simp [hil])
                  cases hx : w.cells? 0 (a.add (i * P.cellsOf e)) (P.cellsOf e) with
                  | none => rw [hx] at h1; simp at h1
                  | some xs => rw [hx] at h1; exact ⟨xs, rfl, y.1, y.2, h1⟩
                · obtain ⟨y, h1, _⟩ := (mapM_some hrs).2 (i - len) (i - len) (by rw [List.getElem?_range (by omega)])
                  rw [show len + (i - len) = i by omega] at h1
                  cases hx : w.cells? 0 (a.add (i * P.cellsOf e)) (P.cellsOf e) with
                  | none => rw [hx] at h1; simp at h1
                  | some xs => rw [hx] at h1; exact ⟨xs, rfl, y.1, y.2, h1⟩
              exact got_slice hr ho hu hp1 hp2 hlc hcm (fun x μ H r o => got k e hp3 fuel x.1 _ _ x.2.choose_spec.choose_spec μ H r o) hE
        · simp at h
    · rename_i fs hu
      simp only [Bool.and_eq_true, List.all_eq_true] at hp
      obtain ⟨hp1, hp2⟩ := hp
      simp only [hu] at h
      split at h
      · rename_i hlen
        cases hm : fs.toList.mapM fun f => DataW.trod enc P w 0 (fun _ => true) true fuel f.type ((cs.drop f.offset).take (P.cellsOf f.type)) with
        | none => rw [hm] at h; simp at h
        | some xs =>
          clear h
          obtain ⟨_, hm2⟩ := mapM_some hm
          obtain ⟨las, hl, hq⟩ := build_list (A := {p : Field × List Value // plainT P k p.1.type = true ∧ ∃ d ps, DataW.trod enc P w 0 (fun _ => true) true fuel p.1.type p.2 = some (d, ps)}) fs.toList.length
            (Q := fun i x => fs.toList[i]? = some x.1.1 ∧ x.1.2 = (cs.drop x.1.1.offset).take (P.cellsOf x.1.1.type)) fun i hi => by
              have hf : fs.toList[i]? = some fs.toList[i] := List.getElem?_eq_getElem hi
              obtain ⟨y, h1, _⟩ := hm2 i _ hf
              exact ⟨⟨(fs.toList[i], (cs.drop fs.toList[i].offset).take (P.cellsOf fs.toList[i].type)), hp2 _ (List.getElem_mem hi), y.1, y.2, h1⟩, hf, rfl⟩
          obtain ⟨μ1, H1, vss, g1, r1, o1, l1, v1, n1, t1⟩ := got_list (P := P) (fuel := k) (w := w) (w0 := w0) (B := B) (fun x => x.1.1.type) (fun x => x.1.2) (fun x μ H r o => got k x.1.1.type x.2.1 fuel x.1.2 _ _ x.2.2.choose_spec.choose_spec μ H r o) las μ H hr ho
          have hlen' : vss.length = fs.toList.length := by rw [l1, hl]
          have hget : ∀ (i : Nat) (f : Field) (u : List V), fs.toList[i]? = some f → vss[i]? = some u → u.length = P.cellsOf f.type ∧ WT P k f.type u H1 := by
            intro i f u h1 h2
            have hi : i < las.length := by rw [hl]; exact (List.getElem?_eq_some_iff.mp h1).1
            have ha := List.getElem?_eq_getElem hi
            have hq1 := hq i _ ha
            have := t1 i _ u ha h2
            rw [h1] at hq1
            have hff : f = las[i].1.1 := by simpa using hq1.1
            rw [hff]; exact this
          obtain ⟨q1, q2, q3⟩ := tiles_chunk hp1 hlen' fun i f u h1 h2 => (hget i f u h1 h2).1
          have hcs : (las.map fun x => x.1.2).flatten = cs := by
            have he : (las.map fun x => x.1.2) = fs.toList.map fun f => (cs.drop f.offset).take (P.cellsOf f.type) := by
              apply List.ext_getElem?
              intro i
              simp only [List.getElem?_map]
              cases ha : las[i]? with
              | none =>
                have : fs.toList[i]? = none := by rw [List.getElem?_eq_none_iff] at ha ⊢; omega
                rw [this]; rfl
              | some x =>
                obtain ⟨h1, h2⟩ := hq i x ha
                rw [h1]; simp [h2]
            rw [he, (tiles_whole hlen hp1).2]; rfl
          rw [hcs] at v1
          refine ⟨μ1, H1, vss.flatten, g1, r1, o1, v1, n1, by simpa using q2, ?_⟩
          unfold WT
          simp only [hu]
          refine ⟨by simpa using q2, fun f hf => ?_⟩
          obtain ⟨i, hi, rfl⟩ := List.getElem_of_mem hf
          have h1 : fs.toList[i]? = some fs.toList[i] := List.getElem?_eq_getElem hi
          have h2 : vss[i]? = some vss[i] := List.getElem?_eq_getElem (by omega)
          have := (q3 i _ _ h1 h2).2
          simp only [Nat.sub_zero] at this
          rw [this]
          exact (hget i _ _ h1 h2).2
      · simp at h
    · rename_i n e hu
      simp only [Bool.and_eq_true, decide_eq_true_eq] at hp
      obtain ⟨hp1, hp2⟩ := hp
      simp only [hu] at h
      split at h
      · rename_i hlen
        cases hm : (List.range n).mapM fun i => DataW.trod enc P w 0 (fun _ => true) true fuel e ((cs.drop (i * P.cellsOf e)).take (P.cellsOf e)) with
        | none => rw [hm] at h; simp at h
        | some xs =>
          clear h
          obtain ⟨_, hm2⟩ := mapM_some hm
          obtain ⟨las, hl, hq⟩ := build_list (A := {p : List Value // ∃ d ps, DataW.trod enc P w 0 (fun _ => true) true fuel e p = some (d, ps)}) n
            (Q := fun i x => x.1 = (cs.drop (i * P.cellsOf e)).take (P.cellsOf e)) fun i hi => by
              obtain ⟨y, h1, _⟩ := hm2 i i (by simp [hi])
              exact ⟨⟨_, y.1, y.2, h1⟩, rfl⟩
          obtain ⟨μ1, H1, vss, g1, r1, o1, l1, v1, n1, t1⟩ := got_list (P := P) (fuel := k) (w := w) (w0 := w0) (B := B) (fun _ => e) (fun x => x.1) (fun x μ H r o => got k e hp2 fuel x.1 _ _ x.2.choose_spec.choose_spec μ H r o) las μ H hr ho
          have hget : ∀ (i : Nat) (u : List V), vss[i]? = some u → u.length = P.cellsOf e ∧ WT P k e u H1 := by
            intro i u h2
            have hi : i < las.length := by rw [← l1]; exact (List.getElem?_eq_some_iff.mp h2).1
            exact t1 i _ u (List.getElem?_eq_getElem hi) h2
          have hcs : (las.map fun x => x.1).flatten = cs := by
            have := chunk_whole (cs := cs) (k := P.cellsOf e) (xss := las.map fun x => x.1) (off := 0) (by simp [hl, hp1, hlen]) fun i u hi => by
              rw [List.getElem?_map] at hi
              cases ha : las[i]? with
              | none => rw [ha] at hi; simp at hi
              | some x => rw [ha] at hi; simp at hi; rw [← hi, hq i x ha]; simp
            simpa using this
          rw [hcs] at v1
          have hfl := flatten_len fun i u hi => (hget i u hi).1
          rw [l1, hl, hp1] at hfl
          refine ⟨μ1, H1, vss.flatten, g1, r1, o1, v1, n1, hfl, ?_⟩
          unfold WT
          simp only [hu]
          refine ⟨hfl, fun i hi => ?_⟩
          have h2 : vss[i]? = some vss[i] := List.getElem?_eq_getElem (by omega)
          rw [flatten_chunk (fun i u hi => (hget i u hi).1) h2]
          exact (hget i _ h2).2
      · simp at h
    · simp at hp
end
end Go.AM
end
section
set_option linter.unusedVariables false
set_option linter.unusedSimpArgs false
set_option linter.unusedSimpArgs false
namespace Go.AM
open Go.RowKit (Below)
def argV (P : Program) (t : TypeId) (vs : List V) : V := match P.underlying t with
  | some (.struct _) | some (.array _ _) => .agg vs
  | _ => vs.headD .dead
def WTs (P : Program) (k : Nat) (H : Heap) : List TypeId → List V → Prop
  | [], vs => vs = []
  | t :: ts, vs => ∃ cs us, vs = argV P t cs :: us ∧ WT P k t cs H ∧ WTs P k H ts us
theorem WTs.mono {P : Program} {k : Nat} {H H' : Heap} (hn : H.n ≤ H'.n) (hg : ∀ i, i < H.n → H'.get i = H.get i) : ∀ (ts : List TypeId) (vs : List V), WTs P k H ts vs → WTs P k H' ts vs
  | [], _, h => h
  | t :: ts, vs, ⟨cs, us, e, h, r⟩ => ⟨cs, us, e, WT.mono hn hg k t cs h, WTs.mono hn hg ts us r⟩
section
variable {P : Program} {B : Nat} {w0 w : World} {μ : Mu} {H : Heap} {T : Type} {enc : TypeId × Value → T}
theorem argV_rel {k b : Nat} {t : TypeId} {v : Value} {vs : List V} (h : VRels μ vs v.cells.toList) (hv : Value.okWide P w .any b t v) (hp : plainT P k t = true) : VRel μ (argV P t vs) v := by
  unfold argV
  cases k with
  | zero => simp [plainT] at hp
  | succ k =>
    unfold plainT at hp
    have key : ∀ x, v = x → x.cells = #[x] → VRel μ (vs.headD .dead) v := by
      intro x e1 e2
      subst e1
      rw [e2] at h
      cases vs with
      | nil => simp [VRel]
      | cons u us =>
        simp only [VRels] at h
        obtain ⟨y, ys, e, a, _⟩ := h
        simp at e
        rw [e.1]; exact a
    split at hp
    · rename_i hu; simp only [hu]
      obtain ⟨x, rfl⟩ := WideShapes.okWide_bool hu hv
      exact key _ rfl rfl
    · rename_i q hu; simp only [hu]
      obtain ⟨x, rfl⟩ := WideShapes.okWide_int hu hv
      exact key _ rfl rfl
    · rename_i hu; simp only [hu]
      obtain ⟨x, rfl⟩ := WideShapes.okWide_string hu hv
      exact key _ rfl rfl
    · rename_i e hu; simp only [hu]
      obtain ⟨a, l, c, rfl⟩ := WideShapes.okWide_slice hu hv
      exact key _ rfl rfl
    · rename_i fs hu
      simp only [hu]
      unfold Value.okWide at hv
      simp only [hu] at hv
      obtain ⟨cs, rfl, _⟩ := hv
      simp only [VRel]
      exact ⟨cs, rfl, by simpa [Value.cells] using h⟩
    · rename_i n e hu
      simp only [hu]
      unfold Value.okWide at hv
      simp only [hu] at hv
      obtain ⟨cs, rfl, _⟩ := hv
      simp only [VRel]
      exact ⟨cs, rfl, by simpa [Value.cells] using h⟩
    · cases hp
theorem got_all {k : Nat} : ∀ (ts : List TypeId) (vs : List Value) (ds : List (DataW T)) (ps : List MemPlace) (μ : Mu) (H : Heap),
    ts.all (fun t => plainT P k t) = true → DataW.TrodAll enc P w 0 (fun _ => true) true ts vs ds ps → (∀ (j : Nat) t v, ts[j]? = some t → vs[j]? = some v → ∃ b, Value.okWide P w .any b t v) →
    Rel B w0 μ H w → (∀ j M, μ j = some M → (H.get j).own = false) →
    ∃ μ' H' us, Grows μ H μ' H' ∧ Rel B w0 μ' H' w ∧ (∀ j M, μ' j = some M → (H'.get j).own = false) ∧ VRels μ' us vs ∧ WTs P k H' ts us
  | [], vs, ds, ps, μ, H, _, h, _, hr, ho => by
    cases vs with
    | nil => exact ⟨μ, H, [], Grows.refl, hr, ho, rfl, rfl⟩
    | cons v vs => simp [DataW.TrodAll] at h
  | t :: ts, vs, ds, ps, μ, H, hp, h, hv, hr, ho => by
    cases vs with
    | nil => simp [DataW.TrodAll] at h
    | cons v vs =>
      cases ds with
      | nil => simp [DataW.TrodAll] at h
      | cons d ds =>
        obtain ⟨p, q, ⟨fuel, h1⟩, h2, _⟩ := h
        simp only [List.all_cons, Bool.and_eq_true] at hp
        obtain ⟨μ1, H1, us, g1, r1, o1, v1, n1, l1, t1⟩ := got k t hp.1 fuel _ _ _ h1 μ H hr ho
        obtain ⟨μ2, H2, us2, g2, r2, o2, v2, t2⟩ := got_all ts vs ds q μ1 H1 hp.2 h2 (fun j t v a b => hv (j + 1) t v (by simpa using a) (by simpa using b)) r1 o1
        obtain ⟨b, hw⟩ := hv 0 t v (by simp) (by simp)
        refine ⟨μ2, H2, argV P t us :: us2, g1.trans g2, r2, o2, ?_, us, us2, rfl, WT.mono g2.n g2.get _ _ _ t1, t2⟩
        simp only [VRels]
        exact ⟨v, vs, rfl, VRel.mono g2.le _ _ (argV_rel v1 hw hp.1), v2⟩
theorem Rel.start (w : World) : Rel w.heap.size w ⟨fun _ => none, fun _ => none⟩ ⟨0, .nil⟩ w :=
  ⟨Below.refl _ _, Nat.le_refl _, fun i L h => (by cases h), fun i L h => (by cases h), fun i j L M h => (by cases h), fun i _ => by simp [Heap.get, T.get], fun b vs h => (by cases h), fun b vs h => (by cases h)⟩
theorem law_calls {C : Cfg} (ok : C.Ok) {f : FuncId} {k : Nat} {ts : List TypeId} {args : Array Value} {ds : List (DataW T)} {ps : List MemPlace} {W : World}
    (hp : ts.all (fun t => plainT C.P k t) = true) (hA : DataW.TrodAll enc C.P W 0 (fun _ => true) true ts args.toList ds ps)
    (hv : ∀ (j : Nat) t v, ts[j]? = some t → args.toList[j]? = some v → ∃ b, Value.okWide C.P W .any b t v)
    (hent : (callFunc f args).run C.P W = .ok (.enter f args) W)
    (hlaw : ∀ (H : Heap) (us : List V), WTs C.P k H ts us → ∃ n H', callA C n f us H = some (.bool true, H')) :
    Calls C.P f args W (fun e W' => e = .returned (.bool true) ∧ Below W.heap.size W W') := by
  obtain ⟨μ, H, us, _, hr, _, hvs, hwt⟩ := got_all (P := C.P) (B := W.heap.size) (w0 := W) (w := W) ts args.toList ds ps _ _ hp hA hv (Rel.start W) (by intro j M h; cases h)
  obtain ⟨n, H', hc⟩ := hlaw H us hwt
  have := callA_sound ok n f us H _ H' hc W.heap.size 0 W W μ args hr (Nat.zero_le _) hvs
  rw [hent] at this
  simp only [Gives] at this
  refine this.mono fun e w' ⟨x, he, μ', s, hx⟩ => ?_
  simp only [VRel] at hx
  subst hx
  exact ⟨he, s.rel.below⟩
end
end Go.AM
end
