/- Merged by program from: AmSim AmKeep AmArg2 AmLaw AmFT PeA PeB PeC PeD PeE NvLC AmStr NvLR0 NvLR1. -/
import Derived.WideShapes
import Derived.Test.YtekochogapdjaaaGreatX2
section
set_option linter.unusedVariables false
set_option linter.unusedSimpArgs false
namespace Go.AM
theorem wrap_i64 {n : Int} (h : -9223372036854775808 ≤ n ∧ n ≤ 9223372036854775807) : IntKind.i64.wrap n = n := IntWalk.i64_in n h
theorem wrap_u64 {n : Int} (h : 0 ≤ n ∧ n ≤ 18446744073709551615) : IntKind.u64.wrap n = n := IntWalk.u64_in n h
theorem wrap_u32 {n : Int} (h : 0 ≤ n ∧ n ≤ 4294967295) : IntKind.u32.wrap n = n := IntWalk.u32_in n h
theorem wrap_u8 {n : Int} (h : 0 ≤ n ∧ n ≤ 255) : IntKind.u8.wrap n = n := IntWalk.u8_in n h
theorem wrap_u64m (n : Int) : IntKind.u64.wrap n = n % 18446744073709551616 := rfl
theorem ar_add {k : IntKind} {a b : Int} : arA .add (.int k a) (.int k b) = some (.int k (k.wrap (a + b))) := by simp [arA, intA]
theorem ar_sub {k : IntKind} {a b : Int} : arA .sub (.int k a) (.int k b) = some (.int k (k.wrap (a - b))) := by simp [arA, intA]
theorem ar_mul {k : IntKind} {a b : Int} : arA .mul (.int k a) (.int k b) = some (.int k (k.wrap (a * b))) := by simp [arA, intA]
theorem ar_quo {k : IntKind} {a b : Int} (h : 0 ≤ a ∧ 1 ≤ b) : arA .quo (.int k a) (.int k b) = some (.int k (k.wrap (a / b))) := by
  have : b ≠ 0 := by omega
  simp [arA, intA, this, Int.tdiv_eq_ediv_of_nonneg h.1]
theorem ar_rem {k : IntKind} {a b : Int} (h : 0 ≤ a ∧ 1 ≤ b) : arA .rem (.int k a) (.int k b) = some (.int k (a % b)) := by
  have : b ≠ 0 := by omega
  simp [arA, intA, this, Int.tmod_eq_emod_of_nonneg h.1]
theorem ar_lss {k : IntKind} {a b : Int} : arA .lss (.int k a) (.int k b) = some (.bool (decide (a < b))) := by simp [arA, intA]
theorem ar_leq {k : IntKind} {a b : Int} : arA .leq (.int k a) (.int k b) = some (.bool (decide (a ≤ b))) := by simp [arA, intA]
theorem ar_gtr {k : IntKind} {a b : Int} : arA .gtr (.int k a) (.int k b) = some (.bool (decide (a > b))) := by simp [arA, intA]
theorem ar_geq {k : IntKind} {a b : Int} : arA .geq (.int k a) (.int k b) = some (.bool (decide (a ≥ b))) := by simp [arA, intA]
theorem ar_eql {k : IntKind} {a b : Int} : arA .eql (.int k a) (.int k b) = some (.bool (decide (a = b))) := by
  have : (a == b) = decide (a = b) := by by_cases h : a = b <;> simp [h]
  simp [arA, intA, this]
theorem ar_neq {k : IntKind} {a b : Int} : arA .neq (.int k a) (.int k b) = some (.bool (decide (a ≠ b))) := by
  have : (a != b) = decide (a ≠ b) := by by_cases h : a = b <;> simp [h]
  simp [arA, intA, this]
theorem shr_u64 {q : IntKind} {a : Int} (h : 0 ≤ a) : shA .shr (.int .u64 a) (.int q 32) = some (.int .u64 (a / 4294967296)) := by
  simp [shA, shiftA, IntKind.bits, Int.fdiv_eq_ediv_of_nonneg]
theorem shr_u64_63 {q : IntKind} {a : Int} (h : 0 ≤ a) : shA .shr (.int .u64 a) (.int q 63) = some (.int .u64 (a / 9223372036854775808)) := by
  simp [shA, shiftA, IntKind.bits, Int.fdiv_eq_ediv_of_nonneg]
theorem wrap_u64_pos (z : Int) : 0 ≤ IntKind.u64.wrap z := by rw [wrap_u64m]; exact Int.emod_nonneg _ (by decide)
theorem shr_u64w {q : IntKind} {a : Int} : shA .shr (.int .u64 (IntKind.u64.wrap a)) (.int q 32) = some (.int .u64 (IntKind.u64.wrap a / 4294967296)) := shr_u64 (wrap_u64_pos _)
theorem shr_u64_63w {q : IntKind} {a : Int} : shA .shr (.int .u64 (IntKind.u64.wrap a)) (.int q 63) = some (.int .u64 (IntKind.u64.wrap a / 9223372036854775808)) := shr_u64_63 (wrap_u64_pos _)
theorem asB_bool {b : Bool} : asB (.bool b) = some b := (Eq.refl _).trans (Eq.refl _)
theorem cv_int {k k' : IntKind} {n : Int} : cvInt k (.int k' n) = some (.int k (k.wrap n)) := (Eq.refl _).trans (Eq.refl _)
theorem ext_tuple {vs : List V} {i : Nat} : extA (.tuple vs) i = vs[i]? := (Eq.refl _).trans (Eq.refl _)
theorem lenSl_mk {a : Option (Nat × Nat)} {l z : Nat} {f : Bool} : lenSl (.slice ⟨a, l, z, f⟩) = some (.int .i64 (l : Int)) := (Eq.refl _).trans (Eq.refl _)
theorem faA_mk {b o off : Nat} : faA off (.ptr (some (b, o))) = some (.ptr (some (b, o + off))) := (Eq.refl _).trans (Eq.refl _)
attribute [simp] ar_add ar_sub ar_mul ar_quo ar_rem ar_lss ar_leq ar_gtr ar_geq ar_eql ar_neq shr_u64 shr_u64_63 shr_u64w shr_u64_63w asB_bool cv_int ext_tuple lenSl_mk faA_mk
theorem more_zero {H : Heap} : H.more 0 = H := (Eq.refl _).trans (Eq.refl _)
attribute [simp] more_zero mkSl_nums
attribute [simp high] mkSl_zero
attribute [simp] wrap_i64 wrap_u64 wrap_u32 wrap_u8 bndA_int bndA_none
theorem one_bool {b : Bool} : V.one (.bool b) = true := (Eq.refl _).trans (Eq.refl _)
theorem one_int {k : IntKind} {n : Int} : V.one (.int k n) = true := (Eq.refl _).trans (Eq.refl _)
theorem one_slice {s : Sl} : V.one (.slice s) = true := (Eq.refl _).trans (Eq.refl _)
theorem one_str {s : List UInt8} : V.one (.str s) = true := (Eq.refl _).trans (Eq.refl _)
theorem cells_bool {b : Bool} : V.cells (.bool b) = [.bool b] := (Eq.refl _).trans (Eq.refl _)
theorem cells_int {k : IntKind} {n : Int} : V.cells (.int k n) = [.int k n] := (Eq.refl _).trans (Eq.refl _)
theorem cells_slice {s : Sl} : V.cells (.slice s) = [.slice s] := (Eq.refl _).trans (Eq.refl _)
theorem cells_agg {l : List V} : V.cells (.agg l) = l := (Eq.refl _).trans (Eq.refl _)
theorem boxA_agg {e : Nat} {cs : List V} (h : cs.all V.one = true) : boxA e (.agg cs) = some (.cells cs e false) := by simp only [boxA, cells_agg, h, if_true]
theorem un_not {b : Bool} : unA .not (.bool b) = some (.bool !b) := (Eq.refl _).trans (Eq.refl _)
theorem un_neg {k : IntKind} {n : Int} : unA .neg (.int k n) = some (.int k (k.wrap (0 - n))) := (Eq.refl _).trans (Eq.refl _)
theorem chk_bool {b : Bool} : chk (some (.bool b)) (.bool b) = some () := by simp [chk, V.beq]
theorem chk_int {k : IntKind} {n : Int} : chk (some (.int k n)) (.int k n) = some () := by simp [chk, V.beq]
theorem chk_slice {s : Sl} : chk (some (.slice s)) (.slice s) = some () := by simp [chk, V.beq]
theorem beqs_self : ∀ (l : List V), (∀ v, v ∈ l → V.beq v v = true) → V.beqs l l = true
  | [], _ => by simp [V.beqs]
  | v :: l, h => by simp [V.beqs, h v (by simp), beqs_self l fun u hu => h u (by simp [hu])]
theorem ld1_push_ne {H : Heap} {i o : Nat} {ob : O} (h : i ≠ H.n) : ld1 (.ptr (some (i, o))) (H.push ob) = ld1 (.ptr (some (i, o))) H := by simp only [ld1, Heap.gqz h]
theorem ld1_push_eq {H : Heap} {i o e : Nat} {cs : List V} {r : Bool} (h : i = H.n) : ld1 (.ptr (some (i, o))) (H.push (.cells cs e r)) = cs[o]? := by simp only [ld1, Heap.gpz h]
theorem ldN_push_ne {H : Heap} {n i o : Nat} {ob : O} (h : i ≠ H.n) : ldN n (.ptr (some (i, o))) (H.push ob) = ldN n (.ptr (some (i, o))) H := by simp only [ldN, Heap.gqz h]
theorem ldN_push_eq {H : Heap} {n i o e : Nat} {cs : List V} {r : Bool} (h : i = H.n) (hn : o + n ≤ cs.length) : ldN n (.ptr (some (i, o))) (H.push (.cells cs e r)) = some (.agg ((cs.drop o).take n)) := by simp only [ldN, Heap.gpz h, if_pos hn]
theorem Ch.ld1 {X : Nat → Prop} {H H' : Heap} (c : Ch X H H') {i o : Nat} (h : i < H.n) (hx : ¬ X i) : ld1 (.ptr (some (i, o))) H' = ld1 (.ptr (some (i, o))) H := by simp only [AM.ld1, c.get i h hx]
theorem Ch.ldN {X : Nat → Prop} {H H' : Heap} (c : Ch X H H') {n i o : Nat} (h : i < H.n) (hx : ¬ X i) : ldN n (.ptr (some (i, o))) H' = ldN n (.ptr (some (i, o))) H := by simp only [AM.ldN, c.get i h hx]
theorem Ch.l1 {H H' : Heap} (c : Ext0 H H') {i o : Nat} (h : i < H.n) : AM.ld1 (.ptr (some (i, o))) H' = AM.ld1 (.ptr (some (i, o))) H := c.ld1 h fun f => f
theorem Ch.g {H H' : Heap} (c : Ext0 H H') {i : Nat} (h : i < H.n) : H'.get i = H.get i := c.get i h fun f => f
attribute [simp] one_bool one_int one_slice one_str cells_bool cells_int cells_slice cells_agg boxA_agg un_not un_neg chk_bool chk_int chk_slice ld1_push_ne ld1_push_eq ldN_push_ne ldN_push_eq flA flE fillA lset Heap.gqz Heap.gpz
end Go.AM
end
section
set_option linter.unusedVariables false
set_option linter.unusedSimpArgs false
set_option linter.unusedSimpArgs false
namespace Go.AM
structure Keep (lo : Nat) (H H' : Heap) : Prop where
  n : H.n ≤ H'.n
  get : ∀ i, lo ≤ i → i < H.n → H'.get i = H.get i
theorem Keep.refl {lo : Nat} {H : Heap} : Keep lo H H := ⟨Nat.le_refl _, fun _ _ _ => rfl⟩
theorem Keep.call {lo : Nat} {H H' H'' : Heap} (h : Keep lo H H') (c : Ext0 H' H'') : Keep lo H H'' :=
  ⟨Nat.le_trans h.n c.n, fun i h1 h2 => (c.get i (Nat.lt_of_lt_of_le h2 h.n) fun f => f).trans (h.get i h1 h2)⟩
theorem Keep.push {lo : Nat} {H H' : Heap} {o : O} (h : Keep lo H H') : Keep lo H (H'.push o) := h.call Ch.push
theorem Keep.more {lo m : Nat} {H H' : Heap} (h : Keep lo H H') : Keep lo H (H'.more m) := h.call Ch.more
theorem Keep.set {lo j : Nat} {H H' : Heap} {o : O} (h : Keep lo H H') (hj : j < lo ∨ H.n ≤ j) : Keep lo H (H'.set j o) :=
  ⟨by simpa using h.n, fun i h1 h2 => by rw [Heap.gtz (by omega)]; exact h.get i h1 h2⟩
theorem Keep.ext {H H' : Heap} (h : Keep 0 H H') : Ext0 H H' := ⟨h.n, fun i hi _ => h.get i (Nat.zero_le _) hi⟩
theorem Row.keep {lo : Nat} {H H' : Heap} {k : IntKind} {s : Sl} {l : List Nat} (h : Row H k s l) (f : Fr lo s) (c : Keep lo H H') : Row H' k s l := by
  refine ⟨h.len, fun b o hs => ⟨Nat.lt_of_lt_of_le (h.low b o hs).1 c.n, (h.low b o hs).2⟩, fun hl => ?_⟩
  obtain ⟨b, o, cs, e', ro, h1, h2, h3, h4⟩ := h.mem hl
  exact ⟨b, o, cs, e', ro, h1, by rw [c.get b (f b ⟨o, h1⟩) (h.low b o h1).1]; exact h2, h3, h4⟩
theorem Fr.zero {s : Sl} : Fr 0 s := fun _ _ => Nat.zero_le _
theorem Fr.mono {m n : Nat} {s : Sl} (h : Fr n s) (hm : m ≤ n) : Fr m s := fun i hi => Nat.le_trans hm (h i hi)
theorem gmz {H : Heap} {m j : Nat} : (H.more m).get j = H.get j := (Eq.refl _).trans (Eq.refl _)
theorem lhz {i o : Nat} {H : Heap} : ld1 (.ptr (some (i, o))) H = (match H.get i with | .cells cs _ _ => cs[o]? | _ => none) := (Eq.refl _).trans (Eq.refl _)
theorem lgz {n i o : Nat} {H : Heap} : ldN n (.ptr (some (i, o))) H = (match H.get i with | .cells cs _ _ => if o + n ≤ cs.length then some (.agg ((cs.drop o).take n)) else none | _ => none) := (Eq.refl _).trans (Eq.refl _)
theorem sgz {n i o : Nat} {x : V} {H : Heap} : stA n (.ptr (some (i, o))) x H = (match H.get i with
    | .cells cs e false => if x.cells.length = n ∧ o + n ≤ cs.length ∧ x.cells.all V.one = true then some (H.set i (.cells (lset cs o x.cells) e false)) else none
    | _ => none) := (Eq.refl _).trans (Eq.refl _)
theorem chk_agg {l : List V} (h : ∀ v, v ∈ l → V.beq v v = true) : chk (some (.agg l)) (.agg l) = some () := by simp [chk, V.beq, beqs_self l h]
theorem beq_bool {b : Bool} : V.beq (.bool b) (.bool b) = true := by simp [V.beq]
theorem beq_int {k : IntKind} {n : Int} : V.beq (.int k n) (.int k n) = true := by simp [V.beq]
theorem beq_slice {s : Sl} : V.beq (.slice s) (.slice s) = true := by simp [V.beq]
theorem gs {a : V} {l : List V} {i : Nat} : (a :: l)[i + 1]? = l[i]? := by simp
theorem chk_i {b : Bool} {s : Sl} : chk (some (.agg [.bool b, .slice s])) (.agg [.bool b, .slice s]) = some () := chk_agg (by simp [V.beq])
theorem chk_r {b : Bool} {s t : Sl} : chk (some (.agg [.bool b, .slice s, .slice t])) (.agg [.bool b, .slice s, .slice t]) = some () := chk_agg (by simp [V.beq])
theorem chk_i' {k : IntKind} {b : Int} {s : Sl} : chk (some (.agg [.int k b, .slice s])) (.agg [.int k b, .slice s]) = some () := chk_agg (by simp [V.beq])
theorem chk_r' {k l : IntKind} {b c : Int} {s t : Sl} : chk (some (.agg [.int k b, .slice s, .int l c, .slice t])) (.agg [.int k b, .slice s, .int l c, .slice t]) = some () := chk_agg (by simp [V.beq])
attribute [simp] chk_i chk_r chk_i' chk_r'
attribute [simp] beq_bool beq_int beq_slice
theorem Tot.pure {α : Type} {x : Option α} {a : α} {k : Nat → α → Option R} {Q : V → Heap → Prop} (h : x = some a) (hk : Tot (fun n => k n a) Q) : Tot (fun n => bnd x (k n)) Q := by
  subst h; exact hk
theorem Tot.chk {x : Option Unit} {k : Nat → Unit → Option R} {Q : V → Heap → Prop} (h : x = some ()) (hk : Tot (fun n => k n ()) Q) : Tot (fun n => bnd x (k n)) Q := by
  subst h; exact hk
theorem Keep.auto {lo : Nat} {H H' : Heap} (h : Keep lo H H' := by (repeat (first | exact Keep.refl | refine Keep.call ?_ (by assumption) | refine Keep.push ?_ | refine Keep.more ?_ | refine Keep.set ?_ (by first | omega | (simp only [npz, nsz, nmz] <;> omega) | fail)))) : Keep lo H H' := h
theorem Tot.autoP {α : Type} {x : Option α} {a : α} {k : Nat → α → Option R} {Q : V → Heap → Prop} (hk : Tot (fun n => k n a) Q) (h : x = some a := by simp (disch := first | omega | (simp only [npz, nsz, nmz] <;> omega) | fail) [lhz, lgz, sgz, boxA, gz, gs, Heap.gqz, Heap.gpz, Heap.gtz, Heap.gsz, gmz, npz, nsz, nmz]; try exact rfl) : Tot (fun n => bnd x (k n)) Q := Tot.pure h hk
theorem Tot.autoC {x : Option Unit} {k : Nat → Unit → Option R} {Q : V → Heap → Prop} (hk : Tot (fun n => k n ()) Q) (h : x = some () := by simp (disch := first | omega | (simp only [npz, nsz, nmz] <;> omega) | fail) [lhz, lgz, sgz, boxA, gz, gs, Heap.gqz, Heap.gpz, Heap.gtz, Heap.gsz, gmz, npz, nsz, nmz]; done) : Tot (fun n => bnd x (k n)) Q := Tot.chk h hk
end Go.AM
end
section
set_option linter.unusedVariables false
set_option linter.unusedSimpArgs false
set_option linter.unusedSimpArgs false
namespace Go.AM
open Go.RowKit (Below)
section
variable {P : Program} {B n0 N : Nat} {w0 w1 w w' w'' : World} {μ0 μ μ' μ'' ν : Mu} {H0 H H' H'' : Heap} {T : Type} {enc : TypeId × Value → T}
theorem got_one {k : Nat} {t : TypeId} {v : V} {x : Value} (hr : Rel B w0 μ H w) (ho : ∀ j M, μ j = some M → (H.get j).own = false) (h1 : VRel μ v x) (h2 : v.one = true) (h3 : P.cellsOf t = 1) (h4 : WT P k t [v] H) : Got P B w0 μ H w k t [x] :=
  ⟨μ, H, [v], Grows.refl, hr, ho, by simp only [VRels]; exact ⟨x, [], rfl, h1, rfl⟩, by simp [h2], by simp [h3], h4⟩
theorem cells_spec {base n : Nat} {a : Addr} {xs : List Value} (h : w.cells? base a n = some xs) : xs.length = n ∧ ∀ (i : Nat), i < n → w.cell? (a.add i) = xs[i]? := by
  unfold World.cells? at h
  split at h
  · obtain ⟨h1, h2⟩ := mapM_some h
    simp at h1
    refine ⟨h1.symm, fun i hi => ?_⟩
    obtain ⟨y, h3, h4⟩ := h2 i i (by simp [hi])
    rw [h3, h4]
  · simp at h
theorem cell_spot {a : Addr} {x : Value} (h : w.cell? a = some x) : ∃ c e fr, w.heap[a.block]? = some (.cells c e fr) ∧ a.spot = none ∧ c[a.off]? = some x := by
  unfold World.cell? at h
  split at h
  · rename_i c e fr hb
    split at h
    · simp at h
    · rename_i hs; exact ⟨c, e, fr, hb, by simpa using hs, h⟩
  · simp at h
theorem flatten_get {α : Type} {k : Nat} {xss : List (List α)} {i j : Nat} {xs : List α} (hl : ∀ (i : Nat) (u : List α), xss[i]? = some u → u.length = k) (hi : xss[i]? = some xs) (hj : j < k) : xss.flatten[i * k + j]? = xs[j]? := by
  have := flatten_chunk hl hi
  rw [← this, List.getElem?_take, if_pos hj, List.getElem?_drop]
theorem build_list {A : Type} : ∀ (n : Nat) {Q : Nat → A → Prop}, (∀ i, i < n → ∃ x, Q i x) → ∃ l : List A, l.length = n ∧ ∀ (i : Nat) (x : A), l[i]? = some x → Q i x
  | 0, Q, _ => ⟨[], rfl, by simp⟩
  | n + 1, Q, h => by
    obtain ⟨x, hx⟩ := h 0 (by omega)
    obtain ⟨l, hl, hq⟩ := build_list n (Q := fun i x => Q (i + 1) x) fun i hi => h (i + 1) (by omega)
    refine ⟨x :: l, by simp [hl], ?_⟩
    intro i y hy
    cases i with
    | zero => simp at hy; subst hy; exact hx
    | succ i => simp at hy; exact hq i y hy
theorem chunk_whole {α : Type} {k : Nat} {cs : List α} : ∀ {xss : List (List α)} {off : Nat}, off + xss.length * k = cs.length → (∀ (i : Nat) (u : List α), xss[i]? = some u → u = (cs.drop (off + i * k)).take k) → xss.flatten = cs.drop off
  | [], off, h, _ => by simp at h; simp [h]
  | u :: xss, off, h, hu => by
    have h0 := hu 0 u (by simp)
    simp only [Nat.zero_mul, Nat.add_zero] at h0
    have ih := chunk_whole (k := k) (cs := cs) (xss := xss) (off := off + k) (by simp [Nat.succ_mul] at h; omega) fun i v hv => by
      have := hu (i + 1) v (by simpa using hv)
      rw [this, Nat.succ_mul]
      congr 2
      omega
    simp only [List.flatten_cons, ih, h0]
    rw [← List.drop_drop]
    exact List.take_append_drop _ _
theorem add_off (a : Addr) (i : Nat) (hs : a.spot = none) : a.add i = ⟨a.block, a.off + i, none⟩ := by
  cases a with
  | mk b o s =>
    simp only at hs; subst hs
    unfold Addr.add
    split
    · rename_i h; subst h; rfl
    · rfl
theorem got_slice {k fuel len cap : Nat} {t e : TypeId} {a : Addr} (hr : Rel B w0 μ H w) (ho : ∀ j M, μ j = some M → (H.get j).own = false)
    (hu : P.underlying t = some (.slice e)) (hp1 : P.cellsOf t = 1) (hp2 : 0 < P.cellsOf e) (hlc : len ≤ cap) (hcm : cap ≤ maxLen)
    (hstep : ∀ (x : {xs : List Value // ∃ d ps, DataW.trod enc P w 0 (fun _ => true) true fuel e xs = some (d, ps)}) (μ : Mu) (H : Heap), Rel B w0 μ H w → (∀ j M, μ j = some M → (H.get j).own = false) → Got P B w0 μ H w k e x.1)
    (hE : ∀ i, i < cap → ∃ xs, w.cells? 0 (a.add (i * P.cellsOf e)) (P.cellsOf e) = some xs ∧ ∃ d ps, DataW.trod enc P w 0 (fun _ => true) true fuel e xs = some (d, ps)) :
    Got P B w0 μ H w (k + 1) t [.slice (some a) len cap] := by
  by_cases hc0 : cap = 0
  · subst hc0
    have hl0 : len = 0 := by omega
    subst hl0
    have hfr : μ H.n = none := hr.fresh (Nat.le_refl _)
    refine ⟨μ.put H.n ⟨0, 0, 0⟩, H.push .none, [.slice ⟨some (H.n, 0), 0, P.cellsOf e, false⟩], ⟨Mu.le_put hfr, by simp, fun i hi => by rw [Heap.get_push, if_neg (by omega)]⟩,
      hr.lay (by simp [O.live]) rfl ho trivial, ?_, ?_, rfl, by simp [hp1], ?_⟩
    · intro j M e1
      rw [Heap.get_push]
      simp only [Mu.put] at e1
      split at e1
      · rename_i hj; rw [if_pos hj]; rfl
      · rename_i hj; rw [if_neg hj]; exact ho j M e1
    · simp only [VRels, VRel]
      exact ⟨_, _, rfl, ⟨⟨0, 0, 0⟩, a, 0, by simp [Mu.put], rfl, Nat.le_refl _, by simp, .inl rfl⟩, rfl⟩
    · unfold WT
      simp only [hu]
      exact .inr ⟨H.n, 0, false, rfl, by simp, by omega, by simp⟩
  · obtain ⟨las, hl, hq⟩ := build_list (A := {xs : List Value // ∃ d ps, DataW.trod enc P w 0 (fun _ => true) true fuel e xs = some (d, ps)}) len
      (Q := fun i x => w.cells? 0 (a.add (i * P.cellsOf e)) (P.cellsOf e) = some x.1) fun i hi => by
        obtain ⟨xs, h1, h2⟩ := hE i (by omega)
        exact ⟨⟨xs, h2⟩, h1⟩
    obtain ⟨μ1, H1, vss, g1, r1, o1, l1, v1, n1, t1⟩ := got_list (P := P) (fuel := k) (w := w) (w0 := w0) (B := B) (fun _ => e) (fun x => x.1) hstep las μ H hr ho
    have hget : ∀ (i : Nat) (u : List V), vss[i]? = some u → u.length = P.cellsOf e ∧ WT P k e u H1 := by
      intro i u h2
      have hi : i < las.length := by rw [← l1]; exact (List.getElem?_eq_some_iff.mp h2).1
      exact t1 i _ u (List.getElem?_eq_getElem hi) h2
    have hfl := flatten_len fun i u hi => (hget i u hi).1
    rw [l1, hl] at hfl
    have hlast : ∃ c e' fr, w.heap[a.block]? = some (.cells c e' fr) ∧ a.spot = none ∧ a.off + cap * P.cellsOf e ≤ c.size := by
      obtain ⟨xs, h1, _⟩ := hE (cap - 1) (by omega)
      obtain ⟨hx1, hx2⟩ := cells_spec h1
      have h3 := hx2 (P.cellsOf e - 1) (by omega)
      have h4 : xs[P.cellsOf e - 1]? = some (xs[P.cellsOf e - 1]'(by omega)) := List.getElem?_eq_getElem _
      rw [h4] at h3
      obtain ⟨c, e', fr, k1, k2, k3⟩ := cell_spot h3
      have hs : a.spot = none := by
        obtain ⟨ys, j1, _⟩ := hE 0 (by omega)
        obtain ⟨jx1, jx2⟩ := cells_spec j1
        have j3 := jx2 0 hp2
        have j4 : ys[0]? = some (ys[0]'(by omega)) := List.getElem?_eq_getElem _
        rw [j4] at j3
        obtain ⟨_, _, _, _, m2, _⟩ := cell_spot j3
        simpa [Addr.add] using m2
      rw [add_off a _ hs, add_off _ _ rfl] at k1 k3
      simp only at k1 k3
      have k4 := (Array.getElem?_eq_some_iff.mp k3).1
      refine ⟨c, e', fr, k1, hs, ?_⟩
      have : cap * P.cellsOf e = (cap - 1) * P.cellsOf e + P.cellsOf e := by
        rw [← Nat.succ_mul]; congr 1; omega
      omega
    obtain ⟨c, e', fr, hb, hs, hsz⟩ := hlast
    have hfr : μ1 H1.n = none := r1.fresh (Nat.le_refl _)
    have hle := Mu.le_put (L := ⟨a.block, a.off, c.size⟩) hfr
    have hmul : len * P.cellsOf e ≤ cap * P.cellsOf e := Nat.mul_le_mul_right _ hlc
    refine ⟨μ1.put H1.n ⟨a.block, a.off, c.size⟩, H1.push (.cells vss.flatten e true), [.slice ⟨some (H1.n, 0), len, P.cellsOf e, false⟩],
      g1.trans ⟨hle, by simp, fun i hi => by rw [Heap.get_push, if_neg (by omega)]⟩,
      r1.lay (fun _ => (Array.getElem?_eq_some_iff.mp hb).1) rfl o1 ?_, ?_, ?_, rfl, by simp [hp1], ?_⟩
    · refine ⟨c, e', fr, hb, rfl, by simp only [hfl]; omega, ?_, by simp⟩
      intro j v hv
      have hj : j < len * P.cellsOf e := by rw [← hfl]; exact (List.getElem?_eq_some_iff.mp hv).1
      refine ⟨?_, ?_⟩
      · have := List.all_eq_true.mp n1 v (List.mem_of_getElem? hv)
        exact this
      · obtain ⟨x, hx, hv'⟩ := VRels.get v1 j v hv
        refine ⟨x, ?_, VRel.mono hle _ _ hv'⟩
        have hdm : j / P.cellsOf e < len := (Nat.div_lt_iff_lt_mul hp2).mpr hj
        have hja : las[j / P.cellsOf e]? = some (las[j / P.cellsOf e]'(by omega)) := List.getElem?_eq_getElem _
        have hq1 := hq _ _ hja
        obtain ⟨hx1, hx2⟩ := cells_spec hq1
        have hmod : j % P.cellsOf e < P.cellsOf e := Nat.mod_lt _ hp2
        have h3 := hx2 _ hmod
        have hlens : ∀ (i : Nat) (u : List Value), (las.map fun x => x.1)[i]? = some u → u.length = P.cellsOf e := by
          intro i u hi
          rw [List.getElem?_map] at hi
          cases ha : las[i]? with
          | none => rw [ha] at hi; simp at hi
          | some y => rw [ha] at hi; simp at hi; rw [← hi]; exact (cells_spec (hq i y ha)).1
        have h4 := flatten_get (xss := las.map fun x => x.1) (i := j / P.cellsOf e) (j := j % P.cellsOf e) (k := P.cellsOf e) hlens (by rw [List.getElem?_map, hja]; rfl) hmod
        have hjj : j / P.cellsOf e * P.cellsOf e + j % P.cellsOf e = j := by rw [Nat.mul_comm]; exact Nat.div_add_mod _ _
        rw [hjj, hx] at h4
        rw [← h4, add_off a _ hs, add_off _ _ rfl] at h3
        obtain ⟨c', e'', fr', k1, k2, k3⟩ := cell_spot h3
        simp only at k1 k3
        rw [hb] at k1
        cases k1
        rw [show a.off + j / P.cellsOf e * P.cellsOf e + j % P.cellsOf e = a.off + j by omega] at k3
        exact k3
    · intro j M e1
      rw [Heap.get_push]
      simp only [Mu.put] at e1
      split at e1
      · rename_i hj; rw [if_pos hj]; rfl
      · rename_i hj; rw [if_neg hj]; exact o1 j M e1
    · simp only [VRels, VRel]
      refine ⟨_, _, rfl, ⟨⟨a.block, a.off, c.size⟩, a, cap, by simp [Mu.put], rfl, hlc, by simp, .inr ⟨?_, by simpa using hsz⟩⟩, rfl⟩
      cases a with
      | mk b o s => simp at hs; subst hs; simp
    · unfold WT
      simp only [hu]
      refine .inr ⟨H1.n, len, false, rfl, by simp, by omega, fun _ => ⟨e, vss.flatten, by rw [Heap.get_push, if_pos rfl], hfl, fun j hj => ?_⟩⟩
      have h2 : vss[j]? = some vss[j] := List.getElem?_eq_getElem (by omega)
      rw [flatten_chunk (fun i u hi => (hget i u hi).1) h2]
      exact (hget j _ h2).2.mono (by simp) fun i hi => by rw [Heap.get_push, if_neg (by omega)]
theorem got : ∀ (k : Nat) (t : TypeId), plainT P k t = true → ∀ (fuel : Nat) (cs : List Value) (d : DataW T) (ps : List MemPlace),
    DataW.trod enc P w 0 (fun _ => true) true fuel t cs = some (d, ps) → ∀ (μ : Mu) (H : Heap), Rel B w0 μ H w → (∀ j M, μ j = some M → (H.get j).own = false) → Got P B w0 μ H w k t cs
  | 0, t, hp, _, _, _, _, _, _, _, _, _ => by simp [plainT] at hp
  | k + 1, t, hp, 0, cs, d, ps, h, μ, H, hr, ho => by simp [DataW.trod] at h
  | k + 1, t, hp, fuel + 1, cs, d, ps, h, μ, H, hr, ho => by
    unfold plainT at hp
    unfold DataW.trod at h
    split at hp
    · rename_i hu
      simp only [hu] at h
      split at h
      all_goals first
        | (rename_i heq; cases heq; done)
        | (simp at h; done)
        | skip
      rename_i b _
      exact got_one hr ho (v := .bool b) (by simp only [VRel]) rfl (by simpa using hp) (by unfold WT; simp [hu])
    · rename_i q hu
      simp only [hu] at h
      split at h
      all_goals first
        | (rename_i heq; cases heq; done)
        | (simp at h; done)
        | skip
      rename_i q' k' n heq
      cases heq
      split at h
      · rename_i hc
        obtain ⟨rfl, hw⟩ := hc
        exact got_one hr ho (v := .int k' n) (by simp only [VRel]) rfl (by simpa using hp) (by unfold WT; simp [hu]; exact hw)
      · simp at h
    · rename_i hu
      simp only [hu] at h
      split at h
      all_goals first
        | (rename_i heq; cases heq; done)
        | (simp at h; done)
        | skip
      rename_i s _
      split at h
      · rename_i hc
        exact got_one hr ho (v := .str s.data.toList) (by simp only [VRel]) rfl (by simpa using hp) (by unfold WT; simp only [hu]; exact ⟨_, rfl, by simpa using hc⟩)
      · simp at h
    · rename_i e hu
      simp only [Bool.and_eq_true, decide_eq_true_eq] at hp
      obtain ⟨⟨hp1, hp2⟩, hp3⟩ := hp
      simp only [hu] at h
      split at h
      all_goals first
        | (rename_i heq; cases heq; done)
        | (simp at h; done)
        | skip
      · exact got_one hr ho (v := .slice ⟨none, 0, 0, false⟩) (by simp only [VRel]; exact ⟨trivial, trivial⟩) rfl hp1 (by unfold WT; simp [hu])
      · rename_i e' a len cap heq
        cases heq
        split at h
        · rename_i hc
          obtain ⟨_, hlc, hcm⟩ := hc
          cases hes : (List.range len).mapM fun i => (w.cells? 0 (a.add (i * P.cellsOf e)) (P.cellsOf e)).bind (DataW.trod enc P w 0 (fun _ => true) true fuel e) with
          | none => rw [hes] at h; simp at h
          | some elems =>
            rw [hes] at h
            simp only [Option.bind_some, if_true] at h
            cases hrs : (List.range (cap - len)).mapM fun j => (w.cells? 0 (a.add ((len + j) * P.cellsOf e)) (P.cellsOf e)).bind (DataW.trod enc P w 0 (fun _ => true) true fuel e) with
            | none => rw [hrs] at h; simp at h
            | some rest =>
              clear h
              have hE : ∀ i, i < cap → ∃ xs, w.cells? 0 (a.add (i * P.cellsOf e)) (P.cellsOf e) = some xs ∧ ∃ d ps, DataW.trod enc P w 0 (fun _ => true) true fuel e xs = some (d, ps) := by
                intro i hi
                by_cases hil : i < len
                · obtain ⟨y, h1, _⟩ := (mapM_some hes).2 i i (by simp [hil])
                  cases hx : w.cells? 0 (a.add (i * P.cellsOf e)) (P.cellsOf e) with
                  | none => rw [hx] at h1; simp at h1
                  | some xs => rw [hx] at h1; exact ⟨xs, rfl, y.1, y.2, h1⟩
                · obtain ⟨y, h1, _⟩ := (mapM_some hrs).2 (i - len) (i - len) (by rw [List.getElem?_range (by omega)])
                  rw [show len + (i - len) = i by omega] at h1
                  cases hx : w.cells? 0 (a.add (i * P.cellsOf e)) (P.cellsOf e) with
                  | none => rw [hx] at h1; simp at h1
                  | some xs => rw [hx] at h1; exact ⟨xs, rfl, y.1, y.2, h1⟩
              exact got_slice hr ho hu hp1 hp2 hlc hcm (fun x μ H r o => got k e hp3 fuel x.1 _ _ x.2.choose_spec.choose_spec μ H r o) hE
        · simp at h
    · rename_i fs hu
      simp only [Bool.and_eq_true, List.all_eq_true] at hp
      obtain ⟨hp1, hp2⟩ := hp
      simp only [hu] at h
      split at h
      · rename_i hlen
        cases hm : fs.toList.mapM fun f => DataW.trod enc P w 0 (fun _ => true) true fuel f.type ((cs.drop f.offset).take (P.cellsOf f.type)) with
        | none => rw [hm] at h; simp at h
        | some xs =>
          clear h
          obtain ⟨_, hm2⟩ := mapM_some hm
          obtain ⟨las, hl, hq⟩ := build_list (A := {p : Field × List Value // plainT P k p.1.type = true ∧ ∃ d ps, DataW.trod enc P w 0 (fun _ => true) true fuel p.1.type p.2 = some (d, ps)}) fs.toList.length
            (Q := fun i x => fs.toList[i]? = some x.1.1 ∧ x.1.2 = (cs.drop x.1.1.offset).take (P.cellsOf x.1.1.type)) fun i hi => by
              have hf : fs.toList[i]? = some fs.toList[i] := List.getElem?_eq_getElem hi
              obtain ⟨y, h1, _⟩ := hm2 i _ hf
              exact ⟨⟨(fs.toList[i], (cs.drop fs.toList[i].offset).take (P.cellsOf fs.toList[i].type)), hp2 _ (List.getElem_mem hi), y.1, y.2, h1⟩, hf, rfl⟩
          obtain ⟨μ1, H1, vss, g1, r1, o1, l1, v1, n1, t1⟩ := got_list (P := P) (fuel := k) (w := w) (w0 := w0) (B := B) (fun x => x.1.1.type) (fun x => x.1.2) (fun x μ H r o => got k x.1.1.type x.2.1 fuel x.1.2 _ _ x.2.2.choose_spec.choose_spec μ H r o) las μ H hr ho
          have hlen' : vss.length = fs.toList.length := by rw [l1, hl]
          have hget : ∀ (i : Nat) (f : Field) (u : List V), fs.toList[i]? = some f → vss[i]? = some u → u.length = P.cellsOf f.type ∧ WT P k f.type u H1 := by
            intro i f u h1 h2
            have hi : i < las.length := by rw [hl]; exact (List.getElem?_eq_some_iff.mp h1).1
            have ha := List.getElem?_eq_getElem hi
            have hq1 := hq i _ ha
            have := t1 i _ u ha h2
            rw [h1] at hq1
            have hff : f = las[i].1.1 := by simpa using hq1.1
            rw [hff]; exact this
          obtain ⟨q1, q2, q3⟩ := tiles_chunk hp1 hlen' fun i f u h1 h2 => (hget i f u h1 h2).1
          have hcs : (las.map fun x => x.1.2).flatten = cs := by
            have he : (las.map fun x => x.1.2) = fs.toList.map fun f => (cs.drop f.offset).take (P.cellsOf f.type) := by
              apply List.ext_getElem?
              intro i
              simp only [List.getElem?_map]
              cases ha : las[i]? with
              | none =>
                have : fs.toList[i]? = none := by rw [List.getElem?_eq_none_iff] at ha ⊢; omega
                rw [this]; rfl
              | some x =>
                obtain ⟨h1, h2⟩ := hq i x ha
                rw [h1]; simp [h2]
            rw [he, (tiles_whole hlen hp1).2]; rfl
          rw [hcs] at v1
          refine ⟨μ1, H1, vss.flatten, g1, r1, o1, v1, n1, by simpa using q2, ?_⟩
          unfold WT
          simp only [hu]
          refine ⟨by simpa using q2, fun f hf => ?_⟩
          obtain ⟨i, hi, rfl⟩ := List.getElem_of_mem hf
          have h1 : fs.toList[i]? = some fs.toList[i] := List.getElem?_eq_getElem hi
          have h2 : vss[i]? = some vss[i] := List.getElem?_eq_getElem (by omega)
          have := (q3 i _ _ h1 h2).2
          simp only [Nat.sub_zero] at this
          rw [this]
          exact (hget i _ _ h1 h2).2
      · simp at h
    · rename_i n e hu
      simp only [Bool.and_eq_true, decide_eq_true_eq] at hp
      obtain ⟨hp1, hp2⟩ := hp
      simp only [hu] at h
      split at h
      · rename_i hlen
        cases hm : (List.range n).mapM fun i => DataW.trod enc P w 0 (fun _ => true) true fuel e ((cs.drop (i * P.cellsOf e)).take (P.cellsOf e)) with
        | none => rw [hm] at h; simp at h
        | some xs =>
          clear h
          obtain ⟨_, hm2⟩ := mapM_some hm
          obtain ⟨las, hl, hq⟩ := build_list (A := {p : List Value // ∃ d ps, DataW.trod enc P w 0 (fun _ => true) true fuel e p = some (d, ps)}) n
            (Q := fun i x => x.1 = (cs.drop (i * P.cellsOf e)).take (P.cellsOf e)) fun i hi => by
              obtain ⟨y, h1, _⟩ := hm2 i i (by simp [hi])
              exact ⟨⟨_, y.1, y.2, h1⟩, rfl⟩
          obtain ⟨μ1, H1, vss, g1, r1, o1, l1, v1, n1, t1⟩ := got_list (P := P) (fuel := k) (w := w) (w0 := w0) (B := B) (fun _ => e) (fun x => x.1) (fun x μ H r o => got k e hp2 fuel x.1 _ _ x.2.choose_spec.choose_spec μ H r o) las μ H hr ho
          have hget : ∀ (i : Nat) (u : List V), vss[i]? = some u → u.length = P.cellsOf e ∧ WT P k e u H1 := by
            intro i u h2
            have hi : i < las.length := by rw [← l1]; exact (List.getElem?_eq_some_iff.mp h2).1
            exact t1 i _ u (List.getElem?_eq_getElem hi) h2
          have hcs : (las.map fun x => x.1).flatten = cs := by
            have := chunk_whole (cs := cs) (k := P.cellsOf e) (xss := las.map fun x => x.1) (off := 0) (by simp [hl, hp1, hlen]) fun i u hi => by
              rw [List.getElem?_map] at hi
              cases ha : las[i]? with
              | none => rw [ha] at hi; simp at hi
              | some x => rw [ha] at hi; simp at hi; rw [← hi, hq i x ha]; simp
            simpa using this
          rw [hcs] at v1
          have hfl := flatten_len fun i u hi => (hget i u hi).1
          rw [l1, hl, hp1] at hfl
          refine ⟨μ1, H1, vss.flatten, g1, r1, o1, v1, n1, hfl, ?_⟩
          unfold WT
          simp only [hu]
          refine ⟨hfl, fun i hi => ?_⟩
          have h2 : vss[i]? = some vss[i] := List.getElem?_eq_getElem (by omega)
          rw [flatten_chunk (fun i u hi => (hget i u hi).1) h2]
          exact (hget i _ h2).2
      · simp at h
    · simp at hp
end
end Go.AM
end
section
set_option linter.unusedVariables false
set_option linter.unusedSimpArgs false
set_option linter.unusedSimpArgs false
namespace Go.AM
open Go.RowKit (Below)
def argV (P : Program) (t : TypeId) (vs : List V) : V := match P.underlying t with
  | some (.struct _) | some (.array _ _) => .agg vs
  | _ => vs.headD .dead
def WTs (P : Program) (k : Nat) (H : Heap) : List TypeId → List V → Prop
  | [], vs => vs = []
  | t :: ts, vs => ∃ cs us, vs = argV P t cs :: us ∧ WT P k t cs H ∧ WTs P k H ts us
theorem WTs.mono {P : Program} {k : Nat} {H H' : Heap} (hn : H.n ≤ H'.n) (hg : ∀ i, i < H.n → H'.get i = H.get i) : ∀ (ts : List TypeId) (vs : List V), WTs P k H ts vs → WTs P k H' ts vs
  | [], _, h => h
  | t :: ts, vs, ⟨cs, us, e, h, r⟩ => ⟨cs, us, e, WT.mono hn hg k t cs h, WTs.mono hn hg ts us r⟩
section
variable {P : Program} {B : Nat} {w0 w : World} {μ : Mu} {H : Heap} {T : Type} {enc : TypeId × Value → T}
theorem argV_rel {k b : Nat} {t : TypeId} {v : Value} {vs : List V} (h : VRels μ vs v.cells.toList) (hv : Value.okWide P w .any b t v) (hp : plainT P k t = true) : VRel μ (argV P t vs) v := by
  unfold argV
  cases k with
  | zero => simp [plainT] at hp
  | succ k =>
    unfold plainT at hp
    have key : ∀ x, v = x → x.cells = #[x] → VRel μ (vs.headD .dead) v := by
      intro x e1 e2
      subst e1
      rw [e2] at h
      cases vs with
      | nil => simp [VRel]
      | cons u us =>
        simp only [VRels] at h
        obtain ⟨y, ys, e, a, _⟩ := h
        simp at e
        rw [e.1]; exact a
    split at hp
    · rename_i hu; simp only [hu]
      obtain ⟨x, rfl⟩ := WideShapes.okWide_bool hu hv
      exact key _ rfl rfl
    · rename_i q hu; simp only [hu]
      obtain ⟨x, rfl⟩ := WideShapes.okWide_int hu hv
      exact key _ rfl rfl
    · rename_i hu; simp only [hu]
      obtain ⟨x, rfl⟩ := WideShapes.okWide_string hu hv
      exact key _ rfl rfl
    · rename_i e hu; simp only [hu]
      obtain ⟨a, l, c, rfl⟩ := WideShapes.okWide_slice hu hv
      exact key _ rfl rfl
    · rename_i fs hu
      simp only [hu]
      unfold Value.okWide at hv
      simp only [hu] at hv
      obtain ⟨cs, rfl, _⟩ := hv
      simp only [VRel]
      exact ⟨cs, rfl, by simpa [Value.cells] using h⟩
    · rename_i n e hu
      simp only [hu]
      unfold Value.okWide at hv
      simp only [hu] at hv
      obtain ⟨cs, rfl, _⟩ := hv
      simp only [VRel]
      exact ⟨cs, rfl, by simpa [Value.cells] using h⟩
    · cases hp
theorem got_all {k : Nat} : ∀ (ts : List TypeId) (vs : List Value) (ds : List (DataW T)) (ps : List MemPlace) (μ : Mu) (H : Heap),
    ts.all (fun t => plainT P k t) = true → DataW.TrodAll enc P w 0 (fun _ => true) true ts vs ds ps → (∀ (j : Nat) t v, ts[j]? = some t → vs[j]? = some v → ∃ b, Value.okWide P w .any b t v) →
    Rel B w0 μ H w → (∀ j M, μ j = some M → (H.get j).own = false) →
    ∃ μ' H' us, Grows μ H μ' H' ∧ Rel B w0 μ' H' w ∧ (∀ j M, μ' j = some M → (H'.get j).own = false) ∧ VRels μ' us vs ∧ WTs P k H' ts us
  | [], vs, ds, ps, μ, H, _, h, _, hr, ho => by
    cases vs with
    | nil => exact ⟨μ, H, [], Grows.refl, hr, ho, rfl, rfl⟩
    | cons v vs => simp [DataW.TrodAll] at h
  | t :: ts, vs, ds, ps, μ, H, hp, h, hv, hr, ho => by
    cases vs with
    | nil => simp [DataW.TrodAll] at h
    | cons v vs =>
      cases ds with
      | nil => simp [DataW.TrodAll] at h
      | cons d ds =>
        obtain ⟨p, q, ⟨fuel, h1⟩, h2, _⟩ := h
        simp only [List.all_cons, Bool.and_eq_true] at hp
        obtain ⟨μ1, H1, us, g1, r1, o1, v1, n1, l1, t1⟩ := got k t hp.1 fuel _ _ _ h1 μ H hr ho
        obtain ⟨μ2, H2, us2, g2, r2, o2, v2, t2⟩ := got_all ts vs ds q μ1 H1 hp.2 h2 (fun j t v a b => hv (j + 1) t v (by simpa using a) (by simpa using b)) r1 o1
        obtain ⟨b, hw⟩ := hv 0 t v (by simp) (by simp)
        refine ⟨μ2, H2, argV P t us :: us2, g1.trans g2, r2, o2, ?_, us, us2, rfl, WT.mono g2.n g2.get _ _ _ t1, t2⟩
        simp only [VRels]
        exact ⟨v, vs, rfl, VRel.mono g2.le _ _ (argV_rel v1 hw hp.1), v2⟩
theorem Rel.start (w : World) : Rel w.heap.size w ⟨fun _ => none, fun _ => none⟩ ⟨0, .nil⟩ w :=
  ⟨Below.refl _ _, Nat.le_refl _, fun i L h => (by cases h), fun i L h => (by cases h), fun i j L M h => (by cases h), fun i _ => by simp [Heap.get, T.get], fun b vs h => (by cases h), fun b vs h => (by cases h)⟩
theorem law_calls {C : Cfg} (ok : C.Ok) {f : FuncId} {k : Nat} {ts : List TypeId} {args : Array Value} {ds : List (DataW T)} {ps : List MemPlace} {W : World}
    (hp : ts.all (fun t => plainT C.P k t) = true) (hA : DataW.TrodAll enc C.P W 0 (fun _ => true) true ts args.toList ds ps)
    (hv : ∀ (j : Nat) t v, ts[j]? = some t → args.toList[j]? = some v → ∃ b, Value.okWide C.P W .any b t v)
    (hent : (callFunc f args).run C.P W = .ok (.enter f args) W)
    (hlaw : ∀ (H : Heap) (us : List V), WTs C.P k H ts us → ∃ n H', callA C n f us H = some (.bool true, H')) (hy : f < yB := by decide) :
    Calls C.P f args W (fun e W' => e = .returned (.bool true) ∧ Below W.heap.size W W') := by
  obtain ⟨μ, H, us, _, hr, _, hvs, hwt⟩ := got_all (P := C.P) (B := W.heap.size) (w0 := W) (w := W) ts args.toList ds ps _ _ hp hA hv (Rel.start W) (by intro j M h; cases h)
  obtain ⟨n, H', hc⟩ := hlaw H us hwt
  have := (callA_sound ok n f us H _ H' hc W.heap.size 0 W W μ args hr (Nat.zero_le _) hvs).1 hy
  rw [hent] at this
  simp only [Gives] at this
  refine this.mono fun e w' ⟨x, he, μ', s, hx⟩ => ?_
  simp only [VRel] at hx
  subst hx
  exact ⟨he, s.rel.below⟩
end
end Go.AM
end
section
set_option linter.unusedVariables false
set_option linter.unusedSimpArgs false
set_option linter.unusedSimpArgs false
set_option linter.unusedVariables false
namespace Go.AM
open Go.RowKit (Below)
def FT (P : Program) : Nat → TypeId → List V → Prop
  | 0, _, _ => False
  | fuel + 1, t, cs => match P.underlying t with
    | some .bool => ∃ b, cs = [.bool b]
    | some (.int k) => ∃ n, cs = [.int k n] ∧ (Lit.int k n).wf = true
    | some .string => ∃ s : List UInt8, cs = [.str s] ∧ s.length ≤ maxLen
    | some (.slice e) => ∃ len z xs, cs = [.list len z xs] ∧ len ≤ maxLen ∧ (len = 0 → z = 0 ∧ xs = []) ∧ (len ≠ 0 → z = P.cellsOf e) ∧ xs.length = len * P.cellsOf e ∧ ∀ j, j < len → FT P fuel e ((xs.drop (j * P.cellsOf e)).take (P.cellsOf e))
    | some (.struct fs) => cs.length = P.cellsOf t ∧ ∀ f ∈ fs.toList, FT P fuel f.type ((cs.drop f.offset).take (P.cellsOf f.type))
    | some (.array n e) => cs.length = P.cellsOf t ∧ ∀ i, i < n → FT P fuel e ((cs.drop (i * P.cellsOf e)).take (P.cellsOf e))
    | _ => False
def sdep (P : Program) : Nat → TypeId → Nat
  | 0, _ => 0
  | fuel + 1, t => match P.underlying t with
    | some (.slice e) => sdep P fuel e + 1
    | some (.struct fs) => (fs.toList.map fun f => sdep P fuel f.type).foldr max 1
    | some (.array _ e) => max 1 (sdep P fuel e)
    | _ => 1
theorem frzL_app {f : V → Option (V × List Nat)} : ∀ {a b a' b' : List V} {i j : List Nat}, frzL f a = some (a', i) → frzL f b = some (b', j) → frzL f (a ++ b) = some (a' ++ b', i ++ j)
  | [], b, a', b', i, j, h1, h2 => by simp only [frzL, Option.some.injEq, Prod.mk.injEq] at h1; obtain ⟨rfl, rfl⟩ := h1; exact h2
  | v :: a, b, a', b', i, j, h1, h2 => by
    simp only [frzL] at h1
    cases hv : f v with
    | none => rw [hv] at h1; cases h1
    | some p =>
      rw [hv] at h1
      cases ha : frzL f a with
      | none => rw [ha] at h1; cases h1
      | some q =>
        rw [ha] at h1
        simp only [Option.some.injEq, Prod.mk.injEq] at h1
        obtain ⟨rfl, rfl⟩ := h1
        have := frzL_app (a := a) (b := b) ha h2
        simp only [List.cons_append, frzL, hv, this, List.append_assoc]
theorem frzL_flat {f : V → Option (V × List Nat)} {A : Type} (part : A → List V) (R : A → List V → Prop) : ∀ (l : List A), (∀ a ∈ l, ∃ u i, frzL f (part a) = some (u, i) ∧ R a u) →
    ∃ (us : List (List V)) (ids : List Nat), frzL f (l.map part).flatten = some (us.flatten, ids) ∧ us.length = l.length ∧ ∀ (i : Nat) (a : A) (u : List V), l[i]? = some a → us[i]? = some u → R a u
  | [], _ => ⟨[], [], rfl, rfl, fun i a u h => by simp at h⟩
  | a :: l, h => by
    obtain ⟨u, i, h1, h2⟩ := h a (by simp)
    obtain ⟨us, ids, k1, k2, k3⟩ := frzL_flat part R l fun b hb => h b (by simp [hb])
    refine ⟨u :: us, i ++ ids, ?_, by simp [k2], ?_⟩
    · simp only [List.map_cons, List.flatten_cons]; exact frzL_app h1 k1
    · intro j b w hb hw
      cases j with
      | zero => simp at hb hw; subst hb hw; exact h2
      | succ j => simp at hb hw; exact k3 j b w hb hw
theorem foldr_le {l : List Nat} {d : Nat} (h : l.foldr max 1 ≤ d) : 1 ≤ d ∧ ∀ x ∈ l, x ≤ d := by
  induction l with
  | nil => exact ⟨by simpa using h, fun x hx => by simp at hx⟩
  | cons y l ih =>
    simp only [List.foldr_cons] at h
    obtain ⟨a, b⟩ := ih (by omega)
    refine ⟨a, fun x hx => ?_⟩
    rcases List.mem_cons.1 hx with rfl | hx
    · omega
    · exact b x hx
section
variable {P : Program}
theorem FT.len : ∀ {k : Nat} {t : TypeId} {cs : List V}, plainT P k t = true → FT P k t cs → cs.length = P.cellsOf t
  | 0, t, cs, hp, h => by simp [plainT] at hp
  | k + 1, t, cs, hp, h => by
    unfold plainT at hp
    unfold FT at h
    split at h
    · rename_i hu; simp only [hu, decide_eq_true_eq] at hp; obtain ⟨b, rfl⟩ := h; simp [hp]
    · rename_i hu; simp only [hu, decide_eq_true_eq] at hp; obtain ⟨b, rfl, -⟩ := h; simp [hp]
    · rename_i hu; simp only [hu, decide_eq_true_eq] at hp; obtain ⟨b, rfl, -⟩ := h; simp [hp]
    · rename_i hu; simp only [hu, Bool.and_eq_true, decide_eq_true_eq] at hp; obtain ⟨a, b, c, rfl, -⟩ := h; simp [hp.1.1]
    · exact h.1
    · exact h.1
    · exact h.elim
theorem chunks_len {α : Type} {m n : Nat} {cs : List α} (h : cs.length = n * m) : ((List.range n).map fun i => (cs.drop (i * m)).take m).flatten = cs := by
  induction n generalizing cs with
  | zero => simp at h; simp [h]
  | succ n ih =>
    rw [List.range_succ_eq_map, List.map_cons, List.flatten_cons, List.map_map]
    have e : ((fun i => (cs.drop (i * m)).take m) ∘ Nat.succ) = fun i => ((cs.drop m).drop (i * m)).take m := by
      funext i
      simp only [Function.comp, List.drop_drop]
      rw [show m + i * m = i.succ * m by rw [Nat.succ_mul]; omega]
    rw [e, ih (by rw [List.length_drop, h, Nat.succ_mul]; omega)]
    simp
theorem WT.frz {H : Heap} : ∀ {k : Nat} {t : TypeId} {cs : List V} {d : Nat}, plainT P k t = true → WT P k t cs H → sdep P k t ≤ d → ∃ us ids, frzL (frzV H d) cs = some (us, ids) ∧ FT P k t us
  | 0, t, cs, d, hp, h, hd => by simp [plainT] at hp
  | k + 1, t, cs, d, hp, h, hd => by
    unfold plainT at hp
    unfold WT at h
    unfold sdep at hd
    split at h
    · rename_i hu
      simp only [hu] at hd
      obtain ⟨b, rfl⟩ := h
      obtain ⟨d', rfl⟩ : ∃ d', d = d' + 1 := ⟨d - 1, by omega⟩
      exact ⟨_, [], frzL_fro1 rfl, by unfold FT; simp only [hu]; exact ⟨b, rfl⟩⟩
    · rename_i q hu
      simp only [hu] at hd
      obtain ⟨b, rfl, w⟩ := h
      obtain ⟨d', rfl⟩ : ∃ d', d = d' + 1 := ⟨d - 1, by omega⟩
      exact ⟨_, [], frzL_fro1 rfl, by unfold FT; simp only [hu]; exact ⟨b, rfl, w⟩⟩
    · rename_i hu
      simp only [hu] at hd
      obtain ⟨b, rfl, w⟩ := h
      obtain ⟨d', rfl⟩ : ∃ d', d = d' + 1 := ⟨d - 1, by omega⟩
      exact ⟨_, [], frzL_fro1 rfl, by unfold FT; simp only [hu]; exact ⟨b, rfl, w⟩⟩
    · rename_i e hu
      simp only [hu] at hd hp
      simp only [Bool.and_eq_true, decide_eq_true_eq] at hp
      obtain ⟨d', rfl⟩ : ∃ d', d = d' + 1 := ⟨d - 1, by omega⟩
      have hnil : ∀ (s : Sl), s.len = 0 → frzL (frzV H (d' + 1)) [.slice s] = some ([.list 0 0 []], []) := by
        intro s hs
        simp only [frzL, frzV, hs, if_true, List.append_nil]
      have hft : FT P (k + 1) t [.list 0 0 []] := by
        unfold FT; simp only [hu]
        exact ⟨0, 0, [], rfl, Nat.zero_le _, fun _ => ⟨rfl, rfl⟩, fun h => (h rfl).elim, by simp, fun j hj => by omega⟩
      rcases h with rfl | ⟨i, len, full, rfl, h1, h2, h3⟩
      · exact ⟨_, _, hnil _ rfl, hft⟩
      · by_cases h0 : len = 0
        · subst h0; exact ⟨_, _, hnil _ rfl, hft⟩
        · obtain ⟨el, xs, g, hl, hx⟩ := h3 h0
          have := frzL_flat (f := frzV H d') (fun i => (xs.drop (i * P.cellsOf e)).take (P.cellsOf e)) (fun _ u => FT P k e u) (List.range len) fun j hj => by
            obtain ⟨us, ids, a, b⟩ := WT.frz (d := d') hp.2 (hx j (List.mem_range.1 hj)) (by omega)
            exact ⟨us, ids, a, b⟩
          obtain ⟨us, ids, a1, a2, a3⟩ := this
          rw [chunks_len hl] at a1
          rw [List.length_range] at a2
          have hul : ∀ (i : Nat) (u : List V), us[i]? = some u → u.length = P.cellsOf e := by
            intro i u hi
            have hi2 : i < us.length := by
              rcases Nat.lt_or_ge i us.length with h | h
              · exact h
              · rw [List.getElem?_eq_none h] at hi; cases hi
            exact FT.len hp.2 (a3 i i u (by simp [List.getElem?_range (show i < len by omega)]) hi)
          refine ⟨[.list len (P.cellsOf e) us.flatten], i :: ids, ?_, ?_⟩
          · have ht : (xs.drop 0).take (len * P.cellsOf e) = xs := by rw [List.drop_zero, ← hl, List.take_length]
            have hf : frzV H (d' + 1) (.slice ⟨some (i, 0), len, P.cellsOf e, full⟩) = some (.list len (P.cellsOf e) us.flatten, i :: ids) := by
              unfold frzV
              simp only [if_neg h0, g, ht, a1, Nat.zero_add]
              rw [if_pos (by omega)]
            simp only [frzL, hf, List.append_nil]
          · unfold FT; simp only [hu]
            refine ⟨len, _, _, rfl, h2, fun h => (h0 h).elim, fun _ => rfl, by rw [flatten_len hul, a2], fun j hj => ?_⟩
            have hj2 : j < us.length := by omega
            have hg : us[j]? = some us[j] := by simp [hj2]
            rw [flatten_chunk hul hg]
            exact a3 j j us[j] (by simp [List.getElem?_range (show j < len by omega)]) hg
    · rename_i fs hu
      simp only [hu] at hd hp
      simp only [Bool.and_eq_true, List.all_eq_true] at hp
      obtain ⟨hd1, hd2⟩ := foldr_le hd
      obtain ⟨h1, h2⟩ := h
      have hw := (tiles_whole h1 hp.1).2
      rw [List.drop_zero] at hw
      have := frzL_flat (f := frzV H d) (fun f : Field => (cs.drop f.offset).take (P.cellsOf f.type)) (fun f u => FT P k f.type u) fs.toList fun f hf => by
        obtain ⟨us, ids, a, b⟩ := WT.frz (d := d) (hp.2 f hf) (h2 f hf) (hd2 _ (List.mem_map.2 ⟨f, hf, rfl⟩))
        exact ⟨us, ids, a, b⟩
      obtain ⟨us, ids, a1, a2, a3⟩ := this
      rw [hw] at a1
      have hs : ∀ (i : Nat) (f : Field) (u : List V), fs.toList[i]? = some f → us[i]? = some u → u.length = P.cellsOf f.type := fun i f u x y => FT.len (hp.2 f (List.mem_of_getElem? x)) (a3 i f u x y)
      obtain ⟨_, t2, t3⟩ := tiles_chunk hp.1 a2 hs
      refine ⟨us.flatten, ids, a1, ?_⟩
      unfold FT; simp only [hu]
      refine ⟨by rw [t2]; simp, fun f hf => ?_⟩
      obtain ⟨i, hi⟩ := List.getElem?_of_mem hf
      have hi2 : i < us.length := by
        rw [a2]
        rcases Nat.lt_or_ge i fs.toList.length with h | h
        · exact h
        · rw [List.getElem?_eq_none h] at hi; cases hi
      have hg : us[i]? = some us[i] := by simp [hi2]
      have := (t3 i f us[i] hi hg).2
      rw [Nat.sub_zero] at this
      rw [this]
      exact a3 i f us[i] hi hg
    · rename_i n e hu
      simp only [hu] at hd hp
      simp only [Bool.and_eq_true, decide_eq_true_eq] at hp
      obtain ⟨h1, h2⟩ := h
      have := frzL_flat (f := frzV H d) (fun i => (cs.drop (i * P.cellsOf e)).take (P.cellsOf e)) (fun _ u => FT P k e u) (List.range n) fun j hj => by
        obtain ⟨us, ids, a, b⟩ := WT.frz (d := d) hp.2 (h2 j (List.mem_range.1 hj)) (by omega)
        exact ⟨us, ids, a, b⟩
      obtain ⟨us, ids, a1, a2, a3⟩ := this
      rw [chunks_len (by rw [h1, hp.1])] at a1
      rw [List.length_range] at a2
      have hul : ∀ (i : Nat) (u : List V), us[i]? = some u → u.length = P.cellsOf e := by
        intro i u hi
        have hi2 : i < us.length := by
          rcases Nat.lt_or_ge i us.length with h | h
          · exact h
          · rw [List.getElem?_eq_none h] at hi; cases hi
        exact FT.len hp.2 (a3 i i u (by simp [List.getElem?_range (show i < n by omega)]) hi)
      refine ⟨us.flatten, ids, a1, ?_⟩
      unfold FT; simp only [hu]
      refine ⟨by rw [flatten_len hul, a2, hp.1], fun j hj => ?_⟩
      have hg : us[j]? = some us[j] := by simp [show j < us.length by omega]
      rw [flatten_chunk hul hg]
      exact a3 j j us[j] (by simp [List.getElem?_range (show j < n by omega)]) hg
    · exact h.elim
theorem frees_app {a b : List V} : V.frees (a ++ b) = (V.frees a && V.frees b) := by
  induction a with
  | nil => simp [V.frees]
  | cons x a ih => simp [V.frees, ih, Bool.and_assoc]
theorem chunks_all {α : Type} {p : List α → Prop} (hn : p []) (hadd : ∀ a b, p a → p b → p (a ++ b)) {n m : Nat} {cs : List α} (h : cs.length = n * m) (hc : ∀ j, j < n → p ((cs.drop (j * m)).take m)) : p cs := by
  have : ∀ l : List (List α), (∀ x ∈ l, p x) → p l.flatten := by
    intro l
    induction l with
    | nil => intro _; exact hn
    | cons x l ih => intro hx; simp only [List.flatten_cons]; exact hadd _ _ (hx x (by simp)) (ih fun y hy => hx y (by simp [hy]))
  rw [← chunks_len h]
  refine this _ fun x hx => ?_
  obtain ⟨j, hj, rfl⟩ := List.mem_map.1 hx
  exact hc j (List.mem_range.1 hj)
theorem FT.fro : ∀ {k : Nat} {t : TypeId} {cs : List V}, plainT P k t = true → FT P k t cs → cs.all V.fro1 = true ∧ V.frees cs = true
  | 0, t, cs, hp, h => by simp [plainT] at hp
  | k + 1, t, cs, hp, h => by
    have add : ∀ a b : List V, (a.all V.fro1 = true ∧ V.frees a = true) → (b.all V.fro1 = true ∧ V.frees b = true) → ((a ++ b).all V.fro1 = true ∧ V.frees (a ++ b) = true) := by
      intro a b ⟨a1, a2⟩ ⟨b1, b2⟩
      exact ⟨by rw [List.all_append, a1, b1]; rfl, by rw [frees_app, a2, b2]; rfl⟩
    unfold plainT at hp
    unfold FT at h
    split at h
    · obtain ⟨b, rfl⟩ := h; exact ⟨rfl, rfl⟩
    · obtain ⟨b, rfl, -⟩ := h; exact ⟨rfl, rfl⟩
    · obtain ⟨b, rfl, -⟩ := h; exact ⟨rfl, rfl⟩
    · rename_i e hu
      simp only [hu, Bool.and_eq_true, decide_eq_true_eq] at hp
      obtain ⟨len, z, xs, rfl, -, -, -, h4, h5⟩ := h
      have := chunks_all (p := fun xs : List V => xs.all V.fro1 = true ∧ V.frees xs = true) ⟨rfl, rfl⟩ add h4 fun j hj => FT.fro hp.2 (h5 j hj)
      exact ⟨rfl, by simp only [V.frees, V.free, this.2, Bool.and_true]⟩
    · rename_i fs hu
      simp only [hu, Bool.and_eq_true, List.all_eq_true] at hp
      obtain ⟨h1, h2⟩ := h
      have hw := (tiles_whole h1 hp.1).2
      rw [List.drop_zero] at hw
      rw [← hw]
      have : ∀ l : List Field, (∀ f ∈ l, f ∈ fs.toList) → ((l.map fun f => (cs.drop f.offset).take (P.cellsOf f.type)).flatten.all V.fro1 = true ∧ V.frees (l.map fun f => (cs.drop f.offset).take (P.cellsOf f.type)).flatten = true) := by
        intro l
        induction l with
        | nil => intro _; exact ⟨rfl, rfl⟩
        | cons x l ih =>
          intro hx
          simp only [List.map_cons, List.flatten_cons]
          exact add _ _ (FT.fro (hp.2 x (hx x (by simp))) (h2 x (hx x (by simp)))) (ih fun y hy => hx y (by simp [hy]))
      exact this fs.toList fun f hf => hf
    · rename_i n e hu
      simp only [hu, Bool.and_eq_true, decide_eq_true_eq] at hp
      obtain ⟨h1, h2⟩ := h
      exact chunks_all (p := fun xs : List V => xs.all V.fro1 = true ∧ V.frees xs = true) ⟨rfl, rfl⟩ add (n := n) (m := P.cellsOf e) (by rw [h1, hp.1]) fun j hj => FT.fro hp.2 (h2 j hj)
    · exact h.elim
end
theorem enter_run {P : Program} {f : FuncId} {xs : Array Value} {w : World} (h : hasBody P f = true) : (callFunc f xs).run P w = .ok (.enter f xs) w := by
  unfold hasBody at h
  split at h
  · rename_i fn hfn
    simp only [Bool.and_eq_true, Bool.not_eq_true'] at h
    obtain ⟨h1, h2⟩ := h
    obtain ⟨c, hc⟩ := Option.isSome_iff_exists.1 h1
    have hne : ¬ fn.name = "runtime.NumGoroutine" := by simpa using h2
    simp [callFunc, hfn, hc, hne]
  · cases h
def FTs (P : Program) (k : Nat) : List TypeId → List V → Prop
  | [], vs => vs = []
  | t :: ts, vs => ∃ cs us, vs = argV P t cs :: us ∧ FT P k t cs ∧ FTs P k ts us
theorem argV_frz {P : Program} {k : Nat} {t : TypeId} {cs us : List V} {H : Heap} {ids : List Nat} (hp : plainT P k t = true) (hc : cs.length = P.cellsOf t) (h : frzL (frzV H 5) cs = some (us, ids)) (h6 : frzL (frzV H 6) cs = some (us, ids)) :
    ∃ ids, frzV H 6 (argV P t cs) = some (argV P t us, ids) := by
  have one : P.cellsOf t = 1 → ∃ ids, frzV H 6 (cs.headD .dead) = some (us.headD .dead, ids) := by
    intro h1
    match cs, h1 ▸ hc with
    | [v], _ =>
      simp only [frzL] at h6
      cases hv : frzV H 6 v with
      | none => rw [hv] at h6; cases h6
      | some p =>
        rw [hv] at h6
        simp only [Option.some.injEq, Prod.mk.injEq] at h6
        obtain ⟨rfl, -⟩ := h6
        exact ⟨p.2, by simp [hv]⟩
  have agg : ∃ ids, frzV H 6 (.agg cs) = some (.agg us, ids) := ⟨ids, by unfold frzV; simp only [h]⟩
  unfold argV
  cases k with
  | zero => simp [plainT] at hp
  | succ k =>
    unfold plainT at hp
    split at hp
    · rename_i hu; simp only [hu]; exact one (by simpa using hp)
    · rename_i hu; simp only [hu]; exact one (by simpa using hp)
    · rename_i hu; simp only [hu]; exact one (by simpa using hp)
    · rename_i e hu; simp only [hu]; simp only [Bool.and_eq_true, decide_eq_true_eq] at hp; exact one hp.1.1
    · rename_i fs hu; simp only [hu]; exact agg
    · rename_i fs hu; simp only [hu]; exact agg
    · cases hp
theorem WT.len {P : Program} {H : Heap} {k : Nat} {t : TypeId} {cs : List V} (hp : plainT P k t = true) (h : WT P k t cs H) : cs.length = P.cellsOf t := by
  cases k with
  | zero => simp [plainT] at hp
  | succ k =>
    unfold plainT at hp
    unfold WT at h
    split at h
    · rename_i hu; simp only [hu, decide_eq_true_eq] at hp; obtain ⟨b, rfl⟩ := h; simp [hp]
    · rename_i hu; simp only [hu, decide_eq_true_eq] at hp; obtain ⟨b, rfl, -⟩ := h; simp [hp]
    · rename_i hu; simp only [hu, decide_eq_true_eq] at hp; obtain ⟨b, rfl, -⟩ := h; simp [hp]
    · rename_i hu; simp only [hu, Bool.and_eq_true, decide_eq_true_eq] at hp
      rcases h with rfl | ⟨i, len, full, rfl, -⟩ <;> simp [hp.1.1]
    · exact h.1
    · exact h.1
    · exact h.elim
theorem frzL_more {H : Heap} : ∀ (d : Nat), (∀ v r, frzV H d v = some r → frzV H (d + 1) v = some r) := by
  intro d
  induction d with
  | zero => intro v r h; simp [frzV] at h
  | succ d ih =>
    have hl : ∀ cs r, frzL (frzV H d) cs = some r → frzL (frzV H (d + 1)) cs = some r := by
      intro cs
      induction cs with
      | nil => intro r h; exact h
      | cons v cs ihc =>
        intro r h
        simp only [frzL] at h ⊢
        cases hv : frzV H d v with
        | none => rw [hv] at h; cases h
        | some p =>
          rw [hv] at h
          cases hc : frzL (frzV H d) cs with
          | none => rw [hc] at h; cases h
          | some q =>
            rw [hc] at h
            rw [ih _ _ hv, ihc _ hc]
            exact h
    intro v r h
    unfold frzV at h ⊢
    split at h
    · rename_i s
      split at h
      · rename_i h0; rw [if_pos h0]; exact h
      · rename_i h0
        rw [if_neg h0]
        split at h
        · cases h
        · rename_i i o had
          split at h
          · rename_i cs e r hg
            try simp only [had]
            try simp only [hg]
            split at h
            · rename_i hle
              rw [if_pos hle]
              split at h
              · rename_i p hp
                rw [hl _ _ hp]; exact h
              · cases h
            · cases h
          · cases h
    · split at h
      · rename_i p hp; rw [hl _ _ hp]; exact h
      · cases h
    · split at h
      · rename_i p hp; rw [hl _ _ hp]; exact h
      · cases h
    · exact h
theorem frzL_more1 {H : Heap} {d : Nat} : ∀ {cs : List V} {r : List V × List Nat}, frzL (frzV H d) cs = some r → frzL (frzV H (d + 1)) cs = some r
  | [], r, h => h
  | v :: cs, r, h => by
    simp only [frzL] at h ⊢
    cases hv : frzV H d v with
    | none => rw [hv] at h; cases h
    | some p =>
      rw [hv] at h
      cases hc : frzL (frzV H d) cs with
      | none => rw [hc] at h; cases h
      | some q =>
        rw [hc] at h
        rw [frzL_more d _ _ hv, frzL_more1 hc]
        exact h
theorem argV_fro {P : Program} {k : Nat} {t : TypeId} {cs : List V} (hp : plainT P k t = true) (h : cs.all V.fro1 = true ∧ V.frees cs = true) (hc : cs.length = P.cellsOf t) : (argV P t cs).fro = true ∧ (argV P t cs).free = true := by
  have one : P.cellsOf t = 1 → (cs.headD .dead).fro = true ∧ (cs.headD .dead).free = true := by
    intro h1
    match cs, h1 ▸ hc with
    | [v], _ =>
      obtain ⟨a, b⟩ := h
      simp only [List.all_cons, List.all_nil, Bool.and_true] at a
      simp only [V.frees, Bool.and_true] at b
      refine ⟨?_, by simpa using b⟩
      cases v <;> simp_all [V.fro, V.fro1]
  have agg : (V.agg cs).fro = true ∧ (V.agg cs).free = true := ⟨by simpa [V.fro] using h.1, by simpa [V.free] using h.2⟩
  unfold argV
  cases k with
  | zero => simp [plainT] at hp
  | succ k =>
    unfold plainT at hp
    split at hp
    · rename_i hu; simp only [hu]; exact one (by simpa using hp)
    · rename_i hu; simp only [hu]; exact one (by simpa using hp)
    · rename_i hu; simp only [hu]; exact one (by simpa using hp)
    · rename_i e hu; simp only [hu]; simp only [Bool.and_eq_true, decide_eq_true_eq] at hp; exact one hp.1.1
    · rename_i fs hu; simp only [hu]; exact agg
    · rename_i fs hu; simp only [hu]; exact agg
    · cases hp
theorem WTs.frz {P : Program} {k : Nat} {H : Heap} : ∀ {ts : List TypeId} {us : List V}, ts.all (fun t => plainT P k t && decide (sdep P k t ≤ 5)) = true → WTs P k H ts us →
    ∃ us' ids, frzL (frzV H 6) us = some (us', ids) ∧ FTs P k ts us' ∧ us'.all V.fro = true ∧ V.frees us' = true
  | [], us, _, h => by cases h; exact ⟨[], [], rfl, rfl, rfl, rfl⟩
  | t :: ts, us, hp, ⟨cs, us2, e, h, r⟩ => by
    subst e
    simp only [List.all_cons, Bool.and_eq_true, decide_eq_true_eq] at hp
    obtain ⟨v, ids, a, b⟩ := WT.frz (d := 5) hp.1.1 h hp.1.2
    obtain ⟨vs, ids2, c1, c2, c3, c4⟩ := WTs.frz (ts := ts) (by simpa using hp.2) r
    obtain ⟨ids3, e3⟩ := argV_frz hp.1.1 (WT.len hp.1.1 h) a (frzL_more1 a)
    have f1 := argV_fro hp.1.1 (FT.fro hp.1.1 b) (FT.len hp.1.1 b)
    refine ⟨argV P t v :: vs, ids3 ++ ids2, by simp only [frzL, e3, c1], ⟨_, _, rfl, b, c2⟩, by simp only [List.all_cons, f1.1, c3, Bool.and_self], by simp only [V.frees, f1.2, c4, Bool.and_self]⟩
theorem law_pure {f : Nat → List V → Heap → Option R} {kk : Nat → List V → Option R} (he : ∀ n a H, f (n + 1) a H = pureA a H (kk n)) {P : Program} {k : Nat} {ts : List TypeId} (hp : ts.all (fun t => plainT P k t && decide (sdep P k t ≤ 5)) = true)
    (hlaw : ∀ (H : Heap) (us : List V), FTs P k ts us → us.all V.fro = true → V.frees us = true → Tot (fun n => f n us H) fun v _ => v = .bool true) {H : Heap} {us : List V} (h : WTs P k H ts us) : ∃ n H', f n us H = some (.bool true, H') := by
  obtain ⟨us', ids, h1, h2, h3, h4⟩ := WTs.frz hp h
  obtain ⟨v, G, rfl, n0, hn⟩ := hlaw (killL ids H) us' h2 h3 h4
  refine ⟨n0 + 1, G, ?_⟩
  have := hn (n0 + 1) (by omega)
  simp only [he] at this ⊢
  unfold pureA at this ⊢
  rw [frzAs_fro h3] at this
  have e : frzAs us H = some (us', killL ids H) := by unfold frzAs; rw [h1]
  rw [e]
  exact this
end Go.AM
end
section
set_option linter.unusedVariables false
set_option linter.unusedSimpArgs false
set_option linter.unusedSimpArgs false
set_option linter.unusedVariables false
set_option maxRecDepth 100000
namespace Go.AM
abbrev Gv (f : Nat → Option R) (u : V) (H : Heap) : Prop := Tot f fun v H' => H' = H ∧ v = u
theorem Gv.bind {f : Nat → Option R} {u : V} {H : Heap} {k : Nat → R → Option R} {Q : V → Heap → Prop} (hf : Gv f u H) (hk : Tot (fun n => k n (u, H)) Q) : Tot (fun n => bnd (f n) (k n)) Q :=
  Tot.bind hf fun v H' ⟨h1, h2⟩ => by subst h1 h2; exact hk
namespace N
variable {H : Heap}
abbrev nilS : V := .slice ⟨none, 0, 0, false⟩
def oArena : O := .cells [nilS, .int .i64 (-1), .int .i64 0] ty_arena_Arena false
def oMesh (n : Int) (a b c d : Nat) : O := .cells [.int .i64 n, .ptr (some (a, 0)), .ptr (some (b, 0)), nilS, nilS, .map (some c), .map (some d)] ty_mesh_Mesh false
def oEng (n m : Int) (a b : Nat) (l s : Int) (p : V) : O := .cells [.int .i64 n, .int .i64 m, .map (some a), .map (some b), .int .i64 l, .int .i64 s, p] ty_pdt_Engine false
theorem eq_mesh {i o : Nat} : eqlA P ty_p_mesh_Mesh (.ptr (some (i, o))) (.ptr none) = some (.bool false) := by kernel_rfl
theorem eq_arena {i o : Nat} : eqlA P ty_p_arena_Arena (.ptr (some (i, o))) (.ptr none) = some (.bool false) := by kernel_rfl
theorem eq_eng {i o : Nat} : eqlA P ty_p_pdt_Engine (.ptr (some (i, o))) (.ptr none) = some (.bool false) := by kernel_rfl
theorem ne_eng {i o : Nat} : neqA P ty_p_pdt_Engine (.ptr (some (i, o))) (.ptr none) = some (.bool true) := by kernel_rfl
theorem eq_eng0 : eqlA P ty_p_pdt_Engine (.ptr none) (.ptr none) = some (.bool true) := by kernel_rfl
theorem ne_eng0 : neqA P ty_p_pdt_Engine (.ptr none) (.ptr none) = some (.bool false) := by kernel_rfl
theorem bT : asB (.bool true) = some true := rfl
theorem bF : asB (.bool false) = some false := rfl
theorem arena_New_P : Tot (fun n => f_arena_New n [] H) fun v H' => v = .ptr (some (H.n, 0)) ∧ H' = H.push oArena := by
  refine arena_New_tot ?_
  simp only [arena_New_b]
  refine Tot.pure (show flA _ _ _ = some (.agg [nilS, .int .i64 (-1), .int .i64 0]) from rfl) ?_
  refine Tot.pure (show boxA _ _ = some oArena from rfl) ?_
  exact Tot.ret ⟨rfl, rfl⟩
theorem mesh_New_P {n : Int} (h : 1 ≤ n ∧ n ≤ 17179869184) : Tot (fun k => f_mesh_New k [.int .i64 n] H) fun v H' => v = .ptr (some (H.n + 4, 0)) ∧ H' = ((((H.push oArena).push oArena).push (.map [] 0)).push (.map [] 0)).push (oMesh n H.n (H.n + 1) (H.n + 2) (H.n + 3)) := by
  refine mesh_New_tot ?_
  simp only [mesh_New_b]
  have e1 : arA .lss (.int .i64 n) (.int .i64 1) = some (.bool false) := by simp (disch := omega) []; omega
  have e2 : arA .gtr (.int .i64 n) (.int .i64 17179869184) = some (.bool false) := by simp (disch := omega) []; omega
  refine Tot.pure e1 ?_
  refine Tot.pure bF ?_
  simp only [Bool.false_eq_true, if_false]
  refine Tot.pure e2 ?_
  refine Tot.pure bF ?_
  simp only [Bool.false_eq_true, if_false]
  refine Tot.bind arena_New_P ?_
  rintro v H1 ⟨rfl, rfl⟩
  refine Tot.bind arena_New_P ?_
  rintro v H1 ⟨rfl, rfl⟩
  dsimp only
  refine Tot.pure (show flA _ _ _ = some (.agg [.int .i64 n, .ptr (some (H.n, 0)), .ptr (some (H.n + 1, 0)), nilS, nilS, .map (some (H.n + 2)), .map (some (H.n + 3))]) from rfl) ?_
  refine Tot.pure (show boxA _ _ = some (oMesh n H.n (H.n + 1) (H.n + 2) (H.n + 3)) from rfl) ?_
  exact Tot.ret ⟨rfl, rfl⟩
theorem bucket_New_P {n : Int} (h : 1 ≤ n ∧ n ≤ 17179869184) : Tot (fun k => f_bucket_New k [.int .i64 n, .int .i64 16] H) fun v H' => v = .ptr (some (H.n + 1, 0)) ∧ ∃ o p, H' = (H.push o).push p := by
  refine bucket_New_tot ?_
  simp only [bucket_New_b]
  have e1 : arA .lss (.int .i64 n) (.int .i64 1) = some (.bool false) := by simp (disch := omega) []; omega
  have e2 : arA .gtr (.int .i64 n) (.int .i64 17179869184) = some (.bool false) := by simp (disch := omega) []; omega
  refine Tot.pure e1 ?_
  refine Tot.pure bF ?_
  simp only [Bool.false_eq_true, if_false]
  refine Tot.pure e2 ?_
  refine Tot.pure bF ?_
  simp only [Bool.false_eq_true, if_false]
  refine Tot.pure (show arA .lss (.int .i64 16) (.int .i64 1) = some (.bool false) from rfl) ?_
  refine Tot.pure bF ?_
  simp only [Bool.false_eq_true, if_false]
  refine Tot.pure (show arA .gtr (.int .i64 16) (.int .i64 64) = some (.bool false) from rfl) ?_
  refine Tot.pure bF ?_
  simp only [Bool.false_eq_true, if_false]
  refine Tot.pure (show arA .mul (.int .i64 16) (.int .i64 16) = some (.int .i64 256) from rfl) ?_
  obtain ⟨o, ho⟩ : ∃ o, mkSl 1 24 ty_sl_int [nilS] (.int .i64 256) (.int .i64 256) = some (o, 256) := ⟨_, rfl⟩
  refine Tot.pure ho ?_
  dsimp only
  refine Tot.pure (show flA _ _ _ = some (.agg [.int .i64 n, .int .i64 16, .slice ⟨some (H.n, 0), 256, 1, false⟩, .int .i64 0]) from rfl) ?_
  refine Tot.pure (show boxA _ _ = some (.cells [.int .i64 n, .int .i64 16, .slice ⟨some (H.n, 0), 256, 1, false⟩, .int .i64 0] ty_bucket_Grid false) from rfl) ?_
  exact Tot.ret ⟨rfl, _, _, rfl⟩
theorem side_P {i : Nat} {n : Int} {a b c d : Nat} (h : H.get i = oMesh n a b c d) : Tot (fun k => f_mesh_Mesh_Side k [.ptr (some (i, 0))] H) fun v H' => v = .int .i64 n ∧ H' = H := by
  refine mesh_Mesh_Side_tot ?_
  simp only [mesh_Mesh_Side_b]
  refine Tot.pure eq_mesh ?_
  refine Tot.pure bF ?_
  simp only [Bool.false_eq_true, if_false]
  refine Tot.pure (show nilC (.ptr (some (i, 0))) = some (.ptr (some (i, 0))) from rfl) ?_
  refine Tot.pure (show faA 0 (.ptr (some (i, 0))) = some (.ptr (some (i, 0))) from rfl) ?_
  refine Tot.pure (show ld1 (.ptr (some (i, 0))) H = some (.int .i64 n) by simp [ld1, h, oMesh]) ?_
  exact Tot.ret ⟨rfl, rfl⟩
theorem nil_frz : frzR nilS H = some (.list 0 0 [], H) := rfl
theorem all_P {i : Nat} (h : H.get i = oArena) : Tot (fun k => f_arena_Arena_All k [.ptr (some (i, 0))] H) fun v H' => v = .list 0 0 [] ∧ H' = H := by
  refine arena_Arena_All_tot ?_
  simp only [arena_Arena_All_b]
  refine Tot.pure eq_arena ?_
  refine Tot.pure bF ?_
  simp only [Bool.false_eq_true, if_false]
  refine Tot.pure (show nilC (.ptr (some (i, 0))) = some (.ptr (some (i, 0))) from rfl) ?_
  refine Tot.pure (show faA 0 (.ptr (some (i, 0))) = some (.ptr (some (i, 0))) from rfl) ?_
  refine Tot.pure (show ld1 (.ptr (some (i, 0))) H = some nilS by simp [ld1, h, oArena]) ?_
  refine Tot.pure (show lenSl nilS = some (.int .i64 0) from rfl) ?_
  refine arena_Arena_All.l0_tot Big.id fun m' _ => ?_
  simp only [arena_Arena_All.l0_b]
  refine Tot.pure (show arA .lss (.int .i64 0) (.int .i64 0) = some (.bool false) from rfl) ?_
  refine Tot.pure bF ?_
  simp only [Bool.false_eq_true, if_false]
  exact Tot.frz nil_frz ⟨rfl, rfl⟩
theorem dump_P {i : Nat} {n : Int} {a b c d : Nat} (h : H.get i = oMesh n a b c d) (ha : H.get a = oArena) (hb : H.get b = oArena) (hi : i < H.n) (hA : a < H.n) (hB : b < H.n) :
    Tot (fun k => f_mesh_Mesh_Dump k [.ptr (some (i, 0))] H) fun v H' => v = .agg [.int .i64 n, .list 0 0 [], .list 0 0 []] ∧ Ext0 H H' := by
  refine mesh_Mesh_Dump_tot ?_
  simp only [mesh_Mesh_Dump_b]
  refine Tot.pure eq_mesh ?_
  refine Tot.pure bF ?_
  simp only [Bool.false_eq_true, if_false]
  refine Tot.pure (show nilC (.ptr (some (i, 0))) = some (.ptr (some (i, 0))) from rfl) ?_
  refine Tot.pure (show faA 0 (.ptr (some (i, 0))) = some (.ptr (some (i, 0))) from rfl) ?_
  obtain ⟨G, hG⟩ : ∃ G, G = H.push (.cells [.int .i64 0, nilS, nilS] ty_api_Dump false) := ⟨_, rfl⟩
  rw [← hG]
  have Gi : G.get i = oMesh n a b c d := by rw [hG, Heap.gqz (by omega)]; exact h
  have Gn : G.n = H.n + 1 := by rw [hG]; rfl
  refine Tot.pure (show ld1 (.ptr (some (i, 0))) G = some (.int .i64 n) by simp [ld1, Gi, oMesh]) ?_
  refine Tot.pure (show flA _ _ _ = some (.agg [.int .i64 n, nilS, nilS]) from rfl) ?_
  have st : stA 3 (.ptr (some (G.n, 0))) (.agg [.int .i64 n, nilS, nilS]) (G.push (.cells [.int .i64 0, nilS, nilS] ty_api_Dump false)) = some ((G.push (.cells [.int .i64 0, nilS, nilS] ty_api_Dump false)).set G.n (.cells [.int .i64 n, nilS, nilS] ty_api_Dump false)) := by
    simp [stA, Heap.gpz, V.cells, V.one, lset]
  refine Tot.pure st ?_
  obtain ⟨F, hF⟩ : ∃ F, F = (G.push (.cells [.int .i64 0, nilS, nilS] ty_api_Dump false)).set G.n (.cells [.int .i64 n, nilS, nilS] ty_api_Dump false) := ⟨_, rfl⟩
  rw [← hF]
  have kF : Ext0 H F := by rw [hF, hG]; exact Keep.ext (Keep.auto)
  have Fi : F.get i = oMesh n a b c d := by rw [kF.g hi]; exact h
  have Fa : F.get a = oArena := by rw [kF.g hA]; exact ha
  have Fb : F.get b = oArena := by rw [kF.g hB]; exact hb
  have F0 : F.get H.n = .cells [.int .i64 0, nilS, nilS] ty_api_Dump false := by rw [hF, Heap.gtz (by omega), Heap.gqz (by omega), hG, Heap.gpz rfl]
  have F1 : F.get G.n = .cells [.int .i64 n, nilS, nilS] ty_api_Dump false := by rw [hF, Heap.gsz rfl]
  have Fn : F.n = H.n + 2 := by rw [hF]; simp [Gn]
  clear hF hG st
  refine Tot.pure (show nilC (.ptr (some (i, 0))) = some (.ptr (some (i, 0))) from rfl) ?_
  refine Tot.pure (show faA 1 (.ptr (some (i, 0))) = some (.ptr (some (i, 1))) from rfl) ?_
  refine Tot.pure (show ld1 (.ptr (some (i, 1))) F = some (.ptr (some (a, 0))) by simp [ld1, Fi, oMesh]) ?_
  refine Tot.bind (all_P Fa) ?_
  rintro v H1 ⟨rfl, hH⟩
  rw [hH]
  clear hH
  dsimp only
  refine Tot.pure (show lenSl (.list 0 0 []) = some (.int .i64 0) from rfl) ?_
  refine mesh_Mesh_Dump.l0_tot Big.id fun m' _ => ?_
  simp only [mesh_Mesh_Dump.l0_b]
  refine Tot.pure (show arA .lss (.int .i64 0) (.int .i64 0) = some (.bool false) from rfl) ?_
  refine Tot.pure bF ?_
  simp only [Bool.false_eq_true, if_false]
  refine mesh_Mesh_Dump.p1_tot ?_
  simp only [mesh_Mesh_Dump.p1_b]
  refine Tot.pure (show nilC (.ptr (some (i, 0))) = some (.ptr (some (i, 0))) from rfl) ?_
  refine Tot.pure (show faA 2 (.ptr (some (i, 0))) = some (.ptr (some (i, 2))) from rfl) ?_
  refine Tot.pure (show ld1 (.ptr (some (i, 2))) F = some (.ptr (some (b, 0))) by simp [ld1, Fi, oMesh]) ?_
  refine Tot.bind (all_P Fb) ?_
  rintro v H1 ⟨rfl, hH⟩
  rw [hH]
  clear hH
  dsimp only
  refine Tot.pure (show lenSl (.list 0 0 []) = some (.int .i64 0) from rfl) ?_
  refine mesh_Mesh_Dump.l2_tot Big.id fun m' _ => ?_
  simp only [mesh_Mesh_Dump.l2_b]
  refine Tot.pure (show arA .lss (.int .i64 0) (.int .i64 0) = some (.bool false) from rfl) ?_
  refine Tot.pure bF ?_
  simp only [Bool.false_eq_true, if_false]
  refine Tot.pure (show ldN 3 (.ptr (some (G.n, 0))) F = some (.agg [.int .i64 n, nilS, nilS]) by simp [ldN, F1]) ?_
  have st2 : stA 3 (.ptr (some (H.n, 0))) (.agg [.int .i64 n, nilS, nilS]) F = some (F.set H.n (.cells [.int .i64 n, nilS, nilS] ty_api_Dump false)) := by
    simp [stA, F0, V.cells, V.one, lset]
  refine Tot.pure st2 ?_
  refine Tot.pure (show ldN 3 (.ptr (some (H.n, 0))) (F.set H.n (.cells [.int .i64 n, nilS, nilS] ty_api_Dump false)) = some (.agg [.int .i64 n, nilS, nilS]) by simp [ldN, Heap.gsz]) ?_
  refine Tot.frz (v' := .agg [.int .i64 n, .list 0 0 [], .list 0 0 []]) rfl ⟨rfl, ?_⟩
  exact kF.trans (Ch.set (X := fun i => i = H.n) rfl) fun i hi hx => by omega
end N
end Go.AM
end
section
set_option linter.unusedVariables false
set_option linter.unusedSimpArgs false
set_option linter.unusedSimpArgs false
set_option linter.unusedVariables false
set_option maxRecDepth 100000
namespace Go.AM
namespace N
variable {H : Heap}
theorem lay_P {i : Nat} {n : Int} {a b c d : Nat} (hn : 1 ≤ n ∧ n ≤ 17179869184) (h : H.get i = oMesh n a b c d) (ha : H.get a = oArena) (hb : H.get b = oArena) (hi : i < H.n) (hA : a < H.n) (hB : b < H.n) :
    Tot (fun k => f_pdt_lay k [.ptr (some (i, 0)), .int .i64 n] H) fun v H' => (∃ j, v = .ptr (some (j, 0))) ∧ Ext0 H H' := by
  refine pdt_lay_tot ?_
  simp only [pdt_lay_b]
  refine Tot.bind (side_P h) ?_
  rintro v H1 ⟨rfl, hH⟩
  rw [hH]
  clear hH
  dsimp only
  refine Tot.bind (bucket_New_P hn) ?_
  rintro v H1 ⟨rfl, o, p, hH⟩
  rw [hH]
  clear hH
  dsimp only
  refine Tot.pure (show flA _ _ _ = some (.agg [.ptr (some (i, 0)), .ptr (some (H.n + 1, 0)), .int .i64 n, .map (some (H.n + 2)), .map (some (H.n + 3))]) from rfl) ?_
  refine Tot.pure (show boxA _ _ = some (.cells [.ptr (some (i, 0)), .ptr (some (H.n + 1, 0)), .int .i64 n, .map (some (H.n + 2)), .map (some (H.n + 3))] ty_pdt_sheet false) from rfl) ?_
  obtain ⟨G, hG⟩ : ∃ G, G = ((((H.push o).push p).push (.map [] 0)).push (.map [] 0)).push (.cells [.ptr (some (i, 0)), .ptr (some (H.n + 1, 0)), .int .i64 n, .map (some (H.n + 2)), .map (some (H.n + 3))] ty_pdt_sheet false) := ⟨_, rfl⟩
  have kG : Ext0 H G := by rw [hG]; exact Keep.ext (Keep.auto)
  have Gn : G.n = H.n + 5 := by rw [hG]; rfl
  rw [← hG]
  clear hG
  refine Tot.bind (dump_P (by rw [kG.g hi]; exact h) (by rw [kG.g hA]; exact ha) (by rw [kG.g hB]; exact hb) (by omega) (by omega) (by omega)) ?_
  rintro v F ⟨rfl, kF⟩
  have kF' : Ext0 H F := kG.t kF
  dsimp only
  obtain ⟨s, hs⟩ : ∃ s, stA 3 (.ptr (some (F.n, 0))) (.agg [.int .i64 n, .list 0 0 [], .list 0 0 []]) (F.push (.cells [.int .i64 0, nilS, nilS] ty_api_Dump false)) = some s ∧ s.get F.n = .cells [.int .i64 n, .list 0 0 [], .list 0 0 []] ty_api_Dump false ∧ Ext0 F s := by
    refine ⟨(F.push (.cells [.int .i64 0, nilS, nilS] ty_api_Dump false)).set F.n (.cells [.int .i64 n, .list 0 0 [], .list 0 0 []] ty_api_Dump false), by simp [stA, Heap.gpz, V.cells, V.one, lset], Heap.gsz rfl, Keep.ext (Keep.auto)⟩
  obtain ⟨hs1, hs2, hs3⟩ := hs
  refine Tot.pure hs1 ?_
  refine Tot.pure (show faA 1 (.ptr (some (F.n, 0))) = some (.ptr (some (F.n, 1))) from rfl) ?_
  refine Tot.pure (show ld1 (.ptr (some (F.n, 1))) s = some (.list 0 0 []) by simp [ld1, hs2]) ?_
  refine Tot.pure (show lenSl (.list 0 0 []) = some (.int .i64 0) from rfl) ?_
  refine pdt_lay.l0_tot Big.id fun m' _ => ?_
  simp only [pdt_lay.l0_b]
  refine Tot.pure (show arA .lss (.int .i64 0) (.int .i64 0) = some (.bool false) from rfl) ?_
  refine Tot.pure bF ?_
  simp only [Bool.false_eq_true, if_false]
  refine pdt_lay.p1_tot ?_
  simp only [pdt_lay.p1_b]
  refine Tot.pure (show faA 2 (.ptr (some (F.n, 0))) = some (.ptr (some (F.n, 2))) from rfl) ?_
  refine Tot.pure (show ld1 (.ptr (some (F.n, 2))) s = some (.list 0 0 []) by simp [ld1, hs2]) ?_
  refine Tot.pure (show lenSl (.list 0 0 []) = some (.int .i64 0) from rfl) ?_
  refine pdt_lay.l2_tot Big.id fun m' _ => ?_
  simp only [pdt_lay.l2_b]
  refine Tot.pure (show arA .lss (.int .i64 0) (.int .i64 0) = some (.bool false) from rfl) ?_
  refine Tot.pure bF ?_
  simp only [Bool.false_eq_true, if_false]
  exact Tot.ret ⟨⟨_, rfl⟩, kF'.t hs3⟩
theorem clear_P {i : Nat} {n m l s : Int} {a b : Nat} {p : V} (hn : 1 ≤ n ∧ n ≤ 17179869184) (h : H.get i = oEng n m a b l s p) (ha : H.get a = .map [] 0) (hb : H.get b = .map [] 0) (hi : i < H.n) (hA : a < H.n) (hB : b < H.n) (n1 : a ≠ i) (n2 : b ≠ i) :
    Tot (fun k => f_pdt_Engine_clear k [.ptr (some (i, 0))] H) fun v H' => ∃ j, H'.get i = oEng n m a b 0 0 (.ptr (some (j, 0))) ∧ H'.get a = .map [] 0 ∧ H.n ≤ H'.n := by
  refine pdt_Engine_clear_tot ?_
  simp only [pdt_Engine_clear_b]
  simp only [show ∀ H : Heap, H.more 0 = H from fun _ => rfl]
  refine Tot.pure (show nilC (.ptr (some (i, 0))) = some (.ptr (some (i, 0))) from rfl) ?_
  refine Tot.pure (show faA 2 (.ptr (some (i, 0))) = some (.ptr (some (i, 2))) from rfl) ?_
  refine Tot.pure (show ld1 (.ptr (some (i, 2))) H = some (.map (some a)) by simp [ld1, h, oEng]) ?_
  refine Tot.pure (show clrM (.map (some a)) H = some (H.set a (.map [] 0)) by simp [clrM, mapOf, ha]) ?_
  refine Tot.pure (show nilC (.ptr (some (i, 0))) = some (.ptr (some (i, 0))) from rfl) ?_
  refine Tot.pure (show faA 3 (.ptr (some (i, 0))) = some (.ptr (some (i, 3))) from rfl) ?_
  have h1 : (H.set a (.map [] 0)).get i = oEng n m a b l s p := by rw [Heap.gtz (Ne.symm n1)]; exact h
  refine Tot.pure (show ld1 (.ptr (some (i, 3))) (H.set a (.map [] 0)) = some (.map (some b)) by simp [ld1, h1, oEng]) ?_
  have hb1 : (H.set a (.map [] 0)).get b = .map [] 0 := by rw [Heap.get_set]; split <;> simp [hb]
  refine Tot.pure (show clrM (.map (some b)) (H.set a (.map [] 0)) = some ((H.set a (.map [] 0)).set b (.map [] 0)) by simp [clrM, mapOf, hb1]) ?_
  obtain ⟨G, hG⟩ : ∃ G, G = (H.set a (.map [] 0)).set b (.map [] 0) := ⟨_, rfl⟩
  rw [← hG]
  have Gi : G.get i = oEng n m a b l s p := by rw [hG, Heap.gtz (Ne.symm n2)]; exact h1
  have Ga : G.get a = .map [] 0 := by rw [hG, Heap.get_set]; split; rfl; exact Heap.gsz rfl
  have Gn : G.n = H.n := by rw [hG]; simp
  clear hG h1 hb1
  refine Tot.pure (show nilC (.ptr (some (i, 0))) = some (.ptr (some (i, 0))) from rfl) ?_
  refine Tot.pure (show faA 4 (.ptr (some (i, 0))) = some (.ptr (some (i, 4))) from rfl) ?_
  have s1 : stA 1 (.ptr (some (i, 4))) (.int .i64 0) G = some (G.set i (oEng n m a b 0 s p)) := by simp [stA, Gi, oEng, V.cells, V.one, lset]
  refine Tot.pure s1 ?_
  obtain ⟨F, hF⟩ : ∃ F, F = G.set i (oEng n m a b 0 s p) := ⟨_, rfl⟩
  rw [← hF]
  have Fi : F.get i = oEng n m a b 0 s p := by rw [hF, Heap.gsz rfl]
  have Fa : F.get a = .map [] 0 := by rw [hF, Heap.gtz n1]; exact Ga
  have Fn : F.n = H.n := by rw [hF]; simp [Gn]
  clear hF s1 Gi Ga
  refine Tot.pure (show nilC (.ptr (some (i, 0))) = some (.ptr (some (i, 0))) from rfl) ?_
  refine Tot.pure (show faA 0 (.ptr (some (i, 0))) = some (.ptr (some (i, 0))) from rfl) ?_
  have l0 : ld1 (.ptr (some (i, 0))) F = some (.int .i64 n) := by simp [ld1, Fi, oEng]
  refine Tot.pure l0 ?_
  refine Tot.bind (mesh_New_P hn) ?_
  rintro v K ⟨rfl, hK⟩
  have kK : Ext0 F K := by rw [hK]; exact Keep.ext (Keep.auto)
  have Kn : K.n = F.n + 5 := by rw [hK]; rfl
  have Km : K.get (F.n + 4) = oMesh n F.n (F.n + 1) (F.n + 2) (F.n + 3) := by rw [hK]; exact Heap.gpz (by rfl)
  have K0 : K.get F.n = oArena := by rw [hK]; simp (disch := first | omega | (simp only [npz, nsz, nmz] <;> omega) | (simp <;> omega) | fail) [lhz, lgz, sgz, faA_mk, boxA_agg, Heap.gqz, Heap.gpz, Heap.gtz, Heap.gsz, gmz, npz, nsz, nmz, chk_agg, ]
  have K1 : K.get (F.n + 1) = oArena := by rw [hK]; simp (disch := first | omega | (simp only [npz, nsz, nmz] <;> omega) | (simp <;> omega) | fail) [lhz, lgz, sgz, faA_mk, boxA_agg, Heap.gqz, Heap.gpz, Heap.gtz, Heap.gsz, gmz, npz, nsz, nmz, chk_agg, ]
  clear hK
  have Ki : K.get i = oEng n m a b 0 s p := by rw [kK.g (by omega)]; exact Fi
  have Ka : K.get a = .map [] 0 := by rw [kK.g (by omega)]; exact Fa
  dsimp only
  refine Tot.pure (show nilC (.ptr (some (i, 0))) = some (.ptr (some (i, 0))) from rfl) ?_
  refine Tot.pure (show faA 0 (.ptr (some (i, 0))) = some (.ptr (some (i, 0))) from rfl) ?_
  refine Tot.pure (show ld1 (.ptr (some (i, 0))) K = some (.int .i64 n) by simp [ld1, Ki, oEng]) ?_
  refine Tot.chk (by rw [l0]; simp [chk, V.beq]) ?_
  refine Tot.bind (lay_P hn Km K0 K1 (by omega) (by omega) (by omega)) ?_
  rintro v M ⟨⟨j, rfl⟩, kM⟩
  have Mi : M.get i = oEng n m a b 0 s p := by rw [kM.g (by omega)]; exact Ki
  have Ma : M.get a = .map [] 0 := by rw [kM.g (by omega)]; exact Ka
  have Mn := kM.n
  dsimp only
  refine Tot.pure (show nilC (.ptr (some (i, 0))) = some (.ptr (some (i, 0))) from rfl) ?_
  refine Tot.pure (show faA 5 (.ptr (some (i, 0))) = some (.ptr (some (i, 5))) from rfl) ?_
  refine Tot.pure (show stA 1 (.ptr (some (i, 5))) (.int .i64 0) M = some (M.set i (oEng n m a b 0 0 p)) by simp [stA, Mi, oEng, V.cells, V.one, lset]) ?_
  refine Tot.pure (show nilC (.ptr (some (i, 0))) = some (.ptr (some (i, 0))) from rfl) ?_
  refine Tot.pure (show faA 6 (.ptr (some (i, 0))) = some (.ptr (some (i, 6))) from rfl) ?_
  have s3 : ∀ G : Heap, G.get i = oEng n m a b 0 0 p → stA 1 (.ptr (some (i, 6))) (.ptr (some (j, 0))) G = some (G.set i (oEng n m a b 0 0 (.ptr (some (j, 0))))) := by
    intro G hg
    simp [stA, hg, oEng, V.cells, V.one, lset]
  refine Tot.pure (s3 _ (Heap.gsz rfl)) ?_
  exact Tot.ret ⟨j, Heap.gsz rfl, by rw [Heap.gtz n1, Heap.gtz n1]; exact Ma, by simp; omega⟩
end N
end Go.AM
end
section
set_option linter.unusedVariables false
set_option linter.unusedSimpArgs false
set_option linter.unusedSimpArgs false
set_option linter.unusedVariables false
set_option maxRecDepth 100000
namespace Go.AM
namespace N
variable {H : Heap}
theorem open_good {n m : Int} (h : (1 ≤ n ∧ n ≤ 1073741824) ∧ 1 ≤ m ∧ m ≤ 16777216) :
    Tot (fun k => f_pdt_Open k [.int .i64 n, .int .i64 m] H) fun v H' => v = .tuple [.ptr (some (H.n + 2, 0)), .int .i64 0] ∧ ∃ j, H'.get (H.n + 2) = oEng n m H.n (H.n + 1) 0 0 (.ptr (some (j, 0))) ∧ H'.get H.n = .map [] 0 ∧ H.n + 3 ≤ H'.n := by
  refine pdt_Open_tot ?_
  simp only [pdt_Open_b]
  have e1 : arA .lss (.int .i64 n) (.int .i64 1) = some (.bool false) := by simp (disch := omega) []; omega
  have e2 : arA .gtr (.int .i64 n) (.int .i64 1073741824) = some (.bool false) := by simp (disch := omega) []; omega
  have e3 : arA .lss (.int .i64 m) (.int .i64 1) = some (.bool false) := by simp (disch := omega) []; omega
  have e4 : arA .gtr (.int .i64 m) (.int .i64 16777216) = some (.bool false) := by simp (disch := omega) []; omega
  refine Tot.pure e1 ?_
  refine Tot.pure bF ?_
  simp only [Bool.false_eq_true, if_false]
  refine Tot.pure e2 ?_
  refine Tot.pure bF ?_
  simp only [Bool.false_eq_true, if_false]
  refine Tot.pure e3 ?_
  refine Tot.pure bF ?_
  simp only [Bool.false_eq_true, if_false]
  refine Tot.pure e4 ?_
  refine Tot.pure bF ?_
  simp only [Bool.false_eq_true, if_false]
  refine Tot.pure (show flA _ _ _ = some (.agg [.int .i64 n, .int .i64 m, .map (some H.n), .map (some (H.n + 1)), .int .i64 0, .int .i64 0, .ptr none]) from rfl) ?_
  refine Tot.pure (show boxA _ _ = some (oEng n m H.n (H.n + 1) 0 0 (.ptr none)) from rfl) ?_
  obtain ⟨G, hG⟩ : ∃ G, G = ((H.push (.map [] 0)).push (.map [] 0)).push (oEng n m H.n (H.n + 1) 0 0 (.ptr none)) := ⟨_, rfl⟩
  rw [← hG]
  have G0 : G.get H.n = .map [] 0 := by rw [hG]; simp (disch := first | omega | (simp only [npz, nsz, nmz] <;> omega) | (simp <;> omega) | fail) [lhz, lgz, sgz, faA_mk, boxA_agg, Heap.gqz, Heap.gpz, Heap.gtz, Heap.gsz, gmz, npz, nsz, nmz, chk_agg, ]
  have G1 : G.get (H.n + 1) = .map [] 0 := by rw [hG]; simp (disch := first | omega | (simp only [npz, nsz, nmz] <;> omega) | (simp <;> omega) | fail) [lhz, lgz, sgz, faA_mk, boxA_agg, Heap.gqz, Heap.gpz, Heap.gtz, Heap.gsz, gmz, npz, nsz, nmz, chk_agg, ]
  have G2 : G.get (H.n + 2) = oEng n m H.n (H.n + 1) 0 0 (.ptr none) := by rw [hG]; exact Heap.gpz (by rfl)
  have Gn : G.n = H.n + 3 := by rw [hG]; rfl
  clear hG
  refine Tot.bind (clear_P (i := H.n + 2) (by omega) G2 G0 G1 (by omega) (by omega) (by omega) (by omega) (by omega)) ?_
  rintro v K ⟨j, k1, k2, k3⟩
  exact Tot.ret ⟨rfl, j, k1, k2, show _ ≤ K.n by omega⟩
theorem open_bad {n m : Int} (h : ¬ ((1 ≤ n ∧ n ≤ 1073741824) ∧ 1 ≤ m ∧ m ≤ 16777216)) :
    Tot (fun k => f_pdt_Open k [.int .i64 n, .int .i64 m] H) fun v H' => v = .tuple [.ptr none, .int .i64 10] ∧ H' = H := by
  refine pdt_Open_tot ?_
  simp only [pdt_Open_b]
  have step : ∀ {c : V} {b : Bool} {A B : Nat → Option R} {Q : V → Heap → Prop}, c = .bool b → (b = true → Tot A Q) → (b = false → Tot B Q) → Tot (fun k => bnd (asB c) fun t => if t = true then A k else B k) Q := by
    intro c b A B Q hc h1 h2
    subst hc
    cases b with
    | true => exact Tot.pure bT (by simpa using h1 rfl)
    | false => exact Tot.pure bF (by simpa using h2 rfl)
  refine Tot.pure (show arA .lss (.int .i64 n) (.int .i64 1) = some (.bool (decide (n < 1))) from rfl) ?_
  refine step rfl (fun _ => Tot.ret ⟨rfl, rfl⟩) fun h1 => ?_
  refine Tot.pure (show arA .gtr (.int .i64 n) (.int .i64 1073741824) = some (.bool (decide (n > 1073741824))) from rfl) ?_
  refine step rfl (fun _ => Tot.ret ⟨rfl, rfl⟩) fun h2 => ?_
  refine Tot.pure (show arA .lss (.int .i64 m) (.int .i64 1) = some (.bool (decide (m < 1))) from rfl) ?_
  refine step rfl (fun _ => Tot.ret ⟨rfl, rfl⟩) fun h3 => ?_
  refine Tot.pure (show arA .gtr (.int .i64 m) (.int .i64 16777216) = some (.bool (decide (m > 16777216))) from rfl) ?_
  refine step rfl (fun _ => Tot.ret ⟨rfl, rfl⟩) fun h4 => ?_
  exfalso
  simp only [decide_eq_false_iff_not] at h1 h2 h3 h4
  exact h ⟨⟨by omega, by omega⟩, by omega, by omega⟩
theorem good_P {n m : Int} : Gv (fun k => f_ref17_Good k [.int .i64 n, .int .i64 m] H) (.bool (decide ((1 ≤ n ∧ n ≤ 1073741824) ∧ 1 ≤ m ∧ m ≤ 16777216))) H := by
  refine ref17_Good_tot rfl rfl ?_
  simp only [ref17_Good_b]
  refine Tot.pure (show arA .geq (.int .i64 n) (.int .i64 1) = some (.bool (decide (n ≥ 1))) from rfl) ?_
  by_cases h1 : n ≥ 1
  · rw [decide_eq_true h1]
    refine Tot.pure bT ?_
    simp only [if_true]
    refine Tot.pure (show arA .leq (.int .i64 n) (.int .i64 1073741824) = some (.bool (decide (n ≤ 1073741824))) from rfl) ?_
    by_cases h2 : n ≤ 1073741824
    · rw [decide_eq_true h2]
      refine Tot.pure bT ?_
      simp only [if_true]
      refine Tot.pure (show arA .geq (.int .i64 m) (.int .i64 1) = some (.bool (decide (m ≥ 1))) from rfl) ?_
      by_cases h3 : m ≥ 1
      · rw [decide_eq_true h3]
        refine Tot.pure bT ?_
        simp only [if_true]
        refine Tot.pure (show arA .leq (.int .i64 m) (.int .i64 16777216) = some (.bool (decide (m ≤ 16777216))) from rfl) ?_
        refine Tot.ret ⟨rfl, trivial, ?_⟩
        congr 1
        exact decide_eq_decide.2 ⟨fun h => ⟨⟨h1, h2⟩, h3, h⟩, fun h => h.2.2⟩
      · rw [decide_eq_false h3]
        refine Tot.pure bF ?_
        simp only [Bool.false_eq_true, if_false]
        exact Tot.ret ⟨rfl, trivial, by rw [decide_eq_false]; intro h; exact h3 h.2.1⟩
    · rw [decide_eq_false h2]
      refine Tot.pure bF ?_
      simp only [Bool.false_eq_true, if_false]
      exact Tot.ret ⟨rfl, trivial, by rw [decide_eq_false]; intro h; exact h2 h.1.2⟩
  · rw [decide_eq_false h1]
    refine Tot.pure bF ?_
    simp only [Bool.false_eq_true, if_false]
    exact Tot.ret ⟨rfl, trivial, by rw [decide_eq_false]; intro h; exact h1 h.1.1⟩
theorem lives_P : Gv (fun n => f_law17_lives n [] H) (.bool true) H := law17_lives_ext ⟨_, _, ⟨rfl, rfl⟩, 0, fun n _ => rfl⟩
theorem sort_nil {n : Nat} {H : Heap} : callA C (n + 8) 20 [nilS, .func (.func 21) [] []] H = some (.tuple [], H) := by kernel_rfl
theorem sort_P : Gv (fun n => f_slices_SortFunc_api_Place_api_Place n [nilS, .func (.func 21) [] []] H) (.tuple []) H := by
  refine ⟨_, _, ⟨rfl, rfl⟩, 8, fun n hn => ?_⟩
  obtain ⟨k, rfl⟩ : ∃ k, n = k + 8 := ⟨n - 8, by omega⟩
  unfold f_slices_SortFunc_api_Place_api_Place
  exact sort_nil
end N
end Go.AM
end
section
set_option linter.unusedVariables false
set_option linter.unusedSimpArgs false
set_option linter.unusedSimpArgs false
set_option linter.unusedVariables false
set_option maxRecDepth 100000
namespace Go.AM
namespace N
variable {H : Heap}
section
variable {i : Nat} {n m l s : Int} {a b : Nat} {p : V}
theorem N_P (h : H.get i = oEng n m a b l s p) : Gv (fun k => f_pdt_Engine_N k [.ptr (some (i, 0))] H) (.int .i64 n) H := by
  refine pdt_Engine_N_tot ?_
  simp only [pdt_Engine_N_b]
  refine Tot.pure eq_eng ?_
  refine Tot.pure bF ?_
  simp only [Bool.false_eq_true, if_false]
  refine Tot.pure (show nilC (.ptr (some (i, 0))) = some (.ptr (some (i, 0))) from rfl) ?_
  refine Tot.pure (show faA 0 (.ptr (some (i, 0))) = some (.ptr (some (i, 0))) from rfl) ?_
  refine Tot.pure (show ld1 (.ptr (some (i, 0))) H = some (.int .i64 n) by simp [ld1, h, oEng]) ?_
  exact Tot.ret ⟨rfl, rfl⟩
theorem M_P (h : H.get i = oEng n m a b l s p) : Gv (fun k => f_pdt_Engine_M k [.ptr (some (i, 0))] H) (.int .i64 m) H := by
  refine pdt_Engine_M_tot ?_
  simp only [pdt_Engine_M_b]
  refine Tot.pure eq_eng ?_
  refine Tot.pure bF ?_
  simp only [Bool.false_eq_true, if_false]
  refine Tot.pure (show nilC (.ptr (some (i, 0))) = some (.ptr (some (i, 0))) from rfl) ?_
  refine Tot.pure (show faA 1 (.ptr (some (i, 0))) = some (.ptr (some (i, 1))) from rfl) ?_
  refine Tot.pure (show ld1 (.ptr (some (i, 1))) H = some (.int .i64 m) by simp [ld1, h, oEng]) ?_
  exact Tot.ret ⟨rfl, rfl⟩
theorem Sheets_P (h : H.get i = oEng n m a b l s p) : Gv (fun k => f_pdt_Engine_Sheets k [.ptr (some (i, 0))] H) (.int .i64 s) H := by
  refine pdt_Engine_Sheets_tot ?_
  simp only [pdt_Engine_Sheets_b]
  refine Tot.pure eq_eng ?_
  refine Tot.pure bF ?_
  simp only [Bool.false_eq_true, if_false]
  refine Tot.pure (show nilC (.ptr (some (i, 0))) = some (.ptr (some (i, 0))) from rfl) ?_
  refine Tot.pure (show faA 5 (.ptr (some (i, 0))) = some (.ptr (some (i, 5))) from rfl) ?_
  refine Tot.pure (show ld1 (.ptr (some (i, 5))) H = some (.int .i64 s) by simp [ld1, h, oEng]) ?_
  exact Tot.ret ⟨rfl, rfl⟩
theorem Sites_P (h : H.get i = oEng n m a b l s p) (ha : H.get a = .map [] 0) (hA : a < H.n) : Tot (fun k => f_pdt_Engine_Sites k [.ptr (some (i, 0))] H) fun v _ => v = .list 0 0 [] := by
  refine pdt_Engine_Sites_tot ?_
  simp only [pdt_Engine_Sites_b]
  refine Tot.pure eq_eng ?_
  refine Tot.pure bF ?_
  simp only [Bool.false_eq_true, if_false]
  refine Tot.pure (show nilC (.ptr (some (i, 0))) = some (.ptr (some (i, 0))) from rfl) ?_
  refine Tot.pure (show faA 2 (.ptr (some (i, 0))) = some (.ptr (some (i, 2))) from rfl) ?_
  refine Tot.pure (show ld1 (.ptr (some (i, 2))) H = some (.map (some a)) by simp [ld1, h, oEng]) ?_
  refine Tot.pure (show rgMap (.map (some a)) H = some (.miter (some a) 0 [] 0) by simp [rgMap, mapOf, ha]) ?_
  refine pdt_Engine_Sites.l0_tot Big.id fun m' _ => ?_
  simp only [pdt_Engine_Sites.l0_b]
  have hn : nextA (.ptr (some (H.n, 0))) false (H.push (.miter (some a) 0 [] 0)) = some (.tuple [.bool false], H.push (.miter (some a) 0 [] 0)) := by
    have e1 : (H.push (.miter (some a) 0 [] 0)).get H.n = .miter (some a) 0 [] 0 := Heap.gpz rfl
    have e2 : (H.push (.miter (some a) 0 [] 0)).get a = .map [] 0 := by rw [Heap.gqz (by omega)]; exact ha
    simp [nextA, e1, e2, leftM]
  refine Tot.pure hn ?_
  refine Tot.pure (show extA (.tuple [.bool false]) 0 = some (.bool false) from rfl) ?_
  refine Tot.pure bF ?_
  simp only [Bool.false_eq_true, if_false]
  refine pdt_Engine_Sites.p1_tot ?_
  simp only [pdt_Engine_Sites.p1_b]
  refine Gv.bind sort_P ?_
  exact Tot.frz nil_frz rfl
end
abbrev npE : V := .ptr none
theorem N_0 : Gv (fun k => f_pdt_Engine_N k [npE] H) (.int .i64 0) H := by
  refine pdt_Engine_N_tot ?_
  simp only [pdt_Engine_N_b]
  refine Tot.pure eq_eng0 ?_
  refine Tot.pure bT ?_
  simp only [if_true]
  exact Tot.ret ⟨rfl, rfl⟩
theorem M_0 : Gv (fun k => f_pdt_Engine_M k [npE] H) (.int .i64 0) H := by
  refine pdt_Engine_M_tot ?_
  simp only [pdt_Engine_M_b]
  refine Tot.pure eq_eng0 ?_
  refine Tot.pure bT ?_
  simp only [if_true]
  exact Tot.ret ⟨rfl, rfl⟩
theorem Sheets_0 : Gv (fun k => f_pdt_Engine_Sheets k [npE] H) (.int .i64 0) H := by
  refine pdt_Engine_Sheets_tot ?_
  simp only [pdt_Engine_Sheets_b]
  refine Tot.pure eq_eng0 ?_
  refine Tot.pure bT ?_
  simp only [if_true]
  exact Tot.ret ⟨rfl, rfl⟩
theorem Sites_0 : Gv (fun k => f_pdt_Engine_Sites k [npE] H) (.list 0 0 []) H := by
  refine pdt_Engine_Sites_tot ?_
  simp only [pdt_Engine_Sites_b]
  refine Tot.pure eq_eng0 ?_
  refine Tot.pure bT ?_
  simp only [if_true]
  exact Tot.frz nil_frz ⟨rfl, rfl⟩
theorem boxP {x y : Int} : boxA ty_api_Point (.agg [.int .i64 x, .int .i64 y]) = some (.cells [.int .i64 x, .int .i64 y] ty_api_Point false) := rfl
theorem Insert_0 {x y : Int} : Tot (fun k => f_pdt_Engine_Insert k [npE, .agg [.int .i64 x, .int .i64 y]] H) fun v H' => v = .tuple [.int .i64 (-1), .int .i64 10] ∧ Ext0 H H' := by
  refine pdt_Engine_Insert_tot ?_
  simp only [pdt_Engine_Insert_b]
  refine Tot.pure boxP ?_
  refine Tot.pure eq_eng0 ?_
  refine Tot.pure bT ?_
  simp only [if_true]
  exact Tot.ret ⟨rfl, Keep.ext (Keep.auto)⟩
theorem At_0 {x : Int} : Tot (fun k => f_pdt_Engine_At k [npE, .int .i64 x] H) fun v H' => v = .tuple [.agg [.int .i64 0, .int .i64 0], .bool false] ∧ Ext0 H H' := by
  refine pdt_Engine_At_tot ?_
  simp only [pdt_Engine_At_b]
  refine Tot.pure eq_eng0 ?_
  refine Tot.pure bT ?_
  simp only [if_true]
  refine Tot.pure (show flA _ _ _ = some (.agg [.int .i64 0, .int .i64 0]) from rfl) ?_
  have s1 : stA 2 (.ptr (some (H.n, 0))) (.agg [.int .i64 0, .int .i64 0]) (H.push (.cells [.int .i64 0, .int .i64 0] ty_api_Point false)) = some ((H.push (.cells [.int .i64 0, .int .i64 0] ty_api_Point false)).set H.n (.cells [.int .i64 0, .int .i64 0] ty_api_Point false)) := by
    simp [stA, Heap.gpz, V.cells, V.one, lset]
  refine Tot.pure s1 ?_
  refine Tot.pure (show ldN 2 (.ptr (some (H.n, 0))) _ = some (.agg [.int .i64 0, .int .i64 0]) by simp [ldN, Heap.gsz]) ?_
  exact Tot.ret ⟨rfl, Keep.ext (Keep.auto)⟩
theorem Find_0 {x y : Int} : Tot (fun k => f_pdt_Engine_Find k [npE, .agg [.int .i64 x, .int .i64 y]] H) fun v H' => v = .tuple [.int .i64 (-1), .bool false] ∧ Ext0 H H' := by
  refine pdt_Engine_Find_tot ?_
  simp only [pdt_Engine_Find_b]
  refine Tot.pure boxP ?_
  refine Tot.pure eq_eng0 ?_
  refine Tot.pure bT ?_
  simp only [if_true]
  exact Tot.ret ⟨rfl, Keep.ext (Keep.auto)⟩
theorem Clear_0 : Gv (fun k => f_pdt_Engine_Clear k [npE] H) (.tuple []) H := by
  refine pdt_Engine_Clear_tot ?_
  simp only [pdt_Engine_Clear_b]
  refine Tot.pure ne_eng0 ?_
  refine Tot.pure bF ?_
  simp only [Bool.false_eq_true, if_false]
  exact Tot.ret ⟨rfl, rfl⟩
theorem Remove_0 {x : Int} : Gv (fun k => f_pdt_Engine_Remove k [npE, .int .i64 x] H) (.int .i64 10) H := by
  refine pdt_Engine_Remove_tot ?_
  simp only [pdt_Engine_Remove_b]
  refine Tot.pure eq_eng0 ?_
  refine Tot.pure bT ?_
  simp only [if_true]
  exact Tot.ret ⟨rfl, rfl⟩
theorem Move_0 {z x y : Int} : Tot (fun k => f_pdt_Engine_Move k [npE, .int .i64 z, .agg [.int .i64 x, .int .i64 y]] H) fun v H' => v = .int .i64 10 ∧ Ext0 H H' := by
  refine pdt_Engine_Move_tot ?_
  simp only [pdt_Engine_Move_b]
  refine Tot.pure boxP ?_
  refine Tot.pure eq_eng0 ?_
  refine Tot.pure bT ?_
  simp only [if_true]
  exact Tot.ret ⟨rfl, Keep.ext (Keep.auto)⟩
end N
end Go.AM
end
section
set_option linter.unusedVariables false
set_option linter.unusedSimpArgs false
set_option linter.unusedSimpArgs false
set_option linter.unusedVariables false
set_option maxRecDepth 100000
namespace Go.AM
def isIntK3 (P : Program) (k : IntKind) (t : TypeId) : Bool := match P.underlying t with
  | some (.int q) => q == k
  | _ => false
def isPt2 (P : Program) (t : TypeId) : Bool := match P.underlying t with
  | some (.struct fs) => match fs.toList with
    | [f, g] => (f.offset == 0) && (g.offset == 1) && (P.cellsOf f.type == 1) && (P.cellsOf g.type == 1) && (P.cellsOf t == 2) && isIntK3 P .i64 f.type && isIntK3 P .i64 g.type
    | _ => false
  | _ => false
def isLookT (P : Program) (t : TypeId) : Bool := match P.underlying t with
  | some (.struct fs) => match fs.toList with
    | [f, g] => (f.offset == 0) && (g.offset == 1) && (P.cellsOf f.type == 1) && (P.cellsOf g.type == 2) && (P.cellsOf t == 3) && isIntK3 P .i64 f.type && isPt2 P g.type
    | _ => false
  | _ => false
section
variable {P : Program} {k : Nat} {t : TypeId} {cs : List V}
theorem FT.int3 {q : IntKind} (ht : isIntK3 P q t = true) (h : FT P (k + 1) t cs) : ∃ z, cs = [.int q z] ∧ (Lit.int q z).wf = true := by
  unfold isIntK3 at ht
  unfold FT at h
  split at ht
  · rename_i hu
    simp only [hu] at h
    simp only [beq_iff_eq] at ht
    subst ht; exact h
  · cases ht
theorem isIntK3.one {v : V} {q : IntKind} (ht : isIntK3 P q t = true) : argV P t [v] = v := by
  unfold isIntK3 at ht
  unfold argV
  split at ht
  · rename_i e hu; simp only [hu]; rfl
  · cases ht
theorem FT.pt2 (ht : isPt2 P t = true) (h : FT P (k + 2) t cs) : ∃ x y, cs = [.int .i64 x, .int .i64 y] := by
  unfold isPt2 at ht
  unfold FT at h
  split at ht
  · rename_i fs hu
    simp only [hu] at h
    split at ht
    · rename_i f g hfs
      simp only [Bool.and_eq_true, beq_iff_eq] at ht
      obtain ⟨⟨⟨⟨⟨⟨a1, a2⟩, a3⟩, a4⟩, a5⟩, a6⟩, a7⟩ := ht
      rw [hfs] at h
      obtain ⟨hl, hf⟩ := h
      have w1 := hf f (by simp)
      have w2 := hf g (by simp)
      rw [a1, a3] at w1
      rw [a2, a4] at w2
      obtain ⟨x, e1, -⟩ := FT.int3 a6 w1
      obtain ⟨y, e2, -⟩ := FT.int3 a7 w2
      rw [a5] at hl
      match cs, hl with
      | [a, b], _ =>
        simp at e1 e2
        exact ⟨x, y, by rw [e1, e2]⟩
    · cases ht
  · cases ht
theorem FT.look (ht : isLookT P t = true) (h : FT P (k + 3) t cs) : ∃ i x y, cs = [.int .i64 i, .int .i64 x, .int .i64 y] := by
  unfold isLookT at ht
  unfold FT at h
  split at ht
  · rename_i fs hu
    simp only [hu] at h
    split at ht
    · rename_i f g hfs
      simp only [Bool.and_eq_true, beq_iff_eq] at ht
      obtain ⟨⟨⟨⟨⟨⟨a1, a2⟩, a3⟩, a4⟩, a5⟩, a6⟩, a7⟩ := ht
      rw [hfs] at h
      obtain ⟨hl, hf⟩ := h
      have w1 := hf f (by simp)
      have w2 := hf g (by simp)
      rw [a1, a3] at w1
      rw [a2, a4] at w2
      obtain ⟨x, e1, -⟩ := FT.int3 a6 w1
      obtain ⟨y, z, e2⟩ := FT.pt2 a7 w2
      rw [a5] at hl
      match cs, hl with
      | [a, b, c], _ =>
        simp at e1 e2
        exact ⟨x, y, z, by rw [e1, e2.1, e2.2]⟩
    · cases ht
  · cases ht
theorem isLookT.agg (ht : isLookT P t = true) : argV P t cs = .agg cs := by
  unfold isLookT at ht
  unfold argV
  split at ht
  · rename_i fs hu; simp only [hu]
  · cases ht
end
namespace N
variable {H : Heap}
theorem set_0 {n : Nat} {H : Heap} : callA C (n + 2) 17 [npE, nilS] H = some (.int .i64 10, H) := by kernel_rfl
theorem Set_0 : Gv (fun k => f_pdt_Engine_Set k [npE, nilS] H) (.int .i64 10) H := by
  refine ⟨_, _, ⟨rfl, rfl⟩, 2, fun n hn => ?_⟩
  obtain ⟨k, rfl⟩ : ∃ k, n = k + 2 := ⟨n - 2, by omega⟩
  unfold f_pdt_Engine_Set
  exact set_0
theorem Dump_0 : Tot (fun k => f_pdt_Engine_Dump k [npE] H) fun v H' => v = .agg [.int .i64 0, .list 0 0 [], .list 0 0 []] := by
  refine pdt_Engine_Dump_tot ?_
  simp only [pdt_Engine_Dump_b]
  refine Tot.pure eq_eng0 ?_
  refine Tot.pure bT ?_
  simp only [if_true]
  refine Tot.pure (show flA _ _ _ = some (.agg [.int .i64 0, nilS, nilS]) from rfl) ?_
  have s1 : stA 3 (.ptr (some (H.n, 0))) (.agg [.int .i64 0, nilS, nilS]) (H.push (.cells [.int .i64 0, nilS, nilS] ty_api_Dump false)) = some ((H.push (.cells [.int .i64 0, nilS, nilS] ty_api_Dump false)).set H.n (.cells [.int .i64 0, nilS, nilS] ty_api_Dump false)) := by
    simp [stA, Heap.gpz, V.cells, V.one, lset]
  refine Tot.pure s1 ?_
  refine Tot.pure (show ldN 3 (.ptr (some (H.n, 0))) _ = some (.agg [.int .i64 0, nilS, nilS]) by simp [ldN, Heap.gsz]) ?_
  exact Tot.frz (show frzR (.agg [.int .i64 0, nilS, nilS]) _ = some (.agg [.int .i64 0, .list 0 0 [], .list 0 0 []], _) from rfl) rfl
theorem news_good {n m i x y : Int} (h : (1 ≤ n ∧ n ≤ 1073741824) ∧ 1 ≤ m ∧ m ≤ 16777216) : Tot (fun k => law17_PdtNews_b @bnd k (.int .i64 n) (.int .i64 m) (.agg [.int .i64 i, .int .i64 x, .int .i64 y]) E0) fun v _ => v = .bool true := by
  simp only [law17_PdtNews_b]
  refine Tot.pure (show boxA _ _ = some (.cells [.int .i64 i, .int .i64 x, .int .i64 y] ty_law17_Look false) from rfl) ?_
  refine Tot.bind (open_good h) ?_
  rintro v H1 ⟨rfl, j, g1, g2, g3⟩
  dsimp only
  refine Tot.pure (show extA _ 0 = some _ from rfl) ?_
  refine Tot.pure (show extA _ 1 = some (.int .i64 0) from rfl) ?_
  refine Gv.bind good_P ?_
  rw [decide_eq_true h]
  dsimp only
  refine Tot.pure bT ?_
  simp only [if_true]
  refine Tot.pure ne_eng ?_
  refine Tot.pure bT ?_
  simp only [if_true]
  refine Tot.pure (show arA .eql (.int .i64 0) (.int .i64 0) = some (.bool true) from rfl) ?_
  refine Tot.pure bT ?_
  simp only [if_true]
  refine Gv.bind (N_P g1) ?_
  dsimp only
  refine Tot.pure (show arA .eql (.int .i64 n) (.int .i64 n) = some (.bool true) by simp [arA, intA]) ?_
  refine Tot.pure bT ?_
  simp only [if_true]
  refine Gv.bind (M_P g1) ?_
  dsimp only
  refine Tot.pure (show arA .eql (.int .i64 m) (.int .i64 m) = some (.bool true) by simp [arA, intA]) ?_
  refine Tot.pure bT ?_
  simp only [if_true]
  refine Gv.bind (Sheets_P g1) ?_
  dsimp only
  refine Tot.pure (show arA .eql (.int .i64 0) (.int .i64 0) = some (.bool true) from rfl) ?_
  refine Tot.pure bT ?_
  simp only [if_true]
  refine Tot.bind (Sites_P g1 g2 (by omega)) ?_
  rintro v H2 rfl
  dsimp only
  refine Tot.pure (show lenSl (.list 0 0 []) = some (.int .i64 0) from rfl) ?_
  refine Tot.pure (show arA .eql (.int .i64 0) (.int .i64 0) = some (.bool true) from rfl) ?_
  refine Tot.pure bT ?_
  simp only [if_true]
  refine Gv.bind lives_P ?_
  exact Tot.ret rfl
theorem news_bad {n m i x y : Int} (h : ¬ ((1 ≤ n ∧ n ≤ 1073741824) ∧ 1 ≤ m ∧ m ≤ 16777216)) : Tot (fun k => law17_PdtNews_b @bnd k (.int .i64 n) (.int .i64 m) (.agg [.int .i64 i, .int .i64 x, .int .i64 y]) E0) fun v _ => v = .bool true := by
  simp only [law17_PdtNews_b]
  have t10 : arA .eql (.int .i64 10) (.int .i64 10) = some (.bool true) := rfl
  have t1 : arA .eql (.int .i64 (-1)) (.int .i64 (-1)) = some (.bool true) := rfl
  have t0 : arA .eql (.int .i64 0) (.int .i64 0) = some (.bool true) := rfl
  refine Tot.pure (show boxA _ _ = some (.cells [.int .i64 i, .int .i64 x, .int .i64 y] ty_law17_Look false) from rfl) ?_
  refine Tot.bind (open_bad h) ?_
  rintro v H1 ⟨rfl, hH⟩
  rw [hH]; clear hH
  obtain ⟨G, hG⟩ : ∃ G, G = E0.push (.cells [.int .i64 i, .int .i64 x, .int .i64 y] ty_law17_Look false) := ⟨_, rfl⟩
  have G0 : G.get 0 = .cells [.int .i64 i, .int .i64 x, .int .i64 y] ty_law17_Look false := by rw [hG]; exact Heap.gpz rfl
  have Gn : 0 < G.n := by rw [hG]; exact Nat.one_pos
  rw [← hG]; clear hG
  dsimp only
  refine Tot.pure (show extA _ 0 = some npE from rfl) ?_
  refine Tot.pure (show extA _ 1 = some (.int .i64 10) from rfl) ?_
  refine Gv.bind good_P ?_
  rw [decide_eq_false h]
  dsimp only
  refine Tot.pure bF ?_
  simp only [Bool.false_eq_true, if_false]
  have f0 : faA 0 (.ptr (some (E0.n, 0))) = some (.ptr (some (0, 0))) := rfl
  have f1 : faA 1 (.ptr (some (E0.n, 0))) = some (.ptr (some (0, 1))) := rfl
  have l0 : ∀ {K : Heap}, K.get 0 = .cells [.int .i64 i, .int .i64 x, .int .i64 y] ty_law17_Look false → ld1 (.ptr (some (0, 0))) K = some (.int .i64 i) := fun h => by simp [ld1, h]
  have l1 : ∀ {K : Heap}, K.get 0 = .cells [.int .i64 i, .int .i64 x, .int .i64 y] ty_law17_Look false → ldN 2 (.ptr (some (0, 1))) K = some (.agg [.int .i64 x, .int .i64 y]) := fun h => by simp [ldN, h]
  refine Tot.pure f1 ?_
  refine Tot.pure (l1 G0) ?_
  refine Tot.bind Insert_0 ?_
  rintro v K1 ⟨rfl, k1⟩
  have K10 := (k1.get 0 Gn id).trans G0
  have K1n : 0 < K1.n := Nat.lt_of_lt_of_le Gn k1.n
  dsimp only
  refine Tot.pure (show extA _ 0 = some (.int .i64 (-1)) from rfl) ?_
  refine Tot.pure (show extA _ 1 = some (.int .i64 10) from rfl) ?_
  refine Tot.pure f0 ?_
  refine Tot.pure (l0 K10) ?_
  refine Tot.bind At_0 ?_
  rintro v K2 ⟨rfl, k2⟩
  have K20 := (k2.get 0 K1n id).trans K10
  have K2n : 0 < K2.n := Nat.lt_of_lt_of_le K1n k2.n
  dsimp only
  refine Tot.pure (show extA _ 0 = some (.agg [.int .i64 0, .int .i64 0]) from rfl) ?_
  refine Tot.pure (show extA _ 1 = some (.bool false) from rfl) ?_
  have s1 : stA 2 (.ptr (some (K2.n, 0))) (.agg [.int .i64 0, .int .i64 0]) (K2.push (.cells [.int .i64 0, .int .i64 0] ty_api_Point false)) = some ((K2.push (.cells [.int .i64 0, .int .i64 0] ty_api_Point false)).set K2.n (.cells [.int .i64 0, .int .i64 0] ty_api_Point false)) := by
    simp [stA, Heap.gpz, V.cells, V.one, lset]
  refine Tot.pure s1 ?_
  obtain ⟨K3, hK3⟩ : ∃ K3, K3 = (K2.push (.cells [.int .i64 0, .int .i64 0] ty_api_Point false)).set K2.n (.cells [.int .i64 0, .int .i64 0] ty_api_Point false) := ⟨_, rfl⟩
  have K30 : K3.get 0 = .cells [.int .i64 i, .int .i64 x, .int .i64 y] ty_law17_Look false := by
    rw [hK3, Heap.gtz (by omega), Heap.gqz (by omega)]; exact K20
  have K3n : 0 < K3.n := by rw [hK3]; exact Nat.succ_pos _
  rw [← hK3]; clear hK3
  refine Tot.pure f1 ?_
  refine Tot.pure (l1 K30) ?_
  refine Tot.bind Find_0 ?_
  rintro v K4 ⟨rfl, k4⟩
  have K40 := (k4.get 0 K3n id).trans K30
  have K4n : 0 < K4.n := Nat.lt_of_lt_of_le K3n k4.n
  dsimp only
  refine Tot.pure (show extA _ 0 = some (.int .i64 (-1)) from rfl) ?_
  refine Tot.pure (show extA _ 1 = some (.bool false) from rfl) ?_
  refine Gv.bind Clear_0 ?_
  refine Tot.pure eq_eng0 ?_
  refine Tot.pure bT ?_
  simp only [if_true]
  refine Tot.pure t10 ?_
  refine Tot.pure bT ?_
  simp only [if_true]
  refine Tot.pure t1 ?_
  refine Tot.pure bT ?_
  simp only [if_true]
  refine Tot.pure t10 ?_
  refine Tot.pure bT ?_
  simp only [if_true]
  refine Tot.pure f0 ?_
  refine Tot.pure (l0 K40) ?_
  refine Gv.bind Remove_0 ?_
  dsimp only
  refine Tot.pure t10 ?_
  refine Tot.pure bT ?_
  simp only [if_true]
  refine Tot.pure f0 ?_
  refine Tot.pure (l0 K40) ?_
  refine Tot.pure f1 ?_
  refine Tot.pure (l1 K40) ?_
  refine Tot.bind Move_0 ?_
  rintro v K5 ⟨rfl, k5⟩
  dsimp only
  refine Tot.pure t10 ?_
  refine Tot.pure bT ?_
  simp only [if_true]
  refine Gv.bind Set_0 ?_
  dsimp only
  refine Tot.pure t10 ?_
  refine Tot.pure bT ?_
  simp only [if_true]
  refine Tot.pure (show unA .not (.bool false) = some (.bool true) from rfl) ?_
  refine Tot.pure bT ?_
  simp only [if_true]
  refine Tot.pure t1 ?_
  refine Tot.pure bT ?_
  simp only [if_true]
  refine Tot.pure (show unA .not (.bool false) = some (.bool true) from rfl) ?_
  refine Tot.pure bT ?_
  simp only [if_true]
  refine Gv.bind N_0 ?_
  dsimp only
  refine Tot.pure t0 ?_
  refine Tot.pure bT ?_
  simp only [if_true]
  refine Gv.bind M_0 ?_
  dsimp only
  refine Tot.pure t0 ?_
  refine Tot.pure bT ?_
  simp only [if_true]
  refine Gv.bind Sheets_0 ?_
  dsimp only
  refine Tot.pure t0 ?_
  refine Tot.pure bT ?_
  simp only [if_true]
  refine Gv.bind Sites_0 ?_
  dsimp only
  refine Tot.pure (show lenSl (.list 0 0 []) = some (.int .i64 0) from rfl) ?_
  refine Tot.pure t0 ?_
  refine Tot.pure bT ?_
  simp only [if_true]
  refine Tot.bind Dump_0 ?_
  rintro v K6 rfl
  dsimp only
  refine Tot.pure (show fd1 0 _ = some (.int .i64 0) from rfl) ?_
  refine Tot.pure t0 ?_
  refine Tot.pure bT ?_
  simp only [if_true]
  refine Gv.bind lives_P ?_
  exact Tot.ret rfl
theorem news_all {t u w : TypeId} (ht : isIntK3 P .i64 t = true) (hu : isIntK3 P .i64 u = true) (hw : isLookT P w = true) {H : Heap} {us : List V} (h : FTs P 8 [t, u, w] us) : Tot (fun n => f_law17_PdtNews n us H) fun v _ => v = .bool true := by
  obtain ⟨cs, us', rfl, w1, cs2, us2, rfl, w2, cs3, us3, rfl, w3, rfl⟩ := h
  obtain ⟨n, rfl, -⟩ := FT.int3 (k := 7) ht w1
  obtain ⟨m, rfl, -⟩ := FT.int3 (k := 7) hu w2
  obtain ⟨i, x, y, rfl⟩ := FT.look (k := 5) hw w3
  rw [isIntK3.one ht, isIntK3.one hu, isLookT.agg hw]
  refine law17_PdtNews_tot rfl rfl ?_
  by_cases h : (1 ≤ n ∧ n ≤ 1073741824) ∧ 1 ≤ m ∧ m ≤ 16777216
  · exact Tot.mono (news_good h) fun v _ h => ⟨by rw [h]; rfl, h⟩
  · exact Tot.mono (news_bad h) fun v _ h => ⟨by rw [h]; rfl, h⟩
end N
end Go.AM
end
section
set_option linter.unusedVariables false
set_option linter.unusedSimpArgs false
namespace Go.AM.L
abbrev ty_int : Nat := 3
abbrev ty_bool : Nat := 4
abbrev ty_interface : Nat := 20
abbrev ty_api_Point : Nat := 23
abbrev ty_p_pdt_Engine : Nat := 26
abbrev ty_api_Dump : Nat := 48
abbrev ty_pdt_Engine : Nat := 55
abbrev ty_p_mesh_Mesh : Nat := 63
abbrev ty_p_bucket_Grid : Nat := 64
abbrev ty_pdt_sheet : Nat := 68
abbrev ty_api_Off : Nat := 76
abbrev ty_p_arena_Arena : Nat := 80
abbrev ty_mesh_Mesh : Nat := 84
abbrev ty_sl_int : Nat := 85
abbrev ty_api_Vert : Nat := 88
abbrev ty_api_Tri : Nat := 92
abbrev ty_api_Cell : Nat := 94
abbrev ty_uint32 : Nat := 106
abbrev ty_arena_Arena : Nat := 141
abbrev ty_bucket_Grid : Nat := 144
abbrev ty_mesh_half : Nat := 157
abbrev ty_mesh_edge : Nat := 160
abbrev ty_api_Nat : Nat := 205
abbrev ty_api_Int : Nat := 207
abbrev ty_api_Wide : Nat := 214
abbrev ty_api_Quad : Nat := 266
abbrev ty_2_uint64 : Nat := 300
@[simp] theorem eqlA_ty_api_Nat (s : Sl) : eqlA P ty_api_Nat (.slice s) (.slice ⟨none, 0, 0, false⟩) = some (.bool s.ad.isNone) := by rcases s with ⟨_ | a, l, z, f⟩ <;> kernel_rfl
@[simp] theorem neqA_ty_bool (a b : Bool) : neqA P ty_bool (.bool a) (.bool b) = some (.bool (!(a == b))) := by kernel_rfl
def tabList0 : List (Nat × List (Nat × List Nat)) := [(4, []),
 (8, []),
 (10, []),
 (11, [(12, [0, 3, 8, 9, 10]), (17, [0, 3, 8])]),
 (18, []),
 (19, []),
 (22, []),
 (23, [(4, [0, 1, 5, 30]), (7, [0, 1, 5, 6, 30, 33])]),
 (26, [(5, [0, 2, 3, 20, 21, 22]), (9, [0, 2, 3]), (10, [0, 2, 3, 43, 44, 45])]),
 (27, [(4, [5, 6, 23, 24, 25]), (9, [5, 6]), (10, [5, 57, 58, 59])]),
 (28, []),
 (31, [])]
def tabList1 : List (Nat × List (Nat × List Nat)) := [(33, []),
 (34, []),
 (36, []),
 (38, [(5, [0, 3, 11, 12])]),
 (39, []),
 (40, []),
 (41, []),
 (42, [(1, [0, 6, 7, 8])]),
 (43, []),
 (52, [(4, [0, 2]), (7, [0, 2])]),
 (54, []),
 (55, [(6, [0, 3, 42]), (12, [0, 3]), (15, [0, 3, 9, 74, 75])])]
def tabList2 : List (Nat × List (Nat × List Nat)) := [(61, []),
 (65, []),
 (66, [(1, [0, 4]), (4, [0, 2, 4, 7])]),
 (67, []),
 (68, []),
 (72, []),
 (73, []),
 (74, []),
 (75, []),
 (81, []),
 (82, []),
 (83, [])]
def tabList3 : List (Nat × List (Nat × List Nat)) := [(84, []),
 (85, []),
 (86, []),
 (87, []),
 (92, []),
 (101, []),
 (102, []),
 (103, []),
 (109, []),
 (110, []),
 (111, []),
 (112, [])]
def tabList4 : List (Nat × List (Nat × List Nat)) := [(113, []),
 (114, []),
 (115, []),
 (116, [(4, [0, 1, 4, 5, 6])]),
 (117, []),
 (118, []),
 (121, [(2, [0, 1, 7, 8])]),
 (123, []),
 (126, []),
 (127, []),
 (128, []),
 (129, [])]
def tabList5 : List (Nat × List (Nat × List Nat)) := [(130, []),
 (133, []),
 (134, []),
 (149, []),
 (155, []),
 (156, [(3, [1, 5, 17, 18, 19]), (7, [1, 5, 6, 7, 8, 17, 18, 19, 24, 25, 26]), (13, [1, 5, 6, 8, 17, 18, 19])]),
 (157, []),
 (158, []),
 (159, []),
 (160, []),
 (161, [(4, [1, 2, 3]), (6, [2, 3, 4, 13, 14]), (10, [2, 3, 4])]),
 (162, [])]
def tabList6 : List (Nat × List (Nat × List Nat)) := [(163, []),
 (164, []),
 (165, [(5, [4, 5, 6, 7, 8, 9, 27]), (9, [4, 5, 6, 7, 8, 9, 10, 11, 27, 30]), (17, [4, 5, 6, 7, 8, 9, 10, 11, 27]), (19, [4, 6, 8, 9])]),
 (168, [(2, [5, 6, 7])]),
 (169, []),
 (189, []),
 (190, [(1, [0])]),
 (191, []),
 (192, []),
 (193, []),
 (194, []),
 (195, [(7, [0, 1, 5])])]
def tabList7 : List (Nat × List (Nat × List Nat)) := [(196, []),
 (198, []),
 (199, []),
 (200, [(4, [1, 2, 4])]),
 (203, []),
 (220, []),
 (221, []),
 (222, []),
 (223, []),
 (226, []),
 (234, []),
 (235, [])]
def tabList : List (Nat × List (Nat × List Nat)) := tabList0 ++ (tabList1 ++ (tabList2 ++ (tabList3 ++ (tabList4 ++ (tabList5 ++ (tabList6 ++ (tabList7)))))))
def tabs (f : FuncId) : Option (List (Nat × List Nat)) := tabList.lookup f
noncomputable def extList : List (Nat × (List V → Heap → Option R)) := [((201 : Nat), (extAdd64 : List V → Heap → Option R)),
 ((225 : Nat), (extSub64 : List V → Heap → Option R))]
noncomputable def ext (f : FuncId) : Option (List V → Heap → Option R) := extList.lookup f
def faL : List Nat := [42]
def frL : List Nat := [18, 26, 38, 111, 112, 113, 115, 117, 155, 156, 157, 161, 189, 190]
def puL : List Nat := [10, 33, 61, 65, 67, 68, 85, 92, 101, 102, 103, 109, 110, 111, 112, 113, 114, 115, 116, 117, 118, 128, 129, 130, 133, 149, 155, 156, 157, 158, 159, 160, 161, 162, 164, 165, 168, 169, 189, 190, 192, 193, 194, 195, 196, 198, 199, 200, 203, 220, 221, 222, 223, 226, 234, 235]
def pu (f : FuncId) : Bool := puL.contains f
def fa (f : FuncId) : Bool := faL.contains f
def fr (f : FuncId) : Bool := frL.contains f
noncomputable def C : Cfg := { P, tabs, ext, fa, fr, pu, okc := fun N c => okC P N c }
abbrev i_pdt_Open : Nat := 4
abbrev i_pdt_Engine_Sheets : Nat := 8
abbrev i_law17_lives : Nat := 10
abbrev i_pdt_Engine_Insert : Nat := 11
abbrev i_pdt_Engine_Dump : Nat := 18
abbrev i_pdt_Engine_clear : Nat := 19
abbrev i_pdt_Engine_site : Nat := 22
abbrev i_pdt_Engine_add : Nat := 23
abbrev i_mesh_Mesh_Dump : Nat := 26
abbrev i_pdt_lay : Nat := 27
abbrev i_mesh_New : Nat := 28
abbrev i_arena_Arena_All : Nat := 38
abbrev i_bucket_New : Nat := 39
abbrev i_mesh_Mesh_Side : Nat := 40
abbrev i_bucket_Grid_Put : Nat := 41
abbrev i_pdt_sheet_count : Nat := 42
abbrev i_arena_New : Nat := 43
abbrev i_math_bits_Len32 : Nat := 52
abbrev i_arena_Arena_live : Nat := 72
@[irreducible] noncomputable def f_pdt_Open (n : Nat) (args : List V) (H : Heap) : Option R := callA C n 4 args H
@[irreducible] noncomputable def f_pdt_Engine_Sheets (n : Nat) (args : List V) (H : Heap) : Option R := callA C n 8 args H
@[irreducible] noncomputable def f_law17_lives (n : Nat) (args : List V) (H : Heap) : Option R := callA C n 10 args H
@[irreducible] noncomputable def f_pdt_Engine_Insert (n : Nat) (args : List V) (H : Heap) : Option R := callA C n 11 args H
@[irreducible] noncomputable def f_pdt_Engine_Dump (n : Nat) (args : List V) (H : Heap) : Option R := callA C n 18 args H
@[irreducible] noncomputable def f_pdt_Engine_clear (n : Nat) (args : List V) (H : Heap) : Option R := callA C n 19 args H
@[irreducible] noncomputable def f_pdt_Engine_site (n : Nat) (args : List V) (H : Heap) : Option R := callA C n 22 args H
@[irreducible] noncomputable def f_pdt_Engine_add (n : Nat) (args : List V) (H : Heap) : Option R := callA C n 23 args H
@[irreducible] noncomputable def f_mesh_Mesh_Dump (n : Nat) (args : List V) (H : Heap) : Option R := callA C n 26 args H
@[irreducible] noncomputable def f_pdt_lay (n : Nat) (args : List V) (H : Heap) : Option R := callA C n 27 args H
@[irreducible] noncomputable def f_mesh_New (n : Nat) (args : List V) (H : Heap) : Option R := callA C n 28 args H
@[irreducible] noncomputable def f_arena_Arena_All (n : Nat) (args : List V) (H : Heap) : Option R := callA C n 38 args H
@[irreducible] noncomputable def f_bucket_New (n : Nat) (args : List V) (H : Heap) : Option R := callA C n 39 args H
@[irreducible] noncomputable def f_mesh_Mesh_Side (n : Nat) (args : List V) (H : Heap) : Option R := callA C n 40 args H
@[irreducible] noncomputable def f_bucket_Grid_Put (n : Nat) (args : List V) (H : Heap) : Option R := callA C n 41 args H
@[irreducible] noncomputable def f_pdt_sheet_count (n : Nat) (args : List V) (H : Heap) : Option R := callA C n 42 args H
@[irreducible] noncomputable def f_arena_New (n : Nat) (args : List V) (H : Heap) : Option R := callA C n 43 args H
@[irreducible] noncomputable def f_math_bits_Len32 (n : Nat) (args : List V) (H : Heap) : Option R := callA C n 52 args H
@[irreducible] noncomputable def f_arena_Arena_live (n : Nat) (args : List V) (H : Heap) : Option R := callA C n 72 args H
end Go.AM.L
end
section
set_option linter.unusedVariables false
set_option linter.unusedSimpArgs false
set_option linter.unusedVariables false
namespace Go.AM
universe u
section
variable {α : Type u}
def fcN (n : Nat) (k : Nat → α) : α := Nat.casesOn (motive := fun _ => α) n (k 0) fun m => k (Nat.succ m)
theorem fcN_eq (n : Nat) (k : Nat → α) : fcN n k = k n := by cases n <;> rfl
def fcI (i : Int) (k : Int → α) : α := Int.casesOn (motive := fun _ => α) i (fun n => fcN n fun n => k (Int.ofNat n)) (fun n => fcN n fun n => k (Int.negSucc n))
theorem fcI_eq (n : Int) (k : Int → α) : fcI n k = k n := by cases n <;> simp [fcI, fcN_eq]
def fcB (b : Bool) (k : Bool → α) : α := Bool.casesOn (motive := fun _ => α) b (k false) (k true)
theorem fcB_eq (b : Bool) (k : Bool → α) : fcB b k = k b := by cases b <;> rfl
def fcK (b : IntKind) (k : IntKind → α) : α := match b with
  | .i8 => k .i8 | .i16 => k .i16 | .i32 => k .i32 | .i64 => k .i64 | .u8 => k .u8 | .u16 => k .u16 | .u32 => k .u32 | .u64 => k .u64
theorem fcK_eq (b : IntKind) (k : IntKind → α) : fcK b k = k b := by cases b <;> rfl
def fcO {β : Type} (fb : β → (β → α) → α) (o : Option β) (k : Option β → α) : α := match o with
  | none => k none
  | some x => fb x fun x => k (some x)
theorem fcO_eq {β : Type} {fb : β → (β → α) → α} (h : ∀ x k, fb x k = k x) (o : Option β) (k : Option β → α) : fcO fb o k = k o := by cases o <;> simp [fcO, h]
def fcP (o : Nat × Nat) (k : Nat × Nat → α) : α := match o with
  | (a, b) => fcN a fun a => fcN b fun b => k (a, b)
theorem fcP_eq (o : Nat × Nat) (k : Nat × Nat → α) : fcP o k = k o := by cases o; simp [fcP, fcN_eq]
def fcS (o : Sl) (k : Sl → α) : α := match o with
  | ⟨a, l, z, f⟩ => fcO fcP a fun a => fcN l fun l => fcN z fun z => fcB f fun f => k ⟨a, l, z, f⟩
theorem fcS_eq (o : Sl) (k : Sl → α) : fcS o k = k o := by cases o; simp [fcS, fcN_eq, fcB_eq, fcO_eq fcP_eq]
mutual
def fcV : V → (V → α) → α
  | .bool b, k => fcB b fun b => k (.bool b)
  | .int d n, k => fcK d fun d => fcI n fun n => k (.int d n)
  | .ptr a, k => fcO fcP a fun a => k (.ptr a)
  | .slice s, k => fcS s fun s => k (.slice s)
  | .map r, k => fcO fcN r fun r => k (.map r)
  | .agg cs, k => fcVs cs fun cs => k (.agg cs)
  | .tuple cs, k => fcVs cs fun cs => k (.tuple cs)
  | .list n z cs, k => fcN n fun n => fcN z fun z => fcVs cs fun cs => k (.list n z cs)
  | .lptr cs, k => fcVs cs fun cs => k (.lptr cs)
  | .dead, k => k .dead
  | .str s, k => k (.str s)
  | .func f a b, k => k (.func f a b)
  | .nilFunc, k => k .nilFunc
  | .iface t v, k => k (.iface t v)
  | .nilIface, k => k .nilIface
  | .yld j, k => k (.yld j)
def fcVs : List V → (List V → α) → α
  | [], k => k []
  | v :: vs, k => fcV v fun v => fcVs vs fun vs => k (v :: vs)
end
mutual
theorem fcV_eq : ∀ (v : V) (k : V → α), fcV v k = k v
  | .bool b, k => by simp [fcV, fcB_eq]
  | .int d n, k => by simp [fcV, fcK_eq, fcI_eq]
  | .ptr a, k => by simp [fcV, fcO_eq fcP_eq]
  | .slice s, k => by simp [fcV, fcS_eq]
  | .map r, k => by simp [fcV, fcO_eq fcN_eq]
  | .agg cs, k => by rw [fcV, fcVs_eq]
  | .tuple cs, k => by rw [fcV, fcVs_eq]
  | .list n z cs, k => by rw [fcV, fcN_eq, fcN_eq, fcVs_eq]
  | .lptr cs, k => by rw [fcV, fcVs_eq]
  | .dead, k => rfl
  | .str s, k => rfl
  | .func f a b, k => rfl
  | .nilFunc, k => rfl
  | .iface t v, k => rfl
  | .nilIface, k => rfl
  | .yld j, k => rfl
theorem fcVs_eq : ∀ (v : List V) (k : List V → α), fcVs v k = k v
  | [], k => rfl
  | v :: vs, k => by rw [fcVs, fcV_eq, fcVs_eq]
end
end
class Fc (α : Type) where
  fc : {ρ : Type} → α → (α → ρ) → ρ
  eq : ∀ {ρ : Type} (x : α) (k : α → ρ), fc x k = k x
instance : Fc V := ⟨fcV, fcV_eq⟩
instance : Fc Bool := ⟨fcB, fcB_eq⟩
instance : Fc Nat := ⟨fcN, fcN_eq⟩
instance : Fc Heap := ⟨fun x k => k x, fun _ _ => rfl⟩
instance : Fc O := ⟨fun x k => k x, fun _ _ => rfl⟩
instance : Fc Unit := ⟨fun x k => k x, fun _ _ => rfl⟩
instance {α β : Type} [Fc α] [Fc β] : Fc (α × β) := ⟨fun x k => match x with | (a, b) => Fc.fc a fun a => Fc.fc b fun b => k (a, b), fun x k => by cases x; simp [Fc.eq]⟩
abbrev B3 := {α β : Type} → [Fc α] → Option α → (α → Option β) → Option β
def bf {α β : Type} [Fc α] (x : Option α) (f : α → Option β) : Option β := match x with
  | some a => Fc.fc a f
  | none => none
def bdI {α β : Type} [Fc α] (x : Option α) (f : α → Option β) : Option β := bd x f
theorem bf_is : (@bf : B3) = @bdI := by
  funext α β _ x f
  cases x with
  | none => rfl
  | some a => exact Fc.eq a f
end Go.AM
end
section
set_option linter.unusedVariables false
set_option linter.unusedSimpArgs false
set_option maxRecDepth 1000000
set_option linter.unusedVariables false
namespace Go.AM.L
noncomputable def pdt_Open.r (bd : B3) (call : FuncId → List V → Heap → Option R) (n : Nat) (v0 v1 : V) (H : Heap) : Option R :=
 (bd (arA .lss v0 (.int .i64 1)) fun t8_1 =>
 (bd (asB t8_1) fun b2 =>
 if b2 = true then
 (some (.tuple [(.ptr none), (.int .i64 10)], H))
 else
 (bd (arA .gtr v0 (.int .i64 1073741824)) fun t11_3 =>
 (bd (asB t11_3) fun b4 =>
 if b4 = true then
 (some (.tuple [(.ptr none), (.int .i64 10)], H))
 else
 (bd (arA .lss v1 (.int .i64 1)) fun t15_5 =>
 (bd (asB t15_5) fun b6 =>
 if b6 = true then
 (some (.tuple [(.ptr none), (.int .i64 10)], H))
 else
 (bd (arA .gtr v1 (.int .i64 16777216)) fun t19_7 =>
 (bd (asB t19_7) fun b8 =>
 if b8 = true then
 (some (.tuple [(.ptr none), (.int .i64 10)], H))
 else
 (bd (flA [(0, 1), (1, 1), (2, 1), (3, 1), (4, 1), (5, 1), (6, 1)] [(.int .i64 0), (.int .i64 0), (.map none), (.map none), (.int .i64 0), (.int .i64 0), (.ptr none)] [(0, v0), (1, v1), (2, (.map (some H.n))), (3, (.map (some (H.push (.map [] 0)).n)))]) fun t25_9 =>
 (bd (boxA ty_pdt_Engine t25_9) fun o10 =>
 (bd (call 19 [(.ptr (some (((H.push (.map [] 0)).push (.map [] 0)).n, 0)))] (((H.push (.map [] 0)).push (.map [] 0)).push o10)) fun r11 =>
 (some (.tuple [(.ptr (some (((H.push (.map [] 0)).push (.map [] 0)).n, 0))), (.int .i64 0)], r11.2)))))))))))))
theorem pdt_Open.r_e (n : Nat) (v0 v1 : V) (H : Heap) : pdt_Open.r @bdI (callA C n) n v0 v1 H = E C n 4 [] (argsA 0 [v0, v1]) H (kR C 4) := by
  unfold pdt_Open.r
  kernel_rfl
noncomputable def pdt_Open.rf (bd : B3) (call : FuncId → List V → Heap → Option R) (n : Nat) (a : List V) (H : Heap) : Option R := (match a with | [v0, v1] => pdt_Open.r bd call n v0 v1 H | a => E C n 4 [] (argsA 0 a) H (kR C 4))
theorem pdt_Open.rf_b (n : Nat) (a : List V) (H : Heap) : (match a with | [v0, v1] => pdt_Open.r @bdI (callA C n) n v0 v1 H | a => E C n 4 [] (argsA 0 a) H (kR C 4)) = E C n 4 [] (argsA 0 a) H (kR C 4) := by
  split
  · exact pdt_Open.r_e n _ _ H
  · rfl
theorem pdt_Open.rf_e (n : Nat) (a : List V) (H : Heap) : pdt_Open.rf @bdI (callA C n) n a H = callA C (n + 1) 4 a H := by
  unfold pdt_Open.rf
  refine (pdt_Open.rf_b n a H).trans ?_
  kernel_rfl
noncomputable def pdt_Engine_Sheets.r (bd : B3) (call : FuncId → List V → Heap → Option R) (n : Nat) (v0 : V) (H : Heap) : Option R :=
 (bd (eqlA P ty_p_pdt_Engine v0 (.ptr none)) fun t4_1 =>
 (bd (asB t4_1) fun b2 =>
 if b2 = true then
 (some ((.int .i64 0), H))
 else
 (bd (nilC v0) fun t6_3 =>
 (bd (faA 5 t6_3) fun t7_4 =>
 (bd (ld1 t7_4 H) fun t8_5 =>
 (some (t8_5, H)))))))
theorem pdt_Engine_Sheets.r_e (n : Nat) (v0 : V) (H : Heap) : pdt_Engine_Sheets.r @bdI (callA C n) n v0 H = E C n 8 [] (argsA 0 [v0]) H (kR C 8) := by
  unfold pdt_Engine_Sheets.r
  kernel_rfl
noncomputable def pdt_Engine_Sheets.rf (bd : B3) (call : FuncId → List V → Heap → Option R) (n : Nat) (a : List V) (H : Heap) : Option R := (match a with | [v0] => pdt_Engine_Sheets.r bd call n v0 H | a => E C n 8 [] (argsA 0 a) H (kR C 8))
theorem pdt_Engine_Sheets.rf_b (n : Nat) (a : List V) (H : Heap) : (match a with | [v0] => pdt_Engine_Sheets.r @bdI (callA C n) n v0 H | a => E C n 8 [] (argsA 0 a) H (kR C 8)) = E C n 8 [] (argsA 0 a) H (kR C 8) := by
  split
  · exact pdt_Engine_Sheets.r_e n _ H
  · rfl
theorem pdt_Engine_Sheets.rf_e (n : Nat) (a : List V) (H : Heap) : pdt_Engine_Sheets.rf @bdI (callA C n) n a H = callA C (n + 1) 8 a H := by
  unfold pdt_Engine_Sheets.rf
  refine (pdt_Engine_Sheets.rf_b n a H).trans ?_
  kernel_rfl
noncomputable def law17_lives.r (bd : B3) (call : FuncId → List V → Heap → Option R) (n : Nat) (H : Heap) : Option R :=
 (bd (call 4 [(.int .i64 10), (.int .i64 5)] H) fun r1 =>
 (bd (extA r1.1 0) fun t8_2 =>
 (bd (extA r1.1 1) fun t9_3 =>
 (bd (eqlA P ty_p_pdt_Engine t8_2 (.ptr none)) fun t11_4 =>
 (bd (asB t11_4) fun b5 =>
 if b5 = true then
 (some ((.bool false), r1.2))
 else
 (bd (arA .neq t9_3 (.int .i64 0)) fun t14_6 =>
 (bd (asB t14_6) fun b7 =>
 if b7 = true then
 (some ((.bool false), r1.2))
 else
 (bd (flA [(0, 1), (1, 1)] [(.int .i64 0), (.int .i64 0)] [(0, (.int .i64 3)), (1, (.int .i64 4))]) fun t18_8 =>
 (bd (call 11 [t8_2, t18_8] r1.2) fun r9 =>
 (bd (extA r9.1 0) fun t20_10 =>
 (bd (extA r9.1 1) fun t21_11 =>
 (bd (call 18 [t8_2] r9.2) fun r12 =>
 (bd (stA 3 (.ptr (some (r12.2.n, 0))) r12.1 (r12.2.push (.cells [(.int .i64 0), (.slice ⟨none, 0, 0, false⟩), (.slice ⟨none, 0, 0, false⟩)] ty_api_Dump false))) fun H13 =>
 (bd (arA .eql t20_10 (.int .i64 0)) fun t25_14 =>
 (bd (asB t25_14) fun b15 =>
 if b15 = true then
 (bd (arA .eql t21_11 (.int .i64 0)) fun t28_16 =>
 (bd (asB t28_16) fun b17 =>
 if b17 = true then
 (bd (call 8 [t8_2] H13) fun r18 =>
 (bd (arA .eql r18.1 (.int .i64 3)) fun t33_19 =>
 (bd (asB t33_19) fun b20 =>
 if b20 = true then
 (bd (faA 1 (.ptr (some (r12.2.n, 0)))) fun t36_21 =>
 (bd (ld1 t36_21 r18.2) fun t37_22 =>
 (bd (lenSl t37_22) fun t38_23 =>
 (bd (arA .eql t38_23 (.int .i64 9)) fun t39_24 =>
 (bd (asB t39_24) fun b25 =>
 if b25 = true then
 (bd (faA 2 (.ptr (some (r12.2.n, 0)))) fun t42_26 =>
 (bd (ld1 t42_26 r18.2) fun t43_27 =>
 (bd (lenSl t43_27) fun t44_28 =>
 (bd (arA .eql t44_28 (.int .i64 18)) fun t45_29 =>
 (some (t45_29, r18.2))))))
 else
 (some ((.bool false), r18.2)))))))
 else
 (some ((.bool false), r18.2)))))
 else
 (some ((.bool false), H13))))
 else
 (some ((.bool false), H13)))))))))))))))))
theorem law17_lives.r_e (n : Nat) (H : Heap) : law17_lives.r @bdI (callA C n) n H = E C n 10 [] (argsA 0 []) H (kR C 10) := by
  unfold law17_lives.r
  kernel_rfl
noncomputable def law17_lives.rf (bd : B3) (call : FuncId → List V → Heap → Option R) (n : Nat) (a : List V) (H : Heap) : Option R := pureA a H fun a => (match a with | [] => law17_lives.r bd call n ⟨0, .nil⟩ | a => E C n 10 [] (argsA 0 a) ⟨0, .nil⟩ (kR C 10))
theorem law17_lives.rf_b (n : Nat) (a : List V) (H : Heap) : (match a with | [] => law17_lives.r @bdI (callA C n) n H | a => E C n 10 [] (argsA 0 a) H (kR C 10)) = E C n 10 [] (argsA 0 a) H (kR C 10) := by
  split
  · exact law17_lives.r_e n H
  · rfl
theorem law17_lives.rf_e (n : Nat) (a : List V) (H : Heap) : law17_lives.rf @bdI (callA C n) n a H = callA C (n + 1) 10 a H := by
  unfold law17_lives.rf
  refine (congrArg (pureA a H) (funext fun a => law17_lives.rf_b n a ⟨0, .nil⟩)).trans ?_
  kernel_rfl
@[irreducible] noncomputable def pdt_Engine_Insert.l0 (n m0 : Nat) (v0 v3 v8 v9 v10 : V) (H : Heap) : Option R := Lp C n 11 [1, 1, 1, 1, 1, 0, 1, 0, 0] m0 [(0, v0), (3, v3), (8, v8), (9, v9), (10, v10)] H (kB 1 (kC C n 11 [1, 1, 1, 1, 1, 1] (kR C 11)))
@[irreducible] noncomputable def pdt_Engine_Insert.p1 (n : Nat) (v0 v3 v8 : V) (H : Heap) : Option R := E C n 11 [1, 1, 1, 1, 1, 1] [(0, v0), (3, v3), (8, v8)] H (kR C 11)
noncomputable def pdt_Engine_Insert.r_p1 (bd : B3) (call : FuncId → List V → Heap → Option R) (n : Nat) (v0 v3 v8 : V) (H : Heap) : Option R :=
 (bd (arA .add v8 (.int .i64 1)) fun t67_1 =>
 (bd (nilC v0) fun t68_2 =>
 (bd (faA 4 t68_2) fun t69_3 =>
 (bd (stA 1 t69_3 t67_1 H) fun H4 =>
 (bd (ldN 2 v3 H4) fun t72_5 =>
 (bd (call 23 [v0, v8, t72_5] H4) fun r6 =>
 (some (.tuple [v8, (.int .i64 0)], r6.2))))))))
theorem pdt_Engine_Insert.r_p1_e (n : Nat) : pdt_Engine_Insert.r_p1 @bdI (callA C n) n = pdt_Engine_Insert.p1 n := by
  funext v0 v3 v8 H
  unfold pdt_Engine_Insert.r_p1
  kernel_rfl
noncomputable def pdt_Engine_Insert.r_l0 (bd : B3) (call : FuncId → List V → Heap → Option R) (n : Nat) (s0 : V → V → V → V → V → Heap → Option R) (v0 v3 v8 v9 v10 : V) (H : Heap) : Option R :=
 (bd (asB v10) fun b1 =>
 if b1 = true then
 (bd (arA .add v8 (.int .i64 1)) fun t63_2 =>
 (bd (ldN 2 v9 H) fun t64_3 =>
 (bd (stA 2 (.ptr (some (H.n, 0))) t64_3 (H.push (.cells [(.int .i64 0), (.int .i64 0)] ty_api_Point false))) fun H4 =>
 (bd (nilC v0) fun t55_5 =>
 (bd (faA 2 t55_5) fun t56_6 =>
 (bd (ld1 t56_6 H4) fun t57_7 =>
 (bd (lookM P ty_int (.agg [(.int .i64 0), (.int .i64 0)]) t57_7 t63_2 true H4) fun t59_8 =>
 (bd (extA t59_8 0) fun t60_9 =>
 (bd (extA t59_8 1) fun t61_10 =>
 (s0 v0 v3 t63_2 (.ptr (some (H.n, 0))) t61_10 H4))))))))))
 else
 (pdt_Engine_Insert.r_p1 bd call n v0 v3 v8 H))
theorem pdt_Engine_Insert.r_l0_e (n m0 : Nat) : pdt_Engine_Insert.r_l0 @bdI (callA C n) n (pdt_Engine_Insert.l0 n m0) = pdt_Engine_Insert.l0 n (m0 + 1) := by
  funext v0 v3 v8 v9 v10 H
  unfold pdt_Engine_Insert.r_l0
  rewrite [pdt_Engine_Insert.r_p1_e]
  kernel_rfl
noncomputable def pdt_Engine_Insert.r_l0_lp (bd : B3) (call : FuncId → List V → Heap → Option R) (n : Nat) (m : Nat) : V → V → V → V → V → Heap → Option R := Nat.rec (motive := fun _ => V → V → V → V → V → Heap → Option R) (fun _ _ _ _ _ _ => none) (fun _ self => pdt_Engine_Insert.r_l0 bd call n self) m
theorem pdt_Engine_Insert.r_l0_lp_e (n : Nat) : pdt_Engine_Insert.r_l0_lp @bdI (callA C n) n = pdt_Engine_Insert.l0 n := by
  funext m
  induction m with
  | zero => funext v0 v3 v8 v9 v10 H; kernel_rfl
  | succ k ih => exact (congrArg (pdt_Engine_Insert.r_l0 @bdI (callA C n) n) ih).trans (pdt_Engine_Insert.r_l0_e n k)
noncomputable def pdt_Engine_Insert.r (bd : B3) (call : FuncId → List V → Heap → Option R) (n : Nat) (v0 v1 : V) (H : Heap) : Option R :=
 (bd (boxA ty_api_Point v1) fun o1 =>
 (bd (eqlA P ty_p_pdt_Engine v0 (.ptr none)) fun t13_2 =>
 (bd (asB t13_2) fun b3 =>
 if b3 = true then
 (some (.tuple [(.int .i64 (-1)), (.int .i64 10)], (H.push o1)))
 else
 (bd (ldN 2 (.ptr (some (H.n, 0))) (H.push o1)) fun t16_4 =>
 (bd (call 22 [v0, t16_4] (H.push o1)) fun r5 =>
 (bd (unA .not r5.1) fun t18_6 =>
 (bd (asB t18_6) fun b7 =>
 if b7 = true then
 (some (.tuple [(.int .i64 (-1)), (.int .i64 11)], r5.2))
 else
 (bd (nilC v0) fun t21_8 =>
 (bd (faA 3 t21_8) fun t22_9 =>
 (bd (ld1 t22_9 (r5.2.more 0)) fun t23_10 =>
 (bd (ldN 2 (.ptr (some (H.n, 0))) (r5.2.more 0)) fun t24_11 =>
 (bd (lookM P ty_api_Point (.int .i64 0) t23_10 t24_11 true (r5.2.more 0)) fun t25_12 =>
 (bd (extA t25_12 0) fun t26_13 =>
 (bd (extA t25_12 1) fun t27_14 =>
 (bd (asB t27_14) fun b15 =>
 if b15 = true then
 (some (.tuple [(.int .i64 (-1)), (.int .i64 12)], (r5.2.more 0)))
 else
 (bd (nilC v0) fun t30_16 =>
 (bd (faA 2 t30_16) fun t31_17 =>
 (bd (ld1 t31_17 ((r5.2.more 0).more 0)) fun t32_18 =>
 (bd (lenMap t32_18 ((r5.2.more 0).more 0)) fun t33_19 =>
 (bd (nilC v0) fun t35_20 =>
 (bd (faA 1 t35_20) fun t36_21 =>
 (bd (ld1 t36_21 ((r5.2.more 0).more 0)) fun t37_22 =>
 (bd (arA .geq t33_19 t37_22) fun t38_23 =>
 (bd (asB t38_23) fun b24 =>
 if b24 = true then
 (some (.tuple [(.int .i64 (-1)), (.int .i64 13)], ((r5.2.more 0).more 0)))
 else
 (bd (nilC v0) fun t40_25 =>
 (bd (faA 4 t40_25) fun t41_26 =>
 (bd (ld1 t41_26 ((r5.2.more 0).more 0)) fun t42_27 =>
 (bd (nilC v0) fun t45_28 =>
 (bd (faA 2 t45_28) fun t46_29 =>
 (bd (ld1 t46_29 ((r5.2.more 0).more 0)) fun t47_30 =>
 (bd (lookM P ty_int (.agg [(.int .i64 0), (.int .i64 0)]) t47_30 t42_27 true ((r5.2.more 0).more 0)) fun t49_31 =>
 (bd (extA t49_31 0) fun t50_32 =>
 (bd (extA t49_31 1) fun t51_33 =>
 (bd (stA 2 (.ptr (some (((r5.2.more 0).more 0).n, 0))) t50_32 (((r5.2.more 0).more 0).push (.cells [(.int .i64 0), (.int .i64 0)] ty_api_Point false))) fun H34 =>
 (pdt_Engine_Insert.r_l0_lp bd call n n v0 (.ptr (some (H.n, 0))) t42_27 (.ptr (some (((r5.2.more 0).more 0).n, 0))) t51_33 H34)))))))))))))))))))))))))))))))))))
theorem pdt_Engine_Insert.r_e (n : Nat) (v0 v1 : V) (H : Heap) : pdt_Engine_Insert.r @bdI (callA C n) n v0 v1 H = E C n 11 [] (argsA 0 [v0, v1]) H (kR C 11) := by
  unfold pdt_Engine_Insert.r
  rewrite [pdt_Engine_Insert.r_l0_lp_e]
  kernel_rfl
noncomputable def pdt_Engine_Insert.rf (bd : B3) (call : FuncId → List V → Heap → Option R) (n : Nat) (a : List V) (H : Heap) : Option R := (match a with | [v0, v1] => pdt_Engine_Insert.r bd call n v0 v1 H | a => E C n 11 [] (argsA 0 a) H (kR C 11))
theorem pdt_Engine_Insert.rf_b (n : Nat) (a : List V) (H : Heap) : (match a with | [v0, v1] => pdt_Engine_Insert.r @bdI (callA C n) n v0 v1 H | a => E C n 11 [] (argsA 0 a) H (kR C 11)) = E C n 11 [] (argsA 0 a) H (kR C 11) := by
  split
  · exact pdt_Engine_Insert.r_e n _ _ H
  · rfl
theorem pdt_Engine_Insert.rf_e (n : Nat) (a : List V) (H : Heap) : pdt_Engine_Insert.rf @bdI (callA C n) n a H = callA C (n + 1) 11 a H := by
  unfold pdt_Engine_Insert.rf
  refine (pdt_Engine_Insert.rf_b n a H).trans ?_
  kernel_rfl
noncomputable def pdt_Engine_Dump.r (bd : B3) (call : FuncId → List V → Heap → Option R) (n : Nat) (v0 : V) (H : Heap) : Option R :=
 (bd (eqlA P ty_p_pdt_Engine v0 (.ptr none)) fun t4_1 =>
 (bd (asB t4_1) fun b2 =>
 if b2 = true then
 (bd (flA [(0, 1), (1, 1), (2, 1)] [(.int .i64 0), (.slice ⟨none, 0, 0, false⟩), (.slice ⟨none, 0, 0, false⟩)] []) fun t5_3 =>
 (bd (stA 3 (.ptr (some (H.n, 0))) t5_3 (H.push (.cells [(.int .i64 0), (.slice ⟨none, 0, 0, false⟩), (.slice ⟨none, 0, 0, false⟩)] ty_api_Dump false))) fun H4 =>
 (bd (ldN 3 (.ptr (some (H.n, 0))) H4) fun t5 =>
 (frzR t5 H4))))
 else
 (bd (nilC v0) fun t7_6 =>
 (bd (faA 6 t7_6) fun t8_7 =>
 (bd (ld1 t8_7 (H.push (.cells [(.int .i64 0), (.slice ⟨none, 0, 0, false⟩), (.slice ⟨none, 0, 0, false⟩)] ty_api_Dump false))) fun t9_8 =>
 (bd (nilC t9_8) fun t10_9 =>
 (bd (faA 0 t10_9) fun t11_10 =>
 (bd (ld1 t11_10 (H.push (.cells [(.int .i64 0), (.slice ⟨none, 0, 0, false⟩), (.slice ⟨none, 0, 0, false⟩)] ty_api_Dump false))) fun t12_11 =>
 (bd (call 26 [t12_11] (H.push (.cells [(.int .i64 0), (.slice ⟨none, 0, 0, false⟩), (.slice ⟨none, 0, 0, false⟩)] ty_api_Dump false))) fun r12 =>
 (bd (stA 3 (.ptr (some (H.n, 0))) r12.1 r12.2) fun H13 =>
 (bd (ldN 3 (.ptr (some (H.n, 0))) H13) fun t14 =>
 (frzR t14 H13))))))))))))
theorem pdt_Engine_Dump.r_e (n : Nat) (v0 : V) (H : Heap) : pdt_Engine_Dump.r @bdI (callA C n) n v0 H = E C n 18 [] (argsA 0 [v0]) H (kR C 18) := by
  unfold pdt_Engine_Dump.r
  kernel_rfl
noncomputable def pdt_Engine_Dump.rf (bd : B3) (call : FuncId → List V → Heap → Option R) (n : Nat) (a : List V) (H : Heap) : Option R := (match a with | [v0] => pdt_Engine_Dump.r bd call n v0 H | a => E C n 18 [] (argsA 0 a) H (kR C 18))
theorem pdt_Engine_Dump.rf_b (n : Nat) (a : List V) (H : Heap) : (match a with | [v0] => pdt_Engine_Dump.r @bdI (callA C n) n v0 H | a => E C n 18 [] (argsA 0 a) H (kR C 18)) = E C n 18 [] (argsA 0 a) H (kR C 18) := by
  split
  · exact pdt_Engine_Dump.r_e n _ H
  · rfl
theorem pdt_Engine_Dump.rf_e (n : Nat) (a : List V) (H : Heap) : pdt_Engine_Dump.rf @bdI (callA C n) n a H = callA C (n + 1) 18 a H := by
  unfold pdt_Engine_Dump.rf
  refine (pdt_Engine_Dump.rf_b n a H).trans ?_
  kernel_rfl
noncomputable def pdt_Engine_clear.r (bd : B3) (call : FuncId → List V → Heap → Option R) (n : Nat) (v0 : V) (H : Heap) : Option R :=
 (bd (nilC v0) fun t3_1 =>
 (bd (faA 2 t3_1) fun t4_2 =>
 (bd (ld1 t4_2 H) fun t5_3 =>
 (bd (clrM t5_3 H) fun H4 =>
 (bd (nilC v0) fun t7_5 =>
 (bd (faA 3 t7_5) fun t8_6 =>
 (bd (ld1 t8_6 H4) fun t9_7 =>
 (bd (clrM t9_7 H4) fun H8 =>
 (bd (nilC v0) fun t11_9 =>
 (bd (faA 4 t11_9) fun t12_10 =>
 (bd (stA 1 t12_10 (.int .i64 0) H8) fun H11 =>
 (bd (nilC v0) fun t16_12 =>
 (bd (faA 0 t16_12) fun t17_13 =>
 (bd (ld1 t17_13 (H11.more 0)) fun t18_14 =>
 (bd (call 28 [t18_14] (H11.more 0)) fun r15 =>
 (bd (nilC v0) fun t21_16 =>
 (bd (faA 0 t21_16) fun t22_17 =>
 (bd (ld1 t22_17 r15.2) fun t23_18 =>
 (bd (chk (ld1 t22_17 (H11.more 0)) t23_18) fun _ =>
 (bd (call 27 [r15.1, t23_18] r15.2) fun r19 =>
 (bd (nilC v0) fun t25_20 =>
 (bd (faA 5 t25_20) fun t26_21 =>
 (bd (stA 1 t26_21 (.int .i64 0) r19.2) fun H22 =>
 (bd (nilC v0) fun t27_23 =>
 (bd (faA 6 t27_23) fun t28_24 =>
 (bd (stA 1 t28_24 r19.1 H22) fun H25 =>
 (some (.tuple [], H25))))))))))))))))))))))))))))
theorem pdt_Engine_clear.r_e (n : Nat) (v0 : V) (H : Heap) : pdt_Engine_clear.r @bdI (callA C n) n v0 H = E C n 19 [] (argsA 0 [v0]) H (kR C 19) := by
  unfold pdt_Engine_clear.r
  kernel_rfl
noncomputable def pdt_Engine_clear.rf (bd : B3) (call : FuncId → List V → Heap → Option R) (n : Nat) (a : List V) (H : Heap) : Option R := (match a with | [v0] => pdt_Engine_clear.r bd call n v0 H | a => E C n 19 [] (argsA 0 a) H (kR C 19))
theorem pdt_Engine_clear.rf_b (n : Nat) (a : List V) (H : Heap) : (match a with | [v0] => pdt_Engine_clear.r @bdI (callA C n) n v0 H | a => E C n 19 [] (argsA 0 a) H (kR C 19)) = E C n 19 [] (argsA 0 a) H (kR C 19) := by
  split
  · exact pdt_Engine_clear.r_e n _ H
  · rfl
theorem pdt_Engine_clear.rf_e (n : Nat) (a : List V) (H : Heap) : pdt_Engine_clear.rf @bdI (callA C n) n a H = callA C (n + 1) 19 a H := by
  unfold pdt_Engine_clear.rf
  refine (pdt_Engine_clear.rf_b n a H).trans ?_
  kernel_rfl
noncomputable def pdt_Engine_site.r (bd : B3) (call : FuncId → List V → Heap → Option R) (n : Nat) (v0 v1 : V) (H : Heap) : Option R :=
 (bd (boxA ty_api_Point v1) fun o1 =>
 (bd (faA 0 (.ptr (some (H.n, 0)))) fun t5_2 =>
 (bd (ld1 t5_2 ((H.push o1).more 0)) fun t6_3 =>
 (bd (arA .geq t6_3 (.int .i64 0)) fun t7_4 =>
 (bd (asB t7_4) fun b5 =>
 if b5 = true then
 (bd (faA 0 (.ptr (some (H.n, 0)))) fun t9_6 =>
 (bd (ld1 t9_6 ((H.push o1).more 0)) fun t10_7 =>
 (bd (nilC v0) fun t12_8 =>
 (bd (faA 0 t12_8) fun t13_9 =>
 (bd (ld1 t13_9 ((H.push o1).more 0)) fun t14_10 =>
 (bd (arA .lss t10_7 t14_10) fun t15_11 =>
 (bd (asB t15_11) fun b12 =>
 if b12 = true then
 (bd (faA 1 (.ptr (some (H.n, 0)))) fun t18_13 =>
 (bd (ld1 t18_13 ((H.push o1).more 0)) fun t19_14 =>
 (bd (arA .geq t19_14 (.int .i64 0)) fun t20_15 =>
 (bd (asB t20_15) fun b16 =>
 if b16 = true then
 (bd (faA 1 (.ptr (some (H.n, 0)))) fun t23_17 =>
 (bd (ld1 t23_17 ((H.push o1).more 0)) fun t24_18 =>
 (bd (nilC v0) fun t26_19 =>
 (bd (faA 0 t26_19) fun t27_20 =>
 (bd (ld1 t27_20 ((H.push o1).more 0)) fun t28_21 =>
 (bd (arA .lss t24_18 t28_21) fun t29_22 =>
 (some (t29_22, ((H.push o1).more 0)))))))))
 else
 (some ((.bool false), ((H.push o1).more 0)))))))
 else
 (some ((.bool false), ((H.push o1).more 0))))))))))
 else
 (some ((.bool false), ((H.push o1).more 0))))))))
theorem pdt_Engine_site.r_e (n : Nat) (v0 v1 : V) (H : Heap) : pdt_Engine_site.r @bdI (callA C n) n v0 v1 H = E C n 22 [] (argsA 0 [v0, v1]) H (kR C 22) := by
  unfold pdt_Engine_site.r
  kernel_rfl
noncomputable def pdt_Engine_site.rf (bd : B3) (call : FuncId → List V → Heap → Option R) (n : Nat) (a : List V) (H : Heap) : Option R := (match a with | [v0, v1] => pdt_Engine_site.r bd call n v0 v1 H | a => E C n 22 [] (argsA 0 a) H (kR C 22))
theorem pdt_Engine_site.rf_b (n : Nat) (a : List V) (H : Heap) : (match a with | [v0, v1] => pdt_Engine_site.r @bdI (callA C n) n v0 v1 H | a => E C n 22 [] (argsA 0 a) H (kR C 22)) = E C n 22 [] (argsA 0 a) H (kR C 22) := by
  split
  · exact pdt_Engine_site.r_e n _ _ H
  · rfl
theorem pdt_Engine_site.rf_e (n : Nat) (a : List V) (H : Heap) : pdt_Engine_site.rf @bdI (callA C n) n a H = callA C (n + 1) 22 a H := by
  unfold pdt_Engine_site.rf
  refine (pdt_Engine_site.rf_b n a H).trans ?_
  kernel_rfl
@[irreducible] noncomputable def mesh_Mesh_Dump.l0 (n m0 : Nat) (v0 v2 v3 v20 v21 v22 : V) (H : Heap) : Option R := Lp C n 26 [1, 1, 1, 0, 1, 0, 0] m0 [(0, v0), (2, v2), (3, v3), (20, v20), (21, v21), (22, v22)] H (kB 0 (kC C n 26 [1, 1, 1, 1] (kR C 26)))
@[irreducible] noncomputable def mesh_Mesh_Dump.p1 (n : Nat) (v0 v2 v3 : V) (H : Heap) : Option R := E C n 26 [1, 1, 1, 1] [(0, v0), (2, v2), (3, v3)] H (kR C 26)
@[irreducible] noncomputable def mesh_Mesh_Dump.l2 (n m0 : Nat) (v0 v2 v3 v43 v44 v45 : V) (H : Heap) : Option R := Lp C n 26 [1, 1, 1, 1, 0, 1, 0, 0] m0 [(0, v0), (2, v2), (3, v3), (43, v43), (44, v44), (45, v45)] H (kB 2 (kC C n 26 [1, 1, 1, 1, 1] (kR C 26)))
noncomputable def mesh_Mesh_Dump.r_l2 (bd : B3) (call : FuncId → List V → Heap → Option R) (n : Nat) (s0 : V → V → V → V → V → V → Heap → Option R) (v0 v2 v3 v43 v44 v45 : V) (H : Heap) : Option R :=
 (bd (arA .lss v45 v44) fun t46_1 =>
 (bd (asB t46_1) fun b2 =>
 if b2 = true then
 (bd (idxS 1 v43 v45) fun t47_3 =>
 (bd (ld1 t47_3 H) fun t48_4 =>
 (bd (faA 2 v3) fun t49_5 =>
 (bd (ld1 t49_5 (H.more 1)) fun t50_6 =>
 (bd (nilC v0) fun t53_7 =>
 (bd (faA 4 t53_7) fun t54_8 =>
 (bd (ld1 t54_8 (H.more 1)) fun t55_9 =>
 (bd (idxS 9 t55_9 t48_4) fun t57_10 =>
 (bd (ldN 9 t57_10 (H.more 1)) fun t58_11 =>
 (bd (flA [(0, 1), (1, 9)] [(.int .i64 0), (.int .i64 0), (.int .i64 0), (.int .i64 0), (.int .i64 0), (.int .i64 0), (.int .i64 0), (.int .i64 0), (.int .i64 0), (.int .i64 0)] [(0, t48_4), (1, t58_11)]) fun t59_12 =>
 (bd (bSl 10 ty_api_Cell [(.int .i64 0), (.int .i64 0), (.int .i64 0), (.int .i64 0), (.int .i64 0), (.int .i64 0), (.int .i64 0), (.int .i64 0), (.int .i64 0), (.int .i64 0)] 1 [(0, t59_12)]) fun o13 =>
 (bd (appA 10 80 ty_api_Cell t50_6 (.slice ⟨some ((H.n + 0), 0), 1, 10, false⟩) ((H.more 1).set (H.n + 0) o13)) fun p14 =>
 (bd (faA 2 v3) fun t62_15 =>
 (bd (stA 1 t62_15 p14.1 p14.2) fun H16 =>
 (bd (arA .add v45 (.int .i64 1)) fun t63_17 =>
 (s0 v0 v2 v3 v43 v44 t63_17 H16))))))))))))))))
 else
 (bd (ldN 3 v3 H) fun t64_18 =>
 (bd (stA 3 v2 t64_18 H) fun H19 =>
 (bd (ldN 3 v2 H19) fun t20 =>
 (frzR t20 H19))))))
theorem mesh_Mesh_Dump.r_l2_e (n m0 : Nat) : mesh_Mesh_Dump.r_l2 @bdI (callA C n) n (mesh_Mesh_Dump.l2 n m0) = mesh_Mesh_Dump.l2 n (m0 + 1) := by
  funext v0 v2 v3 v43 v44 v45 H
  unfold mesh_Mesh_Dump.r_l2
  kernel_rfl
noncomputable def mesh_Mesh_Dump.r_l2_lp (bd : B3) (call : FuncId → List V → Heap → Option R) (n : Nat) (m : Nat) : V → V → V → V → V → V → Heap → Option R := Nat.rec (motive := fun _ => V → V → V → V → V → V → Heap → Option R) (fun _ _ _ _ _ _ _ => none) (fun _ self => mesh_Mesh_Dump.r_l2 bd call n self) m
theorem mesh_Mesh_Dump.r_l2_lp_e (n : Nat) : mesh_Mesh_Dump.r_l2_lp @bdI (callA C n) n = mesh_Mesh_Dump.l2 n := by
  funext m
  induction m with
  | zero => funext v0 v2 v3 v43 v44 v45 H; kernel_rfl
  | succ k ih => exact (congrArg (mesh_Mesh_Dump.r_l2 @bdI (callA C n) n) ih).trans (mesh_Mesh_Dump.r_l2_e n k)
noncomputable def mesh_Mesh_Dump.r_p1 (bd : B3) (call : FuncId → List V → Heap → Option R) (n : Nat) (v0 v2 v3 : V) (H : Heap) : Option R :=
 (bd (nilC v0) fun t40_1 =>
 (bd (faA 2 t40_1) fun t41_2 =>
 (bd (ld1 t41_2 H) fun t42_3 =>
 (bd (call 38 [t42_3] H) fun r4 =>
 (bd (lenSl r4.1) fun t44_5 =>
 (mesh_Mesh_Dump.r_l2_lp bd call n n v0 v2 v3 r4.1 t44_5 (.int .i64 0) r4.2))))))
theorem mesh_Mesh_Dump.r_p1_e (n : Nat) : mesh_Mesh_Dump.r_p1 @bdI (callA C n) n = mesh_Mesh_Dump.p1 n := by
  funext v0 v2 v3 H
  unfold mesh_Mesh_Dump.r_p1
  rewrite [mesh_Mesh_Dump.r_l2_lp_e]
  kernel_rfl
noncomputable def mesh_Mesh_Dump.r_l0 (bd : B3) (call : FuncId → List V → Heap → Option R) (n : Nat) (s0 : V → V → V → V → V → V → Heap → Option R) (v0 v2 v3 v20 v21 v22 : V) (H : Heap) : Option R :=
 (bd (arA .lss v22 v21) fun t23_1 =>
 (bd (asB t23_1) fun b2 =>
 if b2 = true then
 (bd (idxS 1 v20 v22) fun t24_3 =>
 (bd (ld1 t24_3 H) fun t25_4 =>
 (bd (faA 1 v3) fun t26_5 =>
 (bd (ld1 t26_5 (H.more 1)) fun t27_6 =>
 (bd (nilC v0) fun t29_7 =>
 (bd (faA 3 t29_7) fun t30_8 =>
 (bd (ld1 t30_8 (H.more 1)) fun t31_9 =>
 (bd (idxS 4 t31_9 t25_4) fun t33_10 =>
 (bd (ldN 4 t33_10 (H.more 1)) fun t34_11 =>
 (bd (bSl 4 ty_api_Vert [(.int .i64 0), (.int .i64 0), (.int .i64 0), (.int .i64 0)] 1 [(0, t34_11)]) fun o12 =>
 (bd (appA 4 32 ty_api_Vert t27_6 (.slice ⟨some ((H.n + 0), 0), 1, 4, false⟩) ((H.more 1).set (H.n + 0) o12)) fun p13 =>
 (bd (faA 1 v3) fun t37_14 =>
 (bd (stA 1 t37_14 p13.1 p13.2) fun H15 =>
 (bd (arA .add v22 (.int .i64 1)) fun t38_16 =>
 (s0 v0 v2 v3 v20 v21 t38_16 H15)))))))))))))))
 else
 (mesh_Mesh_Dump.r_p1 bd call n v0 v2 v3 H)))
theorem mesh_Mesh_Dump.r_l0_e (n m0 : Nat) : mesh_Mesh_Dump.r_l0 @bdI (callA C n) n (mesh_Mesh_Dump.l0 n m0) = mesh_Mesh_Dump.l0 n (m0 + 1) := by
  funext v0 v2 v3 v20 v21 v22 H
  unfold mesh_Mesh_Dump.r_l0
  rewrite [mesh_Mesh_Dump.r_p1_e]
  kernel_rfl
noncomputable def mesh_Mesh_Dump.r_l0_lp (bd : B3) (call : FuncId → List V → Heap → Option R) (n : Nat) (m : Nat) : V → V → V → V → V → V → Heap → Option R := Nat.rec (motive := fun _ => V → V → V → V → V → V → Heap → Option R) (fun _ _ _ _ _ _ _ => none) (fun _ self => mesh_Mesh_Dump.r_l0 bd call n self) m
theorem mesh_Mesh_Dump.r_l0_lp_e (n : Nat) : mesh_Mesh_Dump.r_l0_lp @bdI (callA C n) n = mesh_Mesh_Dump.l0 n := by
  funext m
  induction m with
  | zero => funext v0 v2 v3 v20 v21 v22 H; kernel_rfl
  | succ k ih => exact (congrArg (mesh_Mesh_Dump.r_l0 @bdI (callA C n) n) ih).trans (mesh_Mesh_Dump.r_l0_e n k)
noncomputable def mesh_Mesh_Dump.r (bd : B3) (call : FuncId → List V → Heap → Option R) (n : Nat) (v0 : V) (H : Heap) : Option R :=
 (bd (eqlA P ty_p_mesh_Mesh v0 (.ptr none)) fun t9_1 =>
 (bd (asB t9_1) fun b2 =>
 if b2 = true then
 (bd (flA [(0, 1), (1, 1), (2, 1)] [(.int .i64 0), (.slice ⟨none, 0, 0, false⟩), (.slice ⟨none, 0, 0, false⟩)] []) fun t10_3 =>
 (bd (stA 3 (.ptr (some (H.n, 0))) t10_3 (H.push (.cells [(.int .i64 0), (.slice ⟨none, 0, 0, false⟩), (.slice ⟨none, 0, 0, false⟩)] ty_api_Dump false))) fun H4 =>
 (bd (ldN 3 (.ptr (some (H.n, 0))) H4) fun t5 =>
 (frzR t5 H4))))
 else
 (bd (nilC v0) fun t12_6 =>
 (bd (faA 0 t12_6) fun t13_7 =>
 (bd (ld1 t13_7 (H.push (.cells [(.int .i64 0), (.slice ⟨none, 0, 0, false⟩), (.slice ⟨none, 0, 0, false⟩)] ty_api_Dump false))) fun t14_8 =>
 (bd (flA [(0, 1), (1, 1), (2, 1)] [(.int .i64 0), (.slice ⟨none, 0, 0, false⟩), (.slice ⟨none, 0, 0, false⟩)] [(0, t14_8)]) fun t15_9 =>
 (bd (stA 3 (.ptr (some ((H.push (.cells [(.int .i64 0), (.slice ⟨none, 0, 0, false⟩), (.slice ⟨none, 0, 0, false⟩)] ty_api_Dump false)).n, 0))) t15_9 ((H.push (.cells [(.int .i64 0), (.slice ⟨none, 0, 0, false⟩), (.slice ⟨none, 0, 0, false⟩)] ty_api_Dump false)).push (.cells [(.int .i64 0), (.slice ⟨none, 0, 0, false⟩), (.slice ⟨none, 0, 0, false⟩)] ty_api_Dump false))) fun H10 =>
 (bd (nilC v0) fun t17_11 =>
 (bd (faA 1 t17_11) fun t18_12 =>
 (bd (ld1 t18_12 H10) fun t19_13 =>
 (bd (call 38 [t19_13] H10) fun r14 =>
 (bd (lenSl r14.1) fun t21_15 =>
 (mesh_Mesh_Dump.r_l0_lp bd call n n v0 (.ptr (some (H.n, 0))) (.ptr (some ((H.push (.cells [(.int .i64 0), (.slice ⟨none, 0, 0, false⟩), (.slice ⟨none, 0, 0, false⟩)] ty_api_Dump false)).n, 0))) r14.1 t21_15 (.int .i64 0) r14.2)))))))))))))
theorem mesh_Mesh_Dump.r_e (n : Nat) (v0 : V) (H : Heap) : mesh_Mesh_Dump.r @bdI (callA C n) n v0 H = E C n 26 [] (argsA 0 [v0]) H (kR C 26) := by
  unfold mesh_Mesh_Dump.r
  rewrite [mesh_Mesh_Dump.r_l0_lp_e]
  kernel_rfl
noncomputable def mesh_Mesh_Dump.rf (bd : B3) (call : FuncId → List V → Heap → Option R) (n : Nat) (a : List V) (H : Heap) : Option R := (match a with | [v0] => mesh_Mesh_Dump.r bd call n v0 H | a => E C n 26 [] (argsA 0 a) H (kR C 26))
theorem mesh_Mesh_Dump.rf_b (n : Nat) (a : List V) (H : Heap) : (match a with | [v0] => mesh_Mesh_Dump.r @bdI (callA C n) n v0 H | a => E C n 26 [] (argsA 0 a) H (kR C 26)) = E C n 26 [] (argsA 0 a) H (kR C 26) := by
  split
  · exact mesh_Mesh_Dump.r_e n _ H
  · rfl
theorem mesh_Mesh_Dump.rf_e (n : Nat) (a : List V) (H : Heap) : mesh_Mesh_Dump.rf @bdI (callA C n) n a H = callA C (n + 1) 26 a H := by
  unfold mesh_Mesh_Dump.rf
  refine (mesh_Mesh_Dump.rf_b n a H).trans ?_
  kernel_rfl
@[irreducible] noncomputable def pdt_lay.l0 (n m0 : Nat) (v5 v6 v23 v24 v25 : V) (H : Heap) : Option R := Lp C n 27 [1, 1, 1, 0, 1, 0, 0] m0 [(5, v5), (6, v6), (23, v23), (24, v24), (25, v25)] H (kB 0 (kC C n 27 [1, 1, 1, 1] (kR C 27)))
@[irreducible] noncomputable def pdt_lay.p1 (n : Nat) (v5 v6 : V) (H : Heap) : Option R := E C n 27 [1, 1, 1, 1] [(5, v5), (6, v6)] H (kR C 27)
@[irreducible] noncomputable def pdt_lay.l2 (n m0 : Nat) (v5 v57 v58 v59 : V) (H : Heap) : Option R := Lp C n 27 [1, 1, 1, 1, 0, 1, 0, 0] m0 [(5, v5), (57, v57), (58, v58), (59, v59)] H (kB 2 (kC C n 27 [1, 1, 1, 1, 1] (kR C 27)))
noncomputable def pdt_lay.r_l2 (bd : B3) (call : FuncId → List V → Heap → Option R) (n : Nat) (s0 : V → V → V → V → Heap → Option R) (v5 v57 v58 v59 : V) (H : Heap) : Option R :=
 (bd (arA .lss v59 v58) fun t60_1 =>
 (bd (asB t60_1) fun b2 =>
 if b2 = true then
 (bd (idxS 10 v57 v59) fun t61_3 =>
 (bd (ldN 10 t61_3 H) fun t62_4 =>
 (bd (stA 10 (.ptr (some (H.n, 0))) t62_4 (H.push (.cells [(.int .i64 0), (.int .i64 0), (.int .i64 0), (.int .i64 0), (.int .i64 0), (.int .i64 0), (.int .i64 0), (.int .i64 0), (.int .i64 0), (.int .i64 0)] ty_api_Cell false))) fun H5 =>
 (bd (faA 0 (.ptr (some (H.n, 0)))) fun t64_6 =>
 (bd (ld1 t64_6 H5) fun t65_7 =>
 (bd (bSl 1 ty_int [(.int .i64 0)] 1 [(0, t65_7)]) fun o8 =>
 (bd (call 42 [v5, (.slice ⟨some (H5.n, 0), 1, 1, false⟩)] (H5.push o8)) fun r9 =>
 (bd (arA .add v59 (.int .i64 1)) fun t68_10 =>
 (s0 v5 v57 v58 t68_10 r9.2)))))))))
 else
 (some (v5, H))))
theorem pdt_lay.r_l2_e (n m0 : Nat) : pdt_lay.r_l2 @bdI (callA C n) n (pdt_lay.l2 n m0) = pdt_lay.l2 n (m0 + 1) := by
  funext v5 v57 v58 v59 H
  unfold pdt_lay.r_l2
  kernel_rfl
noncomputable def pdt_lay.r_l2_lp (bd : B3) (call : FuncId → List V → Heap → Option R) (n : Nat) (m : Nat) : V → V → V → V → Heap → Option R := Nat.rec (motive := fun _ => V → V → V → V → Heap → Option R) (fun _ _ _ _ _ => none) (fun _ self => pdt_lay.r_l2 bd call n self) m
theorem pdt_lay.r_l2_lp_e (n : Nat) : pdt_lay.r_l2_lp @bdI (callA C n) n = pdt_lay.l2 n := by
  funext m
  induction m with
  | zero => funext v5 v57 v58 v59 H; kernel_rfl
  | succ k ih => exact (congrArg (pdt_lay.r_l2 @bdI (callA C n) n) ih).trans (pdt_lay.r_l2_e n k)
noncomputable def pdt_lay.r_p1 (bd : B3) (call : FuncId → List V → Heap → Option R) (n : Nat) (v5 v6 : V) (H : Heap) : Option R :=
 (bd (faA 2 v6) fun t56_1 =>
 (bd (ld1 t56_1 H) fun t57_2 =>
 (bd (lenSl t57_2) fun t58_3 =>
 (pdt_lay.r_l2_lp bd call n n v5 t57_2 t58_3 (.int .i64 0) H))))
theorem pdt_lay.r_p1_e (n : Nat) : pdt_lay.r_p1 @bdI (callA C n) n = pdt_lay.p1 n := by
  funext v5 v6 H
  unfold pdt_lay.r_p1
  rewrite [pdt_lay.r_l2_lp_e]
  kernel_rfl
noncomputable def pdt_lay.r_l0 (bd : B3) (call : FuncId → List V → Heap → Option R) (n : Nat) (s0 : V → V → V → V → V → Heap → Option R) (v5 v6 v23 v24 v25 : V) (H : Heap) : Option R :=
 (bd (arA .lss v25 v24) fun t26_1 =>
 (bd (asB t26_1) fun b2 =>
 if b2 = true then
 (bd (idxS 4 v23 v25) fun t27_3 =>
 (bd (ldN 4 t27_3 H) fun t28_4 =>
 (bd (stA 4 (.ptr (some (H.n, 0))) t28_4 (H.push (.cells [(.int .i64 0), (.int .i64 0), (.int .i64 0), (.int .i64 0)] ty_api_Vert false))) fun H5 =>
 (bd (nilC v5) fun t30_6 =>
 (bd (faA 1 t30_6) fun t31_7 =>
 (bd (ld1 t31_7 (H5.more 0)) fun t32_8 =>
 (bd (faA 0 (.ptr (some (H.n, 0)))) fun t33_9 =>
 (bd (ld1 t33_9 (H5.more 0)) fun t34_10 =>
 (bd (faA 1 (.ptr (some (H.n, 0)))) fun t35_11 =>
 (bd (ldN 2 t35_11 (H5.more 0)) fun t36_12 =>
 (bd (call 41 [t32_8, t34_10, t36_12] (H5.more 0)) fun r13 =>
 (bd (nilC v5) fun t45_14 =>
 (bd (faA 4 t45_14) fun t46_15 =>
 (bd (ld1 t46_15 (r13.2.more 1)) fun t47_16 =>
 (bd (faA 3 (.ptr (some (H.n, 0)))) fun t48_17 =>
 (bd (ld1 t48_17 (r13.2.more 1)) fun t49_18 =>
 (bd (lookM P ty_int (.slice ⟨none, 0, 0, false⟩) t47_16 t49_18 false (r13.2.more 1)) fun t50_19 =>
 (bd (faA 0 (.ptr (some (H.n, 0)))) fun t51_20 =>
 (bd (ld1 t51_20 (r13.2.more 1)) fun t52_21 =>
 (bd (bSl 1 ty_int [(.int .i64 0)] 1 [(0, t52_21)]) fun o22 =>
 (bd (appA 1 8 ty_int t50_19 (.slice ⟨some ((r13.2.n + 0), 0), 1, 1, false⟩) ((r13.2.more 1).set (r13.2.n + 0) o22)) fun p23 =>
 (bd (nilC v5) fun t39_24 =>
 (bd (faA 4 t39_24) fun t40_25 =>
 (bd (ld1 t40_25 p23.2) fun t41_26 =>
 (bd (chk (ld1 t40_25 (r13.2.more 1)) t41_26) fun _ =>
 (bd (faA 3 (.ptr (some (H.n, 0)))) fun t42_27 =>
 (bd (ld1 t42_27 p23.2) fun t43_28 =>
 (bd (chk (ld1 t42_27 (r13.2.more 1)) t43_28) fun _ =>
 (bd (updM P ty_int t41_26 t43_28 p23.1 p23.2) fun H29 =>
 (bd (arA .add v25 (.int .i64 1)) fun t55_30 =>
 (s0 v5 v6 v23 v24 t55_30 H29)))))))))))))))))))))))))))))))
 else
 (pdt_lay.r_p1 bd call n v5 v6 H)))
theorem pdt_lay.r_l0_e (n m0 : Nat) : pdt_lay.r_l0 @bdI (callA C n) n (pdt_lay.l0 n m0) = pdt_lay.l0 n (m0 + 1) := by
  funext v5 v6 v23 v24 v25 H
  unfold pdt_lay.r_l0
  rewrite [pdt_lay.r_p1_e]
  kernel_rfl
noncomputable def pdt_lay.r_l0_lp (bd : B3) (call : FuncId → List V → Heap → Option R) (n : Nat) (m : Nat) : V → V → V → V → V → Heap → Option R := Nat.rec (motive := fun _ => V → V → V → V → V → Heap → Option R) (fun _ _ _ _ _ _ => none) (fun _ self => pdt_lay.r_l0 bd call n self) m
theorem pdt_lay.r_l0_lp_e (n : Nat) : pdt_lay.r_l0_lp @bdI (callA C n) n = pdt_lay.l0 n := by
  funext m
  induction m with
  | zero => funext v5 v6 v23 v24 v25 H; kernel_rfl
  | succ k ih => exact (congrArg (pdt_lay.r_l0 @bdI (callA C n) n) ih).trans (pdt_lay.r_l0_e n k)
noncomputable def pdt_lay.r (bd : B3) (call : FuncId → List V → Heap → Option R) (n : Nat) (v0 v1 : V) (H : Heap) : Option R :=
 (bd (call 40 [v0] H) fun r1 =>
 (bd (call 39 [r1.1, (.int .i64 16)] r1.2) fun r2 =>
 (bd (flA [(0, 1), (1, 1), (2, 1), (3, 1), (4, 1)] [(.ptr none), (.ptr none), (.int .i64 0), (.map none), (.map none)] [(0, v0), (1, r2.1), (2, v1), (3, (.map (some r2.2.n))), (4, (.map (some (r2.2.push (.map [] 0)).n)))]) fun t18_3 =>
 (bd (boxA ty_pdt_sheet t18_3) fun o4 =>
 (bd (call 26 [v0] (((r2.2.push (.map [] 0)).push (.map [] 0)).push o4)) fun r5 =>
 (bd (stA 3 (.ptr (some (r5.2.n, 0))) r5.1 (r5.2.push (.cells [(.int .i64 0), (.slice ⟨none, 0, 0, false⟩), (.slice ⟨none, 0, 0, false⟩)] ty_api_Dump false))) fun H6 =>
 (bd (faA 1 (.ptr (some (r5.2.n, 0)))) fun t22_7 =>
 (bd (ld1 t22_7 H6) fun t23_8 =>
 (bd (lenSl t23_8) fun t24_9 =>
 (pdt_lay.r_l0_lp bd call n n (.ptr (some (((r2.2.push (.map [] 0)).push (.map [] 0)).n, 0))) (.ptr (some (r5.2.n, 0))) t23_8 t24_9 (.int .i64 0) H6))))))))))
theorem pdt_lay.r_e (n : Nat) (v0 v1 : V) (H : Heap) : pdt_lay.r @bdI (callA C n) n v0 v1 H = E C n 27 [] (argsA 0 [v0, v1]) H (kR C 27) := by
  unfold pdt_lay.r
  rewrite [pdt_lay.r_l0_lp_e]
  kernel_rfl
noncomputable def pdt_lay.rf (bd : B3) (call : FuncId → List V → Heap → Option R) (n : Nat) (a : List V) (H : Heap) : Option R := (match a with | [v0, v1] => pdt_lay.r bd call n v0 v1 H | a => E C n 27 [] (argsA 0 a) H (kR C 27))
theorem pdt_lay.rf_b (n : Nat) (a : List V) (H : Heap) : (match a with | [v0, v1] => pdt_lay.r @bdI (callA C n) n v0 v1 H | a => E C n 27 [] (argsA 0 a) H (kR C 27)) = E C n 27 [] (argsA 0 a) H (kR C 27) := by
  split
  · exact pdt_lay.r_e n _ _ H
  · rfl
theorem pdt_lay.rf_e (n : Nat) (a : List V) (H : Heap) : pdt_lay.rf @bdI (callA C n) n a H = callA C (n + 1) 27 a H := by
  unfold pdt_lay.rf
  refine (pdt_lay.rf_b n a H).trans ?_
  kernel_rfl
noncomputable def mesh_New.r (bd : B3) (call : FuncId → List V → Heap → Option R) (n : Nat) (v0 : V) (H : Heap) : Option R :=
 (bd (arA .lss v0 (.int .i64 1)) fun t4_1 =>
 (bd (asB t4_1) fun b2 =>
 if b2 = true then
 (some ((.ptr none), H))
 else
 (bd (arA .gtr v0 (.int .i64 17179869184)) fun t7_3 =>
 (bd (asB t7_3) fun b4 =>
 if b4 = true then
 (some ((.ptr none), H))
 else
 (bd (call 43 [] H) fun r5 =>
 (bd (call 43 [] r5.2) fun r6 =>
 (bd (flA [(0, 1), (1, 1), (2, 1), (3, 1), (4, 1), (5, 1), (6, 1)] [(.int .i64 0), (.ptr none), (.ptr none), (.slice ⟨none, 0, 0, false⟩), (.slice ⟨none, 0, 0, false⟩), (.map none), (.map none)] [(0, v0), (1, r5.1), (2, r6.1), (5, (.map (some r6.2.n))), (6, (.map (some (r6.2.push (.map [] 0)).n)))]) fun t14_7 =>
 (bd (boxA ty_mesh_Mesh t14_7) fun o8 =>
 (some ((.ptr (some (((r6.2.push (.map [] 0)).push (.map [] 0)).n, 0))), (((r6.2.push (.map [] 0)).push (.map [] 0)).push o8)))))))))))
theorem mesh_New.r_e (n : Nat) (v0 : V) (H : Heap) : mesh_New.r @bdI (callA C n) n v0 H = E C n 28 [] (argsA 0 [v0]) H (kR C 28) := by
  unfold mesh_New.r
  kernel_rfl
noncomputable def mesh_New.rf (bd : B3) (call : FuncId → List V → Heap → Option R) (n : Nat) (a : List V) (H : Heap) : Option R := (match a with | [v0] => mesh_New.r bd call n v0 H | a => E C n 28 [] (argsA 0 a) H (kR C 28))
theorem mesh_New.rf_b (n : Nat) (a : List V) (H : Heap) : (match a with | [v0] => mesh_New.r @bdI (callA C n) n v0 H | a => E C n 28 [] (argsA 0 a) H (kR C 28)) = E C n 28 [] (argsA 0 a) H (kR C 28) := by
  split
  · exact mesh_New.r_e n _ H
  · rfl
theorem mesh_New.rf_e (n : Nat) (a : List V) (H : Heap) : mesh_New.rf @bdI (callA C n) n a H = callA C (n + 1) 28 a H := by
  unfold mesh_New.rf
  refine (mesh_New.rf_b n a H).trans ?_
  kernel_rfl
noncomputable def pdt_Engine_first.r (bd : B3) (call : FuncId → List V → Heap → Option R) (n : Nat) (v0 v1 v2 : V) (H : Heap) : Option R :=
 (bd (boxA ty_api_Point v2) fun o1 =>
 (bd (nilC v0) fun t8_2 =>
 (bd (faA 0 t8_2) fun t9_3 =>
 (bd (ld1 t9_3 (H.push o1)) fun t10_4 =>
 (bd (call 28 [t10_4] (H.push o1)) fun r5 =>
 (bd (ldN 2 (.ptr (some (H.n, 0))) r5.2) fun t13_6 =>
 (bd (call 54 [r5.1, t13_6, v1] r5.2) fun r7 =>
 (bd (flA [(0, 1), (1, 1)] [(.int .i64 0), (.int .i64 0)] []) fun t17_8 =>
 (bd (flA [(0, 1), (1, 1)] [(.int .i64 0), (.int .i64 0)] [(0, (.int .i64 1))]) fun t18_9 =>
 (bd (flA [(0, 1), (1, 1)] [(.int .i64 0), (.int .i64 0)] [(1, (.int .i64 1))]) fun t19_10 =>
 (bd (flE 2 [(.int .i64 0), (.int .i64 0), (.int .i64 0), (.int .i64 0), (.int .i64 0), (.int .i64 0)] [(0, t17_8), (1, t18_9), (2, t19_10)]) fun t20_11 =>
 (bd (flA [(0, 3), (3, 6)] [(.int .i64 0), (.int .i64 0), (.int .i64 0), (.int .i64 0), (.int .i64 0), (.int .i64 0), (.int .i64 0), (.int .i64 0), (.int .i64 0)] [(1, t20_11)]) fun t21_12 =>
 (bd (call 55 [r5.1, t21_12] r7.2) fun r13 =>
 (bd (flA [(0, 1), (1, 1)] [(.int .i64 0), (.int .i64 0)] [(0, (.int .i64 1))]) fun t24_14 =>
 (bd (flA [(0, 1), (1, 1)] [(.int .i64 0), (.int .i64 0)] [(0, (.int .i64 1)), (1, (.int .i64 1))]) fun t25_15 =>
 (bd (flA [(0, 1), (1, 1)] [(.int .i64 0), (.int .i64 0)] [(1, (.int .i64 1))]) fun t26_16 =>
 (bd (flE 2 [(.int .i64 0), (.int .i64 0), (.int .i64 0), (.int .i64 0), (.int .i64 0), (.int .i64 0)] [(0, t24_14), (1, t25_15), (2, t26_16)]) fun t27_17 =>
 (bd (flA [(0, 3), (3, 6)] [(.int .i64 0), (.int .i64 0), (.int .i64 0), (.int .i64 0), (.int .i64 0), (.int .i64 0), (.int .i64 0), (.int .i64 0), (.int .i64 0)] [(1, t27_17)]) fun t28_18 =>
 (bd (call 55 [r5.1, t28_18] r13.2) fun r19 =>
 (bd (call 36 [r5.1] (r19.2.more 0)) fun r20 =>
 (bd (nilC v0) fun t35_21 =>
 (bd (faA 0 t35_21) fun t36_22 =>
 (bd (ld1 t36_22 r20.2) fun t37_23 =>
 (bd (chk (ld1 t36_22 (r19.2.more 0)) t37_23) fun _ =>
 (bd (call 27 [r20.1, t37_23] r20.2) fun r24 =>
 (bd (nilC v0) fun t39_25 =>
 (bd (faA 6 t39_25) fun t40_26 =>
 (bd (stA 1 t40_26 r24.1 r24.2) fun H27 =>
 (bd (nilC v0) fun t41_28 =>
 (bd (faA 5 t41_28) fun t42_29 =>
 (bd (stA 1 t42_29 (.int .i64 3) H27) fun H30 =>
 (some (.tuple [], H30)))))))))))))))))))))))))))))))))
theorem pdt_Engine_first.r_e (n : Nat) (v0 v1 v2 : V) (H : Heap) : pdt_Engine_first.r @bdI (callA C n) n v0 v1 v2 H = E C n 31 [] (argsA 0 [v0, v1, v2]) H (kR C 31) := by
  unfold pdt_Engine_first.r
  kernel_rfl
noncomputable def pdt_Engine_first.rf (bd : B3) (call : FuncId → List V → Heap → Option R) (n : Nat) (a : List V) (H : Heap) : Option R := (match a with | [v0, v1, v2] => pdt_Engine_first.r bd call n v0 v1 v2 H | a => E C n 31 [] (argsA 0 a) H (kR C 31))
theorem pdt_Engine_first.rf_b (n : Nat) (a : List V) (H : Heap) : (match a with | [v0, v1, v2] => pdt_Engine_first.r @bdI (callA C n) n v0 v1 v2 H | a => E C n 31 [] (argsA 0 a) H (kR C 31)) = E C n 31 [] (argsA 0 a) H (kR C 31) := by
  split
  · exact pdt_Engine_first.r_e n _ _ _ H
  · rfl
theorem pdt_Engine_first.rf_e (n : Nat) (a : List V) (H : Heap) : pdt_Engine_first.rf @bdI (callA C n) n a H = callA C (n + 1) 31 a H := by
  unfold pdt_Engine_first.rf
  refine (pdt_Engine_first.rf_b n a H).trans ?_
  kernel_rfl
end Go.AM.L
end
section
set_option linter.unusedVariables false
set_option linter.unusedSimpArgs false
set_option maxRecDepth 1000000
set_option linter.unusedVariables false
namespace Go.AM.L
noncomputable def lift_At.r (bd : B3) (call : FuncId → List V → Heap → Option R) (n : Nat) (v0 v1 v2 : V) (H : Heap) : Option R :=
 (bd (boxA ty_api_Point v0) fun o1 =>
 (bd (boxA ty_api_Off v1) fun o2 =>
 (bd (ldN 2 (.ptr (some (H.n, 0))) (((H.push o1).push o2).push (.cells [(.int .i64 0), (.int .i64 0)] ty_api_Point false))) fun t8_3 =>
 (bd (ldN 2 (.ptr (some ((H.push o1).n, 0))) (((H.push o1).push o2).push (.cells [(.int .i64 0), (.int .i64 0)] ty_api_Point false))) fun t9_4 =>
 (bd (call 61 [t8_3, t9_4, v2] (((H.push o1).push o2).push (.cells [(.int .i64 0), (.int .i64 0)] ty_api_Point false))) fun r5 =>
 (bd (extA r5.1 0) fun t12_6 =>
 (bd (extA r5.1 1) fun t13_7 =>
 (bd (stA 2 (.ptr (some (((H.push o1).push o2).n, 0))) t12_6 r5.2) fun H8 =>
 (bd (ldN 2 (.ptr (some (((H.push o1).push o2).n, 0))) H8) fun t9 =>
 (some (.tuple [t9, t13_7], H8)))))))))))
theorem lift_At.r_e (n : Nat) (v0 v1 v2 : V) (H : Heap) : lift_At.r @bdI (callA C n) n v0 v1 v2 H = E C n 33 [] (argsA 0 [v0, v1, v2]) H (kR C 33) := by
  unfold lift_At.r
  kernel_rfl
noncomputable def lift_At.rf (bd : B3) (call : FuncId → List V → Heap → Option R) (n : Nat) (a : List V) (H : Heap) : Option R := pureA a H fun a => (match a with | [v0, v1, v2] => lift_At.r bd call n v0 v1 v2 ⟨0, .nil⟩ | a => E C n 33 [] (argsA 0 a) ⟨0, .nil⟩ (kR C 33))
theorem lift_At.rf_b (n : Nat) (a : List V) (H : Heap) : (match a with | [v0, v1, v2] => lift_At.r @bdI (callA C n) n v0 v1 v2 H | a => E C n 33 [] (argsA 0 a) H (kR C 33)) = E C n 33 [] (argsA 0 a) H (kR C 33) := by
  split
  · exact lift_At.r_e n _ _ _ H
  · rfl
theorem lift_At.rf_e (n : Nat) (a : List V) (H : Heap) : lift_At.rf @bdI (callA C n) n a H = callA C (n + 1) 33 a H := by
  unfold lift_At.rf
  refine (congrArg (pureA a H) (funext fun a => lift_At.rf_b n a ⟨0, .nil⟩)).trans ?_
  kernel_rfl
noncomputable def pdt_Engine_fewer.r (bd : B3) (call : FuncId → List V → Heap → Option R) (n : Nat) (v0 : V) (H : Heap) : Option R :=
 (bd (nilC v0) fun t5_1 =>
 (bd (faA 5 t5_1) fun t6_2 =>
 (bd (ld1 t6_2 H) fun t7_3 =>
 (bd (arA .neq t7_3 (.int .i64 3)) fun t8_4 =>
 (bd (asB t8_4) fun b5 =>
 if b5 = true then
 (some (.tuple [], H))
 else
 (bd (nilC v0) fun t11_6 =>
 (bd (faA 6 t11_6) fun t12_7 =>
 (bd (ld1 t12_7 H) fun t13_8 =>
 (bd (nilC t13_8) fun t14_9 =>
 (bd (faA 3 t14_9) fun t15_10 =>
 (bd (ld1 t15_10 H) fun t16_11 =>
 (bd (lenMap t16_11 H) fun t17_12 =>
 (bd (arA .gtr t17_12 (.int .i64 0)) fun t18_13 =>
 (bd (asB t18_13) fun b14 =>
 if b14 = true then
 (some (.tuple [], H))
 else
 (bd (nilC v0) fun t22_15 =>
 (bd (faA 6 t22_15) fun t23_16 =>
 (bd (ld1 t23_16 H) fun t24_17 =>
 (bd (nilC t24_17) fun t25_18 =>
 (bd (faA 0 t25_18) fun t26_19 =>
 (bd (ld1 t26_19 H) fun t27_20 =>
 (bd (call 62 [t27_20] H) fun r21 =>
 (bd (extA r21.1 0) fun t29_22 =>
 (bd (extA r21.1 1) fun t30_23 =>
 (bd (asB t30_23) fun b24 =>
 if b24 = true then
 (bd (nilC v0) fun t36_25 =>
 (bd (faA 0 t36_25) fun t37_26 =>
 (bd (ld1 t37_26 r21.2) fun t38_27 =>
 (bd (call 27 [t29_22, t38_27] r21.2) fun r28 =>
 (bd (nilC v0) fun t40_29 =>
 (bd (faA 6 t40_29) fun t41_30 =>
 (bd (stA 1 t41_30 r28.1 r28.2) fun H31 =>
 (bd (nilC v0) fun t42_32 =>
 (bd (faA 5 t42_32) fun t43_33 =>
 (bd (stA 1 t43_33 (.int .i64 1) H31) fun H34 =>
 (some (.tuple [], H34))))))))))))
 else
 (some (.tuple [], r21.2))))))))))))))))))))))))))
theorem pdt_Engine_fewer.r_e (n : Nat) (v0 : V) (H : Heap) : pdt_Engine_fewer.r @bdI (callA C n) n v0 H = E C n 34 [] (argsA 0 [v0]) H (kR C 34) := by
  unfold pdt_Engine_fewer.r
  kernel_rfl
noncomputable def pdt_Engine_fewer.rf (bd : B3) (call : FuncId → List V → Heap → Option R) (n : Nat) (a : List V) (H : Heap) : Option R := (match a with | [v0] => pdt_Engine_fewer.r bd call n v0 H | a => E C n 34 [] (argsA 0 a) H (kR C 34))
theorem pdt_Engine_fewer.rf_b (n : Nat) (a : List V) (H : Heap) : (match a with | [v0] => pdt_Engine_fewer.r @bdI (callA C n) n v0 H | a => E C n 34 [] (argsA 0 a) H (kR C 34)) = E C n 34 [] (argsA 0 a) H (kR C 34) := by
  split
  · exact pdt_Engine_fewer.r_e n _ H
  · rfl
theorem pdt_Engine_fewer.rf_e (n : Nat) (a : List V) (H : Heap) : pdt_Engine_fewer.rf @bdI (callA C n) n a H = callA C (n + 1) 34 a H := by
  unfold pdt_Engine_fewer.rf
  refine (pdt_Engine_fewer.rf_b n a H).trans ?_
  kernel_rfl
@[irreducible] noncomputable def arena_Arena_All.l0 (n m0 : Nat) (v0 v3 v11 v12 : V) (H : Heap) : Option R := Lp C n 38 [1, 1, 1, 0, 1, 0, 0] m0 [(0, v0), (3, v3), (11, v11), (12, v12)] H (kB 0 (kC C n 38 [1, 1, 1, 1] (kR C 38)))
noncomputable def arena_Arena_All.r_l0 (bd : B3) (call : FuncId → List V → Heap → Option R) (n : Nat) (s0 : V → V → V → V → Heap → Option R) (v0 v3 v11 v12 : V) (H : Heap) : Option R :=
 (bd (arA .lss v12 v11) fun t13_1 =>
 (bd (asB t13_1) fun b2 =>
 if b2 = true then
 (bd (call 72 [v0, v12] H) fun r3 =>
 (bd (asB r3.1) fun b4 =>
 if b4 = true then
 (bd (bSl 1 ty_int [(.int .i64 0)] 1 [(0, v12)]) fun o5 =>
 (bd (appA 1 8 ty_int v3 (.slice ⟨some (r3.2.n, 0), 1, 1, false⟩) (r3.2.push o5)) fun p6 =>
 (bd (arA .add v12 (.int .i64 1)) fun t22_7 =>
 (s0 v0 p6.1 v11 t22_7 p6.2))))
 else
 (bd (arA .add v12 (.int .i64 1)) fun t22_8 =>
 (s0 v0 v3 v11 t22_8 r3.2))))
 else
 (frzR v3 H)))
theorem arena_Arena_All.r_l0_e (n m0 : Nat) : arena_Arena_All.r_l0 @bdI (callA C n) n (arena_Arena_All.l0 n m0) = arena_Arena_All.l0 n (m0 + 1) := by
  funext v0 v3 v11 v12 H
  unfold arena_Arena_All.r_l0
  kernel_rfl
noncomputable def arena_Arena_All.r_l0_lp (bd : B3) (call : FuncId → List V → Heap → Option R) (n : Nat) (m : Nat) : V → V → V → V → Heap → Option R := Nat.rec (motive := fun _ => V → V → V → V → Heap → Option R) (fun _ _ _ _ _ => none) (fun _ self => arena_Arena_All.r_l0 bd call n self) m
theorem arena_Arena_All.r_l0_lp_e (n : Nat) : arena_Arena_All.r_l0_lp @bdI (callA C n) n = arena_Arena_All.l0 n := by
  funext m
  induction m with
  | zero => funext v0 v3 v11 v12 H; kernel_rfl
  | succ k ih => exact (congrArg (arena_Arena_All.r_l0 @bdI (callA C n) n) ih).trans (arena_Arena_All.r_l0_e n k)
noncomputable def arena_Arena_All.r (bd : B3) (call : FuncId → List V → Heap → Option R) (n : Nat) (v0 : V) (H : Heap) : Option R :=
 (bd (eqlA P ty_p_arena_Arena v0 (.ptr none)) fun t6_1 =>
 (bd (asB t6_1) fun b2 =>
 if b2 = true then
 (frzR (.slice ⟨none, 0, 0, false⟩) H)
 else
 (bd (nilC v0) fun t8_3 =>
 (bd (faA 0 t8_3) fun t9_4 =>
 (bd (ld1 t9_4 H) fun t10_5 =>
 (bd (lenSl t10_5) fun t11_6 =>
 (arena_Arena_All.r_l0_lp bd call n n v0 (.slice ⟨none, 0, 0, false⟩) t11_6 (.int .i64 0) H)))))))
theorem arena_Arena_All.r_e (n : Nat) (v0 : V) (H : Heap) : arena_Arena_All.r @bdI (callA C n) n v0 H = E C n 38 [] (argsA 0 [v0]) H (kR C 38) := by
  unfold arena_Arena_All.r
  rewrite [arena_Arena_All.r_l0_lp_e]
  kernel_rfl
noncomputable def arena_Arena_All.rf (bd : B3) (call : FuncId → List V → Heap → Option R) (n : Nat) (a : List V) (H : Heap) : Option R := (match a with | [v0] => arena_Arena_All.r bd call n v0 H | a => E C n 38 [] (argsA 0 a) H (kR C 38))
theorem arena_Arena_All.rf_b (n : Nat) (a : List V) (H : Heap) : (match a with | [v0] => arena_Arena_All.r @bdI (callA C n) n v0 H | a => E C n 38 [] (argsA 0 a) H (kR C 38)) = E C n 38 [] (argsA 0 a) H (kR C 38) := by
  split
  · exact arena_Arena_All.r_e n _ H
  · rfl
theorem arena_Arena_All.rf_e (n : Nat) (a : List V) (H : Heap) : arena_Arena_All.rf @bdI (callA C n) n a H = callA C (n + 1) 38 a H := by
  unfold arena_Arena_All.rf
  refine (arena_Arena_All.rf_b n a H).trans ?_
  kernel_rfl
noncomputable def bucket_New.r (bd : B3) (call : FuncId → List V → Heap → Option R) (n : Nat) (v0 v1 : V) (H : Heap) : Option R :=
 (bd (arA .lss v0 (.int .i64 1)) fun t6_1 =>
 (bd (asB t6_1) fun b2 =>
 if b2 = true then
 (some ((.ptr none), H))
 else
 (bd (arA .gtr v0 (.int .i64 17179869184)) fun t9_3 =>
 (bd (asB t9_3) fun b4 =>
 if b4 = true then
 (some ((.ptr none), H))
 else
 (bd (arA .lss v1 (.int .i64 1)) fun t13_5 =>
 (bd (asB t13_5) fun b6 =>
 if b6 = true then
 (some ((.ptr none), H))
 else
 (bd (arA .gtr v1 (.int .i64 64)) fun t17_7 =>
 (bd (asB t17_7) fun b8 =>
 if b8 = true then
 (some ((.ptr none), H))
 else
 (bd (arA .mul v1 v1) fun t23_9 =>
 (bd (mkSl 1 24 ty_sl_int [(.slice ⟨none, 0, 0, false⟩)] t23_9 t23_9) fun o10 =>
 (bd (flA [(0, 1), (1, 1), (2, 1), (3, 1)] [(.int .i64 0), (.int .i64 0), (.slice ⟨none, 0, 0, false⟩), (.int .i64 0)] [(0, v0), (1, v1), (2, (.slice ⟨some (H.n, 0), o10.2, 1, false⟩))]) fun t25_11 =>
 (bd (boxA ty_bucket_Grid t25_11) fun o12 =>
 (some ((.ptr (some ((H.push o10.1).n, 0))), ((H.push o10.1).push o12)))))))))))))))
theorem bucket_New.r_e (n : Nat) (v0 v1 : V) (H : Heap) : bucket_New.r @bdI (callA C n) n v0 v1 H = E C n 39 [] (argsA 0 [v0, v1]) H (kR C 39) := by
  unfold bucket_New.r
  kernel_rfl
noncomputable def bucket_New.rf (bd : B3) (call : FuncId → List V → Heap → Option R) (n : Nat) (a : List V) (H : Heap) : Option R := (match a with | [v0, v1] => bucket_New.r bd call n v0 v1 H | a => E C n 39 [] (argsA 0 a) H (kR C 39))
theorem bucket_New.rf_b (n : Nat) (a : List V) (H : Heap) : (match a with | [v0, v1] => bucket_New.r @bdI (callA C n) n v0 v1 H | a => E C n 39 [] (argsA 0 a) H (kR C 39)) = E C n 39 [] (argsA 0 a) H (kR C 39) := by
  split
  · exact bucket_New.r_e n _ _ H
  · rfl
theorem bucket_New.rf_e (n : Nat) (a : List V) (H : Heap) : bucket_New.rf @bdI (callA C n) n a H = callA C (n + 1) 39 a H := by
  unfold bucket_New.rf
  refine (bucket_New.rf_b n a H).trans ?_
  kernel_rfl
noncomputable def mesh_Mesh_Side.r (bd : B3) (call : FuncId → List V → Heap → Option R) (n : Nat) (v0 : V) (H : Heap) : Option R :=
 (bd (eqlA P ty_p_mesh_Mesh v0 (.ptr none)) fun t4_1 =>
 (bd (asB t4_1) fun b2 =>
 if b2 = true then
 (some ((.int .i64 0), H))
 else
 (bd (nilC v0) fun t6_3 =>
 (bd (faA 0 t6_3) fun t7_4 =>
 (bd (ld1 t7_4 H) fun t8_5 =>
 (some (t8_5, H)))))))
theorem mesh_Mesh_Side.r_e (n : Nat) (v0 : V) (H : Heap) : mesh_Mesh_Side.r @bdI (callA C n) n v0 H = E C n 40 [] (argsA 0 [v0]) H (kR C 40) := by
  unfold mesh_Mesh_Side.r
  kernel_rfl
noncomputable def mesh_Mesh_Side.rf (bd : B3) (call : FuncId → List V → Heap → Option R) (n : Nat) (a : List V) (H : Heap) : Option R := (match a with | [v0] => mesh_Mesh_Side.r bd call n v0 H | a => E C n 40 [] (argsA 0 a) H (kR C 40))
theorem mesh_Mesh_Side.rf_b (n : Nat) (a : List V) (H : Heap) : (match a with | [v0] => mesh_Mesh_Side.r @bdI (callA C n) n v0 H | a => E C n 40 [] (argsA 0 a) H (kR C 40)) = E C n 40 [] (argsA 0 a) H (kR C 40) := by
  split
  · exact mesh_Mesh_Side.r_e n _ H
  · rfl
theorem mesh_Mesh_Side.rf_e (n : Nat) (a : List V) (H : Heap) : mesh_Mesh_Side.rf @bdI (callA C n) n a H = callA C (n + 1) 40 a H := by
  unfold mesh_Mesh_Side.rf
  refine (mesh_Mesh_Side.rf_b n a H).trans ?_
  kernel_rfl
noncomputable def bucket_Grid_Put.r (bd : B3) (call : FuncId → List V → Heap → Option R) (n : Nat) (v0 v1 v2 : V) (H : Heap) : Option R :=
 (bd (boxA ty_api_Point v2) fun o1 =>
 (bd (ldN 2 (.ptr (some (H.n, 0))) (H.push o1)) fun t12_2 =>
 (bd (call 73 [v0, t12_2] (H.push o1)) fun r3 =>
 (bd (extA r3.1 0) fun t14_4 =>
 (bd (extA r3.1 1) fun t15_5 =>
 (bd (extA r3.1 2) fun t16_6 =>
 (bd (asB t16_6) fun b7 =>
 if b7 = true then
 (bd (call 74 [v0, t14_4, t15_5] r3.2) fun r8 =>
 (bd (nilC v0) fun t28_9 =>
 (bd (faA 2 t28_9) fun t29_10 =>
 (bd (ld1 t29_10 (r8.2.more 1)) fun t30_11 =>
 (bd (idxS 1 t30_11 r8.1) fun t32_12 =>
 (bd (ld1 t32_12 (r8.2.more 1)) fun t33_13 =>
 (bd (bSl 1 ty_int [(.int .i64 0)] 1 [(0, v1)]) fun o14 =>
 (bd (appA 1 8 ty_int t33_13 (.slice ⟨some ((r8.2.n + 0), 0), 1, 1, false⟩) ((r8.2.more 1).set (r8.2.n + 0) o14)) fun p15 =>
 (bd (nilC v0) fun t23_16 =>
 (bd (faA 2 t23_16) fun t24_17 =>
 (bd (ld1 t24_17 p15.2) fun t25_18 =>
 (bd (chk (ld1 t24_17 (r8.2.more 1)) t25_18) fun _ =>
 (bd (idxS 1 t25_18 r8.1) fun t37_19 =>
 (bd (stA 1 t37_19 p15.1 p15.2) fun H20 =>
 (bd (nilC v0) fun t39_21 =>
 (bd (faA 3 t39_21) fun t40_22 =>
 (bd (ld1 t40_22 H20) fun t41_23 =>
 (bd (arA .add t41_23 (.int .i64 1)) fun t42_24 =>
 (bd (nilC v0) fun t43_25 =>
 (bd (faA 3 t43_25) fun t44_26 =>
 (bd (stA 1 t44_26 t42_24 H20) fun H27 =>
 (some (.tuple [], H27)))))))))))))))))))))))
 else
 (some (.tuple [], r3.2)))))))))
theorem bucket_Grid_Put.r_e (n : Nat) (v0 v1 v2 : V) (H : Heap) : bucket_Grid_Put.r @bdI (callA C n) n v0 v1 v2 H = E C n 41 [] (argsA 0 [v0, v1, v2]) H (kR C 41) := by
  unfold bucket_Grid_Put.r
  kernel_rfl
noncomputable def bucket_Grid_Put.rf (bd : B3) (call : FuncId → List V → Heap → Option R) (n : Nat) (a : List V) (H : Heap) : Option R := (match a with | [v0, v1, v2] => bucket_Grid_Put.r bd call n v0 v1 v2 H | a => E C n 41 [] (argsA 0 a) H (kR C 41))
theorem bucket_Grid_Put.rf_b (n : Nat) (a : List V) (H : Heap) : (match a with | [v0, v1, v2] => bucket_Grid_Put.r @bdI (callA C n) n v0 v1 v2 H | a => E C n 41 [] (argsA 0 a) H (kR C 41)) = E C n 41 [] (argsA 0 a) H (kR C 41) := by
  split
  · exact bucket_Grid_Put.r_e n _ _ _ H
  · rfl
theorem bucket_Grid_Put.rf_e (n : Nat) (a : List V) (H : Heap) : bucket_Grid_Put.rf @bdI (callA C n) n a H = callA C (n + 1) 41 a H := by
  unfold bucket_Grid_Put.rf
  refine (bucket_Grid_Put.rf_b n a H).trans ?_
  kernel_rfl
@[irreducible] noncomputable def pdt_sheet_count.l0 (n m0 : Nat) (v0 v6 v7 v8 : V) (H : Heap) : Option R := Lp C n 42 [1, 0, 0] m0 [(0, v0), (6, v6), (7, v7), (8, v8)] H (kB 0 (kR C 42))
noncomputable def pdt_sheet_count.r_l0 (bd : B3) (call : FuncId → List V → Heap → Option R) (n : Nat) (s0 : V → V → V → V → Heap → Option R) (v0 v6 v7 v8 : V) (H : Heap) : Option R :=
 (bd (arA .lss v8 v7) fun t9_1 =>
 (bd (asB t9_1) fun b2 =>
 if b2 = true then
 (bd (idxS 1 v6 v8) fun t10_3 =>
 (bd (ld1 t10_3 H) fun t11_4 =>
 (bd (call 75 [v0, t11_4] H) fun r5 =>
 (bd (asB r5.1) fun b6 =>
 if b6 = true then
 (bd (nilC v0) fun t16_7 =>
 (bd (faA 3 t16_7) fun t17_8 =>
 (bd (ld1 t17_8 r5.2) fun t18_9 =>
 (bd (updM P ty_int t18_9 t11_4 (.bool true) r5.2) fun H10 =>
 (bd (arA .add v8 (.int .i64 1)) fun t20_11 =>
 (s0 v0 v6 v7 t20_11 H10))))))
 else
 (bd (arA .add v8 (.int .i64 1)) fun t20_12 =>
 (s0 v0 v6 v7 t20_12 r5.2))))))
 else
 (some (.tuple [], H))))
theorem pdt_sheet_count.r_l0_e (n m0 : Nat) : pdt_sheet_count.r_l0 @bdI (callA C n) n (pdt_sheet_count.l0 n m0) = pdt_sheet_count.l0 n (m0 + 1) := by
  funext v0 v6 v7 v8 H
  unfold pdt_sheet_count.r_l0
  kernel_rfl
noncomputable def pdt_sheet_count.r_l0_lp (bd : B3) (call : FuncId → List V → Heap → Option R) (n : Nat) (m : Nat) : V → V → V → V → Heap → Option R := Nat.rec (motive := fun _ => V → V → V → V → Heap → Option R) (fun _ _ _ _ _ => none) (fun _ self => pdt_sheet_count.r_l0 bd call n self) m
theorem pdt_sheet_count.r_l0_lp_e (n : Nat) : pdt_sheet_count.r_l0_lp @bdI (callA C n) n = pdt_sheet_count.l0 n := by
  funext m
  induction m with
  | zero => funext v0 v6 v7 v8 H; kernel_rfl
  | succ k ih => exact (congrArg (pdt_sheet_count.r_l0 @bdI (callA C n) n) ih).trans (pdt_sheet_count.r_l0_e n k)
noncomputable def pdt_sheet_count.r (bd : B3) (call : FuncId → List V → Heap → Option R) (n : Nat) (v0 v1 : V) (H : Heap) : Option R :=
 (bd (lenSl v1) fun t7_1 =>
 (pdt_sheet_count.r_l0_lp bd call n n v0 v1 t7_1 (.int .i64 0) H))
theorem pdt_sheet_count.r_e (n : Nat) (v0 v1 : V) (H : Heap) : pdt_sheet_count.r @bdI (callA C n) n v0 v1 H = E C n 42 [] (argsA 0 [v0, v1]) H (kR C 42) := by
  unfold pdt_sheet_count.r
  rewrite [pdt_sheet_count.r_l0_lp_e]
  kernel_rfl
noncomputable def pdt_sheet_count.rf (bd : B3) (call : FuncId → List V → Heap → Option R) (n : Nat) (a : List V) (H : Heap) : Option R := inA true a H fun a H => (match a with | [v0, v1] => pdt_sheet_count.r bd call n v0 v1 H | a => E C n 42 [] (argsA 0 a) H (kR C 42))
theorem pdt_sheet_count.rf_b (n : Nat) (a : List V) (H : Heap) : (match a with | [v0, v1] => pdt_sheet_count.r @bdI (callA C n) n v0 v1 H | a => E C n 42 [] (argsA 0 a) H (kR C 42)) = E C n 42 [] (argsA 0 a) H (kR C 42) := by
  split
  · exact pdt_sheet_count.r_e n _ _ H
  · rfl
theorem pdt_sheet_count.rf_e (n : Nat) (a : List V) (H : Heap) : pdt_sheet_count.rf @bdI (callA C n) n a H = callA C (n + 1) 42 a H := by
  unfold pdt_sheet_count.rf
  refine (congrArg (inA true a H) (funext fun a => funext fun H => pdt_sheet_count.rf_b n a H)).trans ?_
  kernel_rfl
noncomputable def arena_New.r (bd : B3) (call : FuncId → List V → Heap → Option R) (n : Nat) (H : Heap) : Option R :=
 (bd (flA [(0, 1), (1, 1), (2, 1)] [(.slice ⟨none, 0, 0, false⟩), (.int .i64 0), (.int .i64 0)] [(1, (.int .i64 (-1)))]) fun t1_1 =>
 (bd (boxA ty_arena_Arena t1_1) fun o2 =>
 (some ((.ptr (some (H.n, 0))), (H.push o2)))))
theorem arena_New.r_e (n : Nat) (H : Heap) : arena_New.r @bdI (callA C n) n H = E C n 43 [] (argsA 0 []) H (kR C 43) := by
  unfold arena_New.r
  kernel_rfl
noncomputable def arena_New.rf (bd : B3) (call : FuncId → List V → Heap → Option R) (n : Nat) (a : List V) (H : Heap) : Option R := (match a with | [] => arena_New.r bd call n H | a => E C n 43 [] (argsA 0 a) H (kR C 43))
theorem arena_New.rf_b (n : Nat) (a : List V) (H : Heap) : (match a with | [] => arena_New.r @bdI (callA C n) n H | a => E C n 43 [] (argsA 0 a) H (kR C 43)) = E C n 43 [] (argsA 0 a) H (kR C 43) := by
  split
  · exact arena_New.r_e n H
  · rfl
theorem arena_New.rf_e (n : Nat) (a : List V) (H : Heap) : arena_New.rf @bdI (callA C n) n a H = callA C (n + 1) 43 a H := by
  unfold arena_New.rf
  refine (arena_New.rf_b n a H).trans ?_
  kernel_rfl
@[irreducible] noncomputable def math_bits_Len32.p0 (n : Nat) (v0 v2 : V) (H : Heap) : Option R := E C n 52 [1, 1] [(0, v0), (2, v2)] H (kR C 52)
@[irreducible] noncomputable def math_bits_Len32.p1 (n : Nat) (v0 v2 : V) (H : Heap) : Option R := E C n 52 [1, 1, 1] [(0, v0), (2, v2)] H (kR C 52)
noncomputable def math_bits_Len32.r_p1 (bd : B3) (call : FuncId → List V → Heap → Option R) (n : Nat) (v0 v2 : V) (H : Heap) : Option R :=
 (bd (cvInt .u8 v0) fun t15_1 =>
 (bd (ixStr (.str [0, 1, 2, 2, 3, 3, 3, 3, 4, 4, 4, 4, 4, 4, 4, 4, 5, 5, 5, 5, 5, 5, 5, 5, 5, 5, 5, 5, 5, 5, 5, 5, 6, 6, 6, 6, 6, 6, 6, 6, 6, 6, 6, 6, 6, 6, 6, 6, 6, 6, 6, 6, 6, 6, 6, 6, 6, 6, 6, 6, 6, 6, 6, 6, 7, 7, 7, 7, 7, 7, 7, 7, 7, 7, 7, 7, 7, 7, 7, 7, 7, 7, 7, 7, 7, 7, 7, 7, 7, 7, 7, 7, 7, 7, 7, 7, 7, 7, 7, 7, 7, 7, 7, 7, 7, 7, 7, 7, 7, 7, 7, 7, 7, 7, 7, 7, 7, 7, 7, 7, 7, 7, 7, 7, 7, 7, 7, 7, 8, 8, 8, 8, 8, 8, 8, 8, 8, 8, 8, 8, 8, 8, 8, 8, 8, 8, 8, 8, 8, 8, 8, 8, 8, 8, 8, 8, 8, 8, 8, 8, 8, 8, 8, 8, 8, 8, 8, 8, 8, 8, 8, 8, 8, 8, 8, 8, 8, 8, 8, 8, 8, 8, 8, 8, 8, 8, 8, 8, 8, 8, 8, 8, 8, 8, 8, 8, 8, 8, 8, 8, 8, 8, 8, 8, 8, 8, 8, 8, 8, 8, 8, 8, 8, 8, 8, 8, 8, 8, 8, 8, 8, 8, 8, 8, 8, 8, 8, 8, 8, 8, 8, 8, 8, 8, 8, 8, 8, 8, 8, 8, 8, 8, 8, 8, 8, 8, 8, 8, 8, 8, 8, 8, 8, 8, 8, 8]) t15_1) fun t16_2 =>
 (bd (cvInt .i64 t16_2) fun t17_3 =>
 (bd (arA .add v2 t17_3) fun t18_4 =>
 (some (t18_4, H))))))
theorem math_bits_Len32.r_p1_e (n : Nat) : math_bits_Len32.r_p1 @bdI (callA C n) n = math_bits_Len32.p1 n := by
  funext v0 v2 H
  unfold math_bits_Len32.r_p1
  kernel_rfl
noncomputable def math_bits_Len32.r_p0 (bd : B3) (call : FuncId → List V → Heap → Option R) (n : Nat) (v0 v2 : V) (H : Heap) : Option R :=
 (bd (arA .geq v0 (.int .u32 256)) fun t8_1 =>
 (bd (asB t8_1) fun b2 =>
 if b2 = true then
 (bd (shA .shr v0 (.int .u64 8)) fun t10_3 =>
 (bd (arA .add v2 (.int .i64 8)) fun t12_4 =>
 (math_bits_Len32.r_p1 bd call n t10_3 t12_4 H)))
 else
 (math_bits_Len32.r_p1 bd call n v0 v2 H)))
theorem math_bits_Len32.r_p0_e (n : Nat) : math_bits_Len32.r_p0 @bdI (callA C n) n = math_bits_Len32.p0 n := by
  funext v0 v2 H
  unfold math_bits_Len32.r_p0
  rewrite [math_bits_Len32.r_p1_e]
  kernel_rfl
noncomputable def math_bits_Len32.r (bd : B3) (call : FuncId → List V → Heap → Option R) (n : Nat) (v0 : V) (H : Heap) : Option R :=
 (bd (arA .geq v0 (.int .u32 65536)) fun t4_1 =>
 (bd (asB t4_1) fun b2 =>
 if b2 = true then
 (bd (shA .shr v0 (.int .u64 16)) fun t6_3 =>
 (math_bits_Len32.r_p0 bd call n t6_3 (.int .i64 16) H))
 else
 (math_bits_Len32.r_p0 bd call n v0 (.int .i64 0) H)))
theorem math_bits_Len32.r_e (n : Nat) (v0 : V) (H : Heap) : math_bits_Len32.r @bdI (callA C n) n v0 H = E C n 52 [] (argsA 0 [v0]) H (kR C 52) := by
  unfold math_bits_Len32.r
  rewrite [math_bits_Len32.r_p0_e]
  kernel_rfl
noncomputable def math_bits_Len32.rf (bd : B3) (call : FuncId → List V → Heap → Option R) (n : Nat) (a : List V) (H : Heap) : Option R := (match a with | [v0] => math_bits_Len32.r bd call n v0 H | a => E C n 52 [] (argsA 0 a) H (kR C 52))
theorem math_bits_Len32.rf_b (n : Nat) (a : List V) (H : Heap) : (match a with | [v0] => math_bits_Len32.r @bdI (callA C n) n v0 H | a => E C n 52 [] (argsA 0 a) H (kR C 52)) = E C n 52 [] (argsA 0 a) H (kR C 52) := by
  split
  · exact math_bits_Len32.r_e n _ H
  · rfl
theorem math_bits_Len32.rf_e (n : Nat) (a : List V) (H : Heap) : math_bits_Len32.rf @bdI (callA C n) n a H = callA C (n + 1) 52 a H := by
  unfold math_bits_Len32.rf
  refine (math_bits_Len32.rf_b n a H).trans ?_
  kernel_rfl
noncomputable def mesh_Mesh_AddVert.r (bd : B3) (call : FuncId → List V → Heap → Option R) (n : Nat) (v0 v1 v2 : V) (H : Heap) : Option R :=
 (bd (boxA ty_api_Point v1) fun o1 =>
 (bd (eqlA P ty_p_mesh_Mesh v0 (.ptr none)) fun t9_2 =>
 (bd (asB t9_2) fun b3 =>
 if b3 = true then
 (some ((.int .i64 (-1)), ((H.push o1).more 0)))
 else
 (bd (faA 0 (.ptr (some (H.n, 0)))) fun t11_4 =>
 (bd (ld1 t11_4 ((H.push o1).more 0)) fun t12_5 =>
 (bd (arA .lss t12_5 (.int .i64 0)) fun t13_6 =>
 (bd (asB t13_6) fun b7 =>
 if b7 = true then
 (some ((.int .i64 (-1)), ((H.push o1).more 0)))
 else
 (bd (faA 0 (.ptr (some (H.n, 0)))) fun t16_8 =>
 (bd (ld1 t16_8 ((H.push o1).more 0)) fun t17_9 =>
 (bd (nilC v0) fun t19_10 =>
 (bd (faA 0 t19_10) fun t20_11 =>
 (bd (ld1 t20_11 ((H.push o1).more 0)) fun t21_12 =>
 (bd (arA .geq t17_9 t21_12) fun t22_13 =>
 (bd (asB t22_13) fun b14 =>
 if b14 = true then
 (some ((.int .i64 (-1)), ((H.push o1).more 0)))
 else
 (bd (faA 1 (.ptr (some (H.n, 0)))) fun t25_15 =>
 (bd (ld1 t25_15 ((H.push o1).more 0)) fun t26_16 =>
 (bd (arA .lss t26_16 (.int .i64 0)) fun t27_17 =>
 (bd (asB t27_17) fun b18 =>
 if b18 = true then
 (some ((.int .i64 (-1)), ((H.push o1).more 0)))
 else
 (bd (faA 1 (.ptr (some (H.n, 0)))) fun t30_19 =>
 (bd (ld1 t30_19 ((H.push o1).more 0)) fun t31_20 =>
 (bd (nilC v0) fun t33_21 =>
 (bd (faA 0 t33_21) fun t34_22 =>
 (bd (ld1 t34_22 ((H.push o1).more 0)) fun t35_23 =>
 (bd (arA .geq t31_20 t35_23) fun t36_24 =>
 (bd (asB t36_24) fun b25 =>
 if b25 = true then
 (some ((.int .i64 (-1)), ((H.push o1).more 0)))
 else
 (bd (nilC v0) fun t39_26 =>
 (bd (faA 1 t39_26) fun t40_27 =>
 (bd (ld1 t40_27 ((H.push o1).more 0)) fun t41_28 =>
 (bd (call 81 [t41_28] ((H.push o1).more 0)) fun r29 =>
 (bd (nilC v0) fun t45_30 =>
 (bd (faA 3 t45_30) fun t46_31 =>
 (bd (ld1 t46_31 (r29.2.more 0)) fun t47_32 =>
 (bd (ldN 2 (.ptr (some (H.n, 0))) (r29.2.more 0)) fun t50_33 =>
 (bd (flA [(0, 1), (1, 2), (3, 1)] [(.int .i64 0), (.int .i64 0), (.int .i64 0), (.int .i64 0)] [(0, r29.1), (1, t50_33), (2, v2)]) fun t52_34 =>
 (bd (call 82 [t47_32, r29.1, t52_34] (r29.2.more 0)) fun r35 =>
 (bd (nilC v0) fun t54_36 =>
 (bd (faA 3 t54_36) fun t55_37 =>
 (bd (stA 1 t55_37 r35.1 r35.2) fun H38 =>
 (some (r29.1, H38))))))))))))))))))))))))))))))))))))))))
theorem mesh_Mesh_AddVert.r_e (n : Nat) (v0 v1 v2 : V) (H : Heap) : mesh_Mesh_AddVert.r @bdI (callA C n) n v0 v1 v2 H = E C n 54 [] (argsA 0 [v0, v1, v2]) H (kR C 54) := by
  unfold mesh_Mesh_AddVert.r
  kernel_rfl
noncomputable def mesh_Mesh_AddVert.rf (bd : B3) (call : FuncId → List V → Heap → Option R) (n : Nat) (a : List V) (H : Heap) : Option R := (match a with | [v0, v1, v2] => mesh_Mesh_AddVert.r bd call n v0 v1 v2 H | a => E C n 54 [] (argsA 0 a) H (kR C 54))
theorem mesh_Mesh_AddVert.rf_b (n : Nat) (a : List V) (H : Heap) : (match a with | [v0, v1, v2] => mesh_Mesh_AddVert.r @bdI (callA C n) n v0 v1 v2 H | a => E C n 54 [] (argsA 0 a) H (kR C 54)) = E C n 54 [] (argsA 0 a) H (kR C 54) := by
  split
  · exact mesh_Mesh_AddVert.r_e n _ _ _ H
  · rfl
theorem mesh_Mesh_AddVert.rf_e (n : Nat) (a : List V) (H : Heap) : mesh_Mesh_AddVert.rf @bdI (callA C n) n a H = callA C (n + 1) 54 a H := by
  unfold mesh_Mesh_AddVert.rf
  refine (mesh_Mesh_AddVert.rf_b n a H).trans ?_
  kernel_rfl
@[irreducible] noncomputable def mesh_Mesh_AddFace.l0 (n m0 : Nat) (v0 v3 v42 : V) (H : Heap) : Option R := Lp C n 55 [1, 1, 1, 0, 1, 0, 0] m0 [(0, v0), (3, v3), (42, v42)] H (kB 0 (kC C n 55 [1, 1, 1, 1] (kR C 55)))
@[irreducible] noncomputable def mesh_Mesh_AddFace.p1 (n : Nat) (v0 v3 : V) (H : Heap) : Option R := E C n 55 [1, 1, 1, 1] [(0, v0), (3, v3)] H (kR C 55)
@[irreducible] noncomputable def mesh_Mesh_AddFace.l2 (n m0 : Nat) (v0 v3 v9 v74 v75 : V) (H : Heap) : Option R := Lp C n 55 [1, 1, 1, 1, 1, 1, 0, 1, 0, 0] m0 [(0, v0), (3, v3), (9, v9), (74, v74), (75, v75)] H (kB 2 (kC C n 55 [1, 1, 1, 1, 1, 1, 1] (kR C 55)))
noncomputable def mesh_Mesh_AddFace.r_l2 (bd : B3) (call : FuncId → List V → Heap → Option R) (n : Nat) (s0 : V → V → V → V → V → Heap → Option R) (v0 v3 v9 v74 v75 : V) (H : Heap) : Option R :=
 (bd (arA .lss v75 (.int .i64 3)) fun t76_1 =>
 (bd (asB t76_1) fun b2 =>
 if b2 = true then
 (bd (ix1 3 v74 v75) fun t78_3 =>
 (bd (ldN 9 v3 (H.more 0)) fun t83_4 =>
 (bd (call 85 [t83_4, v75] (H.more 0)) fun r5 =>
 (bd (nilC v0) fun t80_6 =>
 (bd (faA 5 t80_6) fun t81_7 =>
 (bd (ld1 t81_7 r5.2) fun t82_8 =>
 (bd (chk (ld1 t81_7 (H.more 0)) t82_8) fun _ =>
 (bd (flA [(0, 1), (1, 1)] [(.int .i64 0), (.int .i64 0)] [(0, v9), (1, v75)]) fun t88_9 =>
 (bd (updM P ty_mesh_edge t82_8 r5.1 t88_9 r5.2) fun H10 =>
 (bd (nilC v0) fun t90_11 =>
 (bd (faA 6 t90_11) fun t91_12 =>
 (bd (ld1 t91_12 H10) fun t92_13 =>
 (bd (lookM P ty_int (.slice ⟨none, 0, 0, false⟩) t92_13 t78_3 false H10) fun t94_14 =>
 (bd (call 87 [t94_14, v9] H10) fun r15 =>
 (bd (unA .not r15.1) fun t97_16 =>
 (bd (asB t97_16) fun b17 =>
 if b17 = true then
 (bd (nilC v0) fun t104_18 =>
 (bd (faA 6 t104_18) fun t105_19 =>
 (bd (ld1 t105_19 (r15.2.more 1)) fun t106_20 =>
 (bd (lookM P ty_int (.slice ⟨none, 0, 0, false⟩) t106_20 t78_3 false (r15.2.more 1)) fun t108_21 =>
 (bd (bSl 1 ty_int [(.int .i64 0)] 1 [(0, v9)]) fun o22 =>
 (bd (appA 1 8 ty_int t108_21 (.slice ⟨some ((r15.2.n + 0), 0), 1, 1, false⟩) ((r15.2.more 1).set (r15.2.n + 0) o22)) fun p23 =>
 (bd (nilC v0) fun t99_24 =>
 (bd (faA 6 t99_24) fun t100_25 =>
 (bd (ld1 t100_25 p23.2) fun t101_26 =>
 (bd (chk (ld1 t100_25 (r15.2.more 1)) t101_26) fun _ =>
 (bd (updM P ty_int t101_26 t78_3 p23.1 p23.2) fun H27 =>
 (bd (arA .add v75 (.int .i64 1)) fun t112_28 =>
 (s0 v0 v3 v9 v74 t112_28 H27)))))))))))))
 else
 (bd (arA .add v75 (.int .i64 1)) fun t112_29 =>
 (s0 v0 v3 v9 v74 t112_29 r15.2))))))))))))))))))
 else
 (some (.tuple [v9, (.int .i64 0)], H))))
theorem mesh_Mesh_AddFace.r_l2_e (n m0 : Nat) : mesh_Mesh_AddFace.r_l2 @bdI (callA C n) n (mesh_Mesh_AddFace.l2 n m0) = mesh_Mesh_AddFace.l2 n (m0 + 1) := by
  funext v0 v3 v9 v74 v75 H
  unfold mesh_Mesh_AddFace.r_l2
  kernel_rfl
noncomputable def mesh_Mesh_AddFace.r_l2_lp (bd : B3) (call : FuncId → List V → Heap → Option R) (n : Nat) (m : Nat) : V → V → V → V → V → Heap → Option R := Nat.rec (motive := fun _ => V → V → V → V → V → Heap → Option R) (fun _ _ _ _ _ _ => none) (fun _ self => mesh_Mesh_AddFace.r_l2 bd call n self) m
theorem mesh_Mesh_AddFace.r_l2_lp_e (n : Nat) : mesh_Mesh_AddFace.r_l2_lp @bdI (callA C n) n = mesh_Mesh_AddFace.l2 n := by
  funext m
  induction m with
  | zero => funext v0 v3 v9 v74 v75 H; kernel_rfl
  | succ k ih => exact (congrArg (mesh_Mesh_AddFace.r_l2 @bdI (callA C n) n) ih).trans (mesh_Mesh_AddFace.r_l2_e n k)
noncomputable def mesh_Mesh_AddFace.r_p1 (bd : B3) (call : FuncId → List V → Heap → Option R) (n : Nat) (v0 v3 : V) (H : Heap) : Option R :=
 (bd (nilC v0) fun t59_1 =>
 (bd (faA 2 t59_1) fun t60_2 =>
 (bd (ld1 t60_2 H) fun t61_3 =>
 (bd (call 81 [t61_3] H) fun r4 =>
 (bd (nilC v0) fun t65_5 =>
 (bd (faA 4 t65_5) fun t66_6 =>
 (bd (ld1 t66_6 (r4.2.more 0)) fun t67_7 =>
 (bd (ldN 9 v3 (r4.2.more 0)) fun t69_8 =>
 (bd (call 86 [t67_7, r4.1, t69_8] (r4.2.more 0)) fun r9 =>
 (bd (nilC v0) fun t71_10 =>
 (bd (faA 4 t71_10) fun t72_11 =>
 (bd (stA 1 t72_11 r9.1 r9.2) fun H12 =>
 (bd (faA 0 v3) fun t73_13 =>
 (bd (ldN 3 t73_13 H12) fun t74_14 =>
 (mesh_Mesh_AddFace.r_l2_lp bd call n n v0 v3 r4.1 t74_14 (.int .i64 0) H12)))))))))))))))
theorem mesh_Mesh_AddFace.r_p1_e (n : Nat) : mesh_Mesh_AddFace.r_p1 @bdI (callA C n) n = mesh_Mesh_AddFace.p1 n := by
  funext v0 v3 H
  unfold mesh_Mesh_AddFace.r_p1
  rewrite [mesh_Mesh_AddFace.r_l2_lp_e]
  kernel_rfl
noncomputable def mesh_Mesh_AddFace.r_l0 (bd : B3) (call : FuncId → List V → Heap → Option R) (n : Nat) (s0 : V → V → V → Heap → Option R) (v0 v3 v42 : V) (H : Heap) : Option R :=
 (bd (arA .lss v42 (.int .i64 3)) fun t43_1 =>
 (bd (asB t43_1) fun b2 =>
 if b2 = true then
 (bd (ldN 9 v3 (H.more 1)) fun t50_3 =>
 (bd (call 85 [t50_3, v42] (H.more 1)) fun r4 =>
 (bd (nilC v0) fun t47_5 =>
 (bd (faA 5 t47_5) fun t48_6 =>
 (bd (ld1 t48_6 r4.2) fun t49_7 =>
 (bd (chk (ld1 t48_6 (H.more 1)) t49_7) fun _ =>
 (bd (lookM P ty_mesh_edge (.agg [(.int .i64 0), (.int .i64 0)]) t49_7 r4.1 true r4.2) fun t53_8 =>
 (bd (extA t53_8 0) fun t54_9 =>
 (bd (stA 2 (.ptr (some ((H.n + 0), 0))) t54_9 (r4.2.set (H.n + 0) (.cells [(.int .i64 0), (.int .i64 0)] ty_mesh_half false))) fun H10 =>
 (bd (extA t53_8 1) fun t55_11 =>
 (bd (asB t55_11) fun b12 =>
 if b12 = true then
 (some (.tuple [(.int .i64 (-1)), (.int .i64 6)], H10))
 else
 (bd (arA .add v42 (.int .i64 1)) fun t57_13 =>
 (s0 v0 v3 t57_13 H10)))))))))))))
 else
 (mesh_Mesh_AddFace.r_p1 bd call n v0 v3 H)))
theorem mesh_Mesh_AddFace.r_l0_e (n m0 : Nat) : mesh_Mesh_AddFace.r_l0 @bdI (callA C n) n (mesh_Mesh_AddFace.l0 n m0) = mesh_Mesh_AddFace.l0 n (m0 + 1) := by
  funext v0 v3 v42 H
  unfold mesh_Mesh_AddFace.r_l0
  rewrite [mesh_Mesh_AddFace.r_p1_e]
  kernel_rfl
noncomputable def mesh_Mesh_AddFace.r_l0_lp (bd : B3) (call : FuncId → List V → Heap → Option R) (n : Nat) (m : Nat) : V → V → V → Heap → Option R := Nat.rec (motive := fun _ => V → V → V → Heap → Option R) (fun _ _ _ _ => none) (fun _ self => mesh_Mesh_AddFace.r_l0 bd call n self) m
theorem mesh_Mesh_AddFace.r_l0_lp_e (n : Nat) : mesh_Mesh_AddFace.r_l0_lp @bdI (callA C n) n = mesh_Mesh_AddFace.l0 n := by
  funext m
  induction m with
  | zero => funext v0 v3 v42 H; kernel_rfl
  | succ k ih => exact (congrArg (mesh_Mesh_AddFace.r_l0 @bdI (callA C n) n) ih).trans (mesh_Mesh_AddFace.r_l0_e n k)
noncomputable def mesh_Mesh_AddFace.r (bd : B3) (call : FuncId → List V → Heap → Option R) (n : Nat) (v0 v1 : V) (H : Heap) : Option R :=
 (bd (boxA ty_api_Tri v1) fun o1 =>
 (bd (eqlA P ty_p_mesh_Mesh v0 (.ptr none)) fun t13_2 =>
 (bd (asB t13_2) fun b3 =>
 if b3 = true then
 (some (.tuple [(.int .i64 (-1)), (.int .i64 1)], (H.push o1)))
 else
 (bd (faA 0 (.ptr (some (H.n, 0)))) fun t16_4 =>
 (bd (idxP 3 1 t16_4 (.int .i64 0)) fun t17_5 =>
 (bd (ld1 t17_5 (H.push o1)) fun t18_6 =>
 (bd (call 83 [v0, t18_6] (H.push o1)) fun r7 =>
 (bd (unA .not r7.1) fun t20_8 =>
 (bd (asB t20_8) fun b9 =>
 if b9 = true then
 (some (.tuple [(.int .i64 (-1)), (.int .i64 1)], r7.2))
 else
 (bd (faA 0 (.ptr (some (H.n, 0)))) fun t24_10 =>
 (bd (idxP 3 1 t24_10 (.int .i64 1)) fun t25_11 =>
 (bd (ld1 t25_11 r7.2) fun t26_12 =>
 (bd (call 83 [v0, t26_12] r7.2) fun r13 =>
 (bd (unA .not r13.1) fun t28_14 =>
 (bd (asB t28_14) fun b15 =>
 if b15 = true then
 (some (.tuple [(.int .i64 (-1)), (.int .i64 1)], r13.2))
 else
 (bd (faA 0 (.ptr (some (H.n, 0)))) fun t32_16 =>
 (bd (idxP 3 1 t32_16 (.int .i64 2)) fun t33_17 =>
 (bd (ld1 t33_17 r13.2) fun t34_18 =>
 (bd (call 83 [v0, t34_18] r13.2) fun r19 =>
 (bd (unA .not r19.1) fun t36_20 =>
 (bd (asB t36_20) fun b21 =>
 if b21 = true then
 (some (.tuple [(.int .i64 (-1)), (.int .i64 1)], r19.2))
 else
 (bd (ldN 9 (.ptr (some (H.n, 0))) r19.2) fun t39_22 =>
 (bd (call 84 [v0, t39_22] r19.2) fun r23 =>
 (bd (unA .not r23.1) fun t41_24 =>
 (bd (asB t41_24) fun b25 =>
 if b25 = true then
 (some (.tuple [(.int .i64 (-1)), (.int .i64 6)], r23.2))
 else
 (mesh_Mesh_AddFace.r_l0_lp bd call n n v0 (.ptr (some (H.n, 0))) (.int .i64 0) r23.2))))))))))))))))))))))))))
theorem mesh_Mesh_AddFace.r_e (n : Nat) (v0 v1 : V) (H : Heap) : mesh_Mesh_AddFace.r @bdI (callA C n) n v0 v1 H = E C n 55 [] (argsA 0 [v0, v1]) H (kR C 55) := by
  unfold mesh_Mesh_AddFace.r
  rewrite [mesh_Mesh_AddFace.r_l0_lp_e]
  kernel_rfl
noncomputable def mesh_Mesh_AddFace.rf (bd : B3) (call : FuncId → List V → Heap → Option R) (n : Nat) (a : List V) (H : Heap) : Option R := (match a with | [v0, v1] => mesh_Mesh_AddFace.r bd call n v0 v1 H | a => E C n 55 [] (argsA 0 a) H (kR C 55))
theorem mesh_Mesh_AddFace.rf_b (n : Nat) (a : List V) (H : Heap) : (match a with | [v0, v1] => mesh_Mesh_AddFace.r @bdI (callA C n) n v0 v1 H | a => E C n 55 [] (argsA 0 a) H (kR C 55)) = E C n 55 [] (argsA 0 a) H (kR C 55) := by
  split
  · exact mesh_Mesh_AddFace.r_e n _ _ H
  · rfl
theorem mesh_Mesh_AddFace.rf_e (n : Nat) (a : List V) (H : Heap) : mesh_Mesh_AddFace.rf @bdI (callA C n) n a H = callA C (n + 1) 55 a H := by
  unfold mesh_Mesh_AddFace.rf
  refine (mesh_Mesh_AddFace.rf_b n a H).trans ?_
  kernel_rfl
noncomputable def lift_at.r (bd : B3) (call : FuncId → List V → Heap → Option R) (n : Nat) (v0 v1 v2 : V) (H : Heap) : Option R :=
 (bd (boxA ty_api_Point v0) fun o1 =>
 (bd (boxA ty_api_Off v1) fun o2 =>
 (bd (call 101 [v2] (((H.push o1).push o2).push (.cells [(.int .i64 0), (.int .i64 0)] ty_api_Point false))) fun r3 =>
 (bd (unA .not r3.1) fun t14_4 =>
 (bd (asB t14_4) fun b5 =>
 if b5 = true then
 (bd (flA [(0, 1), (1, 1)] [(.int .i64 0), (.int .i64 0)] []) fun t20_6 =>
 (bd (stA 2 (.ptr (some (((H.push o1).push o2).n, 0))) t20_6 r3.2) fun H7 =>
 (bd (ldN 2 (.ptr (some (((H.push o1).push o2).n, 0))) H7) fun t8 =>
 (some (.tuple [t8, (.bool false)], H7)))))
 else
 (bd (ldN 2 (.ptr (some (H.n, 0))) r3.2) fun t16_9 =>
 (bd (call 102 [t16_9] r3.2) fun r10 =>
 (bd (unA .not r10.1) fun t18_11 =>
 (bd (asB t18_11) fun b12 =>
 if b12 = true then
 (bd (flA [(0, 1), (1, 1)] [(.int .i64 0), (.int .i64 0)] []) fun t20_13 =>
 (bd (stA 2 (.ptr (some (((H.push o1).push o2).n, 0))) t20_13 r10.2) fun H14 =>
 (bd (ldN 2 (.ptr (some (((H.push o1).push o2).n, 0))) H14) fun t15 =>
 (some (.tuple [t15, (.bool false)], H14)))))
 else
 (bd (faA 0 (.ptr (some (H.n, 0)))) fun t22_16 =>
 (bd (ld1 t22_16 r10.2) fun t23_17 =>
 (bd (faA 0 (.ptr (some ((H.push o1).n, 0)))) fun t24_18 =>
 (bd (ld1 t24_18 r10.2) fun t25_19 =>
 (bd (call 103 [t23_17, t25_19, v2] r10.2) fun r20 =>
 (bd (extA r20.1 0) fun t28_21 =>
 (bd (extA r20.1 1) fun t29_22 =>
 (bd (faA 1 (.ptr (some (H.n, 0)))) fun t31_23 =>
 (bd (ld1 t31_23 r20.2) fun t32_24 =>
 (bd (faA 1 (.ptr (some ((H.push o1).n, 0)))) fun t33_25 =>
 (bd (ld1 t33_25 r20.2) fun t34_26 =>
 (bd (call 103 [t32_24, t34_26, v2] r20.2) fun r27 =>
 (bd (extA r27.1 0) fun t37_28 =>
 (bd (extA r27.1 1) fun t38_29 =>
 (bd (unA .not t29_22) fun t40_30 =>
 (bd (asB t40_30) fun b31 =>
 if b31 = true then
 (bd (flA [(0, 1), (1, 1)] [(.int .i64 0), (.int .i64 0)] []) fun t45_32 =>
 (bd (stA 2 (.ptr (some (((H.push o1).push o2).n, 0))) t45_32 r27.2) fun H33 =>
 (bd (ldN 2 (.ptr (some (((H.push o1).push o2).n, 0))) H33) fun t34 =>
 (some (.tuple [t34, (.bool false)], H33)))))
 else
 (bd (unA .not t38_29) fun t43_35 =>
 (bd (asB t43_35) fun b36 =>
 if b36 = true then
 (bd (flA [(0, 1), (1, 1)] [(.int .i64 0), (.int .i64 0)] []) fun t45_37 =>
 (bd (stA 2 (.ptr (some (((H.push o1).push o2).n, 0))) t45_37 r27.2) fun H38 =>
 (bd (ldN 2 (.ptr (some (((H.push o1).push o2).n, 0))) H38) fun t39 =>
 (some (.tuple [t39, (.bool false)], H38)))))
 else
 (bd (flA [(0, 1), (1, 1)] [(.int .i64 0), (.int .i64 0)] [(0, t28_21), (1, t37_28)]) fun t48_40 =>
 (bd (stA 2 (.ptr (some (((H.push o1).push o2).n, 0))) t48_40 r27.2) fun H41 =>
 (bd (ldN 2 (.ptr (some (((H.push o1).push o2).n, 0))) H41) fun t42 =>
 (some (.tuple [t42, (.bool true)], H41))))))))))))))))))))))))))))))))
theorem lift_at.r_e (n : Nat) (v0 v1 v2 : V) (H : Heap) : lift_at.r @bdI (callA C n) n v0 v1 v2 H = E C n 61 [] (argsA 0 [v0, v1, v2]) H (kR C 61) := by
  unfold lift_at.r
  kernel_rfl
noncomputable def lift_at.rf (bd : B3) (call : FuncId → List V → Heap → Option R) (n : Nat) (a : List V) (H : Heap) : Option R := pureA a H fun a => (match a with | [v0, v1, v2] => lift_at.r bd call n v0 v1 v2 ⟨0, .nil⟩ | a => E C n 61 [] (argsA 0 a) ⟨0, .nil⟩ (kR C 61))
theorem lift_at.rf_b (n : Nat) (a : List V) (H : Heap) : (match a with | [v0, v1, v2] => lift_at.r @bdI (callA C n) n v0 v1 v2 H | a => E C n 61 [] (argsA 0 a) H (kR C 61)) = E C n 61 [] (argsA 0 a) H (kR C 61) := by
  split
  · exact lift_at.r_e n _ _ _ H
  · rfl
theorem lift_at.rf_e (n : Nat) (a : List V) (H : Heap) : lift_at.rf @bdI (callA C n) n a H = callA C (n + 1) 61 a H := by
  unfold lift_at.rf
  refine (congrArg (pureA a H) (funext fun a => lift_at.rf_b n a ⟨0, .nil⟩)).trans ?_
  kernel_rfl
end Go.AM.L
end
