/- Merged by program (mkclaim.py) from: SpD SpE SpF SpG SpH AmKeep SpI SpJ SpK SpL. -/
import Derived.Test.YtmpkhfnegnlpmaaX1

section
set_option linter.unusedVariables false
set_option linter.unusedSimpArgs false
/- What the numbers' functions of package nat give: long division. -/
set_option linter.unusedSimpArgs false
set_option linter.unusedVariables false
namespace Go.AM

theorem pow_le31 {by_ : Nat} (h : by_ ≤ 31) : 2 ^ by_ ≤ 2147483648 := by
  have := Nat.pow_le_pow_right (n := 2) (by decide) h
  omega
theorem shift_inv {b p D c x t A f V : Nat} (h : D + p * (c + f * (x + b * A)) = V) (ht : t = c + f * x) : D + p * (t % b) + p * b * (t / b + f * A) = V := by
  have := carry b p t (f * A)
  subst ht
  grind

theorem nat_shift_spec {H : Heap} {s : Sl} {l : List Nat} {by_ : Nat} {bi : Int} (h : Row H .u32 s l) (hm : l.length < 2000000000) (hL : Lim 4294967296 l) (hbi : bi = (by_ : Int)) (hb : by_ ≤ 31) :
    Tot (fun n => f_nat_shift n [.slice s, .int .i64 bi] H) fun v H' => Ext0 H H' ∧ ∃ s' d, v = .slice s' ∧ Own H' .u32 ty_uint32 s' d ∧ (∀ i, s'.has i → H.n ≤ i) ∧ d.length = l.length + 1 ∧ Lim 4294967296 d ∧ val 4294967296 d = val 4294967296 l * 2 ^ by_ := by
  subst hbi
  have hp := pow_le31 hb
  have hp0 : 0 < 2 ^ by_ := Nat.two_pow_pos by_
  refine Tot.of fun Q hQ => ?_
  refine nat_shift_tot ?_
  simp (disch := first | omega | (simp only [hn_push, hn_set, hn_more] <;> omega) | (simp <;> omega) | fail) [h.lenSl]
  suffices lp : ∀ (j i : Nat) (ii ci : Int) (H' : Heap) (so : Sl) (d : List Nat) (c : Nat), i + j = l.length → ii = (i : Int) → ci = (c : Int) → Ext0 H H' → Own H' .u32 ty_uint32 so d → (∀ i, so.has i → H.n ≤ i) → d.length = i → Lim 4294967296 d → c < 2 ^ by_ →
      val 4294967296 d + 4294967296 ^ d.length * (c + 2 ^ by_ * val 4294967296 (l.drop i)) = 2 ^ by_ * val 4294967296 l → ∀ m, Big m → Tot (fun n => nat_shift.l0 n (m n) (.int .i64 by_) (.slice so) (.int .u64 ci) (.slice s) (.int .i64 l.length) (.int .i64 ii) H') Q by
    refine lp l.length 0 _ _ _ _ [] 0 (by omega) rfl rfl Ch.push (Own.new (l := [])) (fun i hi => by rw [has_mk] at hi; omega) rfl Lim.nil hp0 (by simp [val]) _ Big.id
  intro j
  induction j with
  | zero =>
    intro i ii ci H' so d c hi hii hci c0 o f hd hLd hc hv m hb
    subst hii hci
    refine nat_shift.l0_tot hb fun m' hb' => ?_
    simp (disch := first | omega | (simp only [hn_push, hn_set, hn_more] <;> omega) | (simp <;> omega) | fail) []
    refine Tot.no (by omega) ?_
    refine nat_shift.p1_tot ?_
    simp (disch := first | omega | (simp only [hn_push, hn_set, hn_more] <;> omega) | (simp <;> omega) | fail) []
    refine Tot.app1 o (x := c) (by omega) (by omega) (by decide) (by rfl) ?_
    intro s' H2 o2 c2 f2
    refine Tot.ret (hQ _ _ ⟨c0.trans c2 fun i hi hx => by have := f i hx; omega, s', _, rfl, o2, fun i hi => ?_, by simp; omega, Lim.app.2 ⟨hLd, Lim.one.2 (by omega)⟩, ?_⟩)
    · rcases f2 i hi with h | h
      · exact f i h
      · have := c0.n; omega
    · rw [val_drop_out (l := l) (by omega)] at hv
      rw [val_snoc, Nat.mul_comm _ (2 ^ by_), ← hv]; simp
  | succ j ih =>
    intro i ii ci H' so d c hi hii hci c0 o f hd hLd hc hv m hb
    subst hii hci
    refine nat_shift.l0_tot hb fun m' hb' => ?_
    have r := h.ext c0
    have hx := hL.nth (i := i) (by decide)
    have hxy : 2 ^ by_ * (nth l i + 1) ≤ 2 ^ by_ * 4294967296 := Nat.mul_le_mul_left _ hx
    rw [Nat.mul_add] at hxy
    obtain ⟨y, hy⟩ : ∃ y, y = 2 ^ by_ * nth l i := ⟨_, rfl⟩
    have hxi : (nth l i : Int) * 2 ^ by_ = (y : Int) := by rw [hy]; simp [Int.mul_comm]
    have hor : arA .or (.int .u64 (c : Int)) (.int .u64 (y : Int)) = some (.int .u64 ((y + c : Nat) : Int)) := by
      rw [or_comm]; exact or_apart (i := by_) (c := nth l i) rfl rfl hy hc (by omega)
    simp (disch := omega) [r.idx, r.get, sh_l, hxi, hor]
    refine Tot.yes (by omega) ?_
    have ht : 2 ^ by_ * nth l i + c = c + 2 ^ by_ * nth l i := Nat.add_comm _ _
    rw [val_drop_nth (l := l) (by omega)] at hv
    have hv2 := shift_inv (t := 2 ^ by_ * nth l i + c) hv ht
    have ht2 : 2 ^ by_ * nth l i + c < 2 ^ by_ * 4294967296 := by omega
    have ht3 : (2 ^ by_ * nth l i + c) / 4294967296 < 2 ^ by_ := (Nat.div_lt_iff_lt_mul (by decide)).2 ht2
    rw [← hy] at hv2 ht2 ht3
    refine Tot.app1 o (x := (y + c) % 4294967296) (by omega) (by rw [wrap_u32m]; omega) (by decide) (by rfl) ?_
    intro s' H2 o2 c2 f2
    refine ih (i + 1) _ _ H2 s' _ ((y + c) / 4294967296) (by omega) (by omega) (by omega) (c0.trans c2 fun i hi hx => by have := f i hx; omega) o2
      (fun i hi => by rcases f2 i hi with h | h; exact f i h; have := c0.n; omega) (by simp; omega) (Lim.app.2 ⟨hLd, Lim.one.2 (Nat.mod_lt _ (by decide))⟩) ht3 ?_ _ hb'
    rw [val_snoc, List.length_append, List.length_singleton, Nat.pow_succ]
    exact hv2

theorem guess_dec {W U3 V2 q : Nat} (h : ¬ q * V2 ≤ U3 ∨ W ≤ q) (hm : ∀ t, t < W → t * V2 ≤ U3 → t ≤ q) : ∀ t, t < W → t * V2 ≤ U3 → t ≤ q - 1 := by
  intro t ht hle
  have h1 := hm t ht hle
  rcases h with h | h
  · have : t ≠ q := by intro e; subst e; exact h hle
    omega
  · omega

theorem nat_guess_spec {H : Heap} {s : Sl} {l : List Nat} {top next k : Nat} {ti ni : Int} (h : Row H .u32 s l) (hl : l.length = k + 3) (hm : l.length < 2000000000) (hL : Lim 4294967296 l) (hti : ti = (top : Int)) (hni : ni = (next : Int))
    (ht1 : 2147483648 ≤ top) (ht2 : top < 4294967296) (hn : next < 4294967296) (hu : nth l (k + 2) ≤ top) :
    Tot (fun n => f_nat_guess n [.slice s, .int .u64 ti, .int .u64 ni] H) fun v H' => H' = H ∧ ∃ q : Nat, v = .int .u64 (q : Int) ∧ Guess 4294967296 ((nth l (k + 2) * 4294967296 + nth l (k + 1)) * 4294967296 + nth l k) (top * 4294967296 + next) q := by
  subst hti hni
  have h2 := hL.nth (i := k + 2) (by decide)
  have h1 := hL.nth (i := k + 1) (by decide)
  have h0 := hL.nth (i := k) (by decide)
  refine Tot.of fun Q hQ => ?_
  refine nat_guess_tot ?_
  simp (disch := first | omega | (simp only [hn_push, hn_set, hn_more] <;> omega) | (simp <;> omega) | fail) [h.lenSl, h.idxN (i := k + 2) (by omega), h.idxN (i := k + 1) (by omega), h.get, sh_l32, or_apart (a := nth l (k + 2) * 4294967296) (b := nth l (k + 1)) (i := 32) (c := nth l (k + 2))]
  generalize nth l (k + 2) = u2 at *
  generalize nth l (k + 1) = u1 at *
  suffices lp : ∀ (j q r : Nat) (qi ri : Int), q ≤ j → qi = (q : Int) → ri = (r : Int) → u2 * 4294967296 + u1 = q * top + r → r < 4294967296 → (∀ t, t < 4294967296 → t * (top * 4294967296 + next) ≤ (u2 * 4294967296 + u1) * 4294967296 + nth l k → t ≤ q) → ∀ m, Big m →
      Tot (fun n => nat_guess.l0 n (m n) (.slice s) (.int .u64 top) (.int .u64 next) (.int .i64 ((l.length : Int) - 1)) (.int .u64 qi) (.int .u64 ri) H) Q by
    have hd := Nat.div_add_mod (u2 * 4294967296 + u1) top
    have hr := Nat.mod_lt (u2 * 4294967296 + u1) (show top > 0 by omega)
    refine lp _ ((u2 * 4294967296 + u1) / top) ((u2 * 4294967296 + u1) % top) _ _ (Nat.le_refl _) ?_ ?_ (by rw [Nat.mul_comm ((u2 * 4294967296 + u1) / top)]; omega) (by omega) ?_ _ Big.id
    · have hlt : (u2 * 4294967296 + u1) / top < 8589934592 := (Nat.div_lt_iff_lt_mul (by omega)).2 (by omega)
      have e1 : ((u2 : Int) * 4294967296 + (u1 : Int)) / (top : Int) = (((u2 * 4294967296 + u1) / top : Nat) : Int) := by simp
      rw [e1]; generalize (u2 * 4294967296 + u1) / top = z at *
      rw [wrap_u64 (by omega)]
    · simp
    · intro t ht hle
      apply (Nat.le_div_iff_mul_le (by omega)).2
      have : (t * top) * 4294967296 ≤ (u2 * 4294967296 + u1) * 4294967296 + nth l k := by
        have e : t * (top * 4294967296 + next) = (t * top) * 4294967296 + t * next := by grind
        omega
      omega
  intro j
  induction j with
  | zero =>
    intro q r qi ri hj hqi hri hv hr hmx m hb
    have : q = 0 := by omega
    subst this hqi hri
    refine nat_guess.l0_tot hb fun m' hb' => ?_
    have hlen : (l.length : Int) - 1 - 2 = (k : Int) := by omega
    simp (disch := omega) [hlen, h.idx, h.get, sh_l32, or32]
    refine Tot.no (by omega) ?_
    exact Tot.ret (hQ _ _ ⟨rfl, 0, rfl, by decide, by simp, hmx⟩)
  | succ j ih =>
    intro q r qi ri hj hqi hri hv hr hmx m hb
    subst hqi hri
    have hqt : (u2 * 4294967296 + u1) < (4294967296 + 2) * top := by
      have : u2 * 4294967296 ≤ top * 4294967296 := Nat.mul_le_mul_right _ hu
      omega
    have hq2 : q < 4294967296 + 2 := by
      apply Nat.lt_of_mul_lt_mul_right (a := top)
      omega
    -- one less
    have dec : 0 < q → (¬ q * (top * 4294967296 + next) ≤ (u2 * 4294967296 + u1) * 4294967296 + nth l k ∨ 4294967296 ≤ q) → ∀ m', Big m' → ∀ w : Int, w = (q : Int) - 1 →
        Tot (fun n => if (4294967296 ≤ (r : Int) + top) then some (.int .u64 (w), H) else nat_guess.l0 n (m' n) (.slice s) (.int .u64 top) (.int .u64 next) (.int .i64 ((l.length : Int) - 1)) (.int .u64 (w)) (.int .u64 ((r : Int) + top)) H) Q := by
      intro hq0 hlt m' hb' w hw
      subst hw
      have hmx' := guess_dec hlt hmx
      obtain ⟨p, rfl⟩ : ∃ p, q = p + 1 := ⟨q - 1, by omega⟩
      rw [show p + 1 - 1 = p from rfl] at hmx'
      have hv' : u2 * 4294967296 + u1 = p * top + (r + top) := by rw [hv]; grind
      refine Tot.ite (fun h => ?_) (fun h => ?_)
      · have hpt : p < 4294967296 := by
          rcases Nat.lt_or_ge p 4294967296 with h1 | h1
          · exact h1
          · have e1 : 4294967296 * top ≤ p * top := Nat.mul_le_mul_right _ h1
            have e2 : u2 * 4294967296 ≤ top * 4294967296 := Nat.mul_le_mul_right _ hu
            omega
        refine Tot.ret (hQ _ _ ⟨rfl, p, by congr 1; omega, hpt, ?_, hmx'⟩)
        have e3 : p * next ≤ 4294967295 * 4294967295 := Nat.mul_le_mul (by omega) (by omega)
        have e4 : p * (top * 4294967296 + next) = (p * top) * 4294967296 + p * next := by grind
        rw [e4, hv']; omega
      · exact ih p (r + top) _ _ (by omega) (by omega) (by omega) hv' (by omega) hmx' _ hb'
    refine nat_guess.l0_tot hb fun m' hb' => ?_
    have e4 : q * (top * 4294967296 + next) = (q * top) * 4294967296 + q * next := by grind
    have hlen : (l.length : Int) - 1 - 2 = (k : Int) := by omega
    simp (disch := omega) [hlen, h.idx, h.get, sh_l32, or32]
    refine Tot.ite (fun h => ?_) (fun h => ?_)
    · exact dec (by omega) (.inr (by omega)) _ hb' _ rfl
    · have e5 : q * next ≤ 4294967295 * 4294967295 := Nat.mul_le_mul (by omega) (by omega)
      simp (disch := first | omega | (simp only [hn_push, hn_set, hn_more] <;> omega) | (simp <;> omega) | fail) []
      refine Tot.ite (fun h2 => ?_) (fun h2 => ?_)
      · have hq0 : 0 < q := by
          rcases Nat.eq_zero_or_pos q with h0 | h0
          · subst h0; simp at h2; omega
          · exact h0
        refine dec hq0 (.inl ?_) _ hb' _ (wrap_u64 (by omega))
        · rw [e4, hv]; omega
      · exact Tot.ret (hQ _ _ ⟨rfl, q, rfl, by omega, by rw [e4, hv]; omega, hmx⟩)
end Go.AM
end

section
set_option linter.unusedVariables false
set_option linter.unusedSimpArgs false
/- What the numbers' functions of package nat give: long division, its parts. -/
set_option linter.unusedSimpArgs false
set_option linter.unusedVariables false
namespace Go.AM

theorem off_inv {p W O O' x z qq V y c d t d' L : Nat} (hs : O' + p * x = O + p * z) (hv : O + qq * V = L + p * (c + d)) (ht : t = c + qq * y) (hz : x + W * d' = z + t % W + d) :
    O' + qq * (V + p * y) = L + p * W * (t / W + d') := by
  have h1 := Nat.mod_add_div t W
  generalize t / W = a at *
  generalize t % W = e at *
  have h2 : p * (x + W * d') = p * (z + e + d) := by rw [hz]
  have h3 : p * (e + W * a) = p * (c + qq * y) := by rw [h1, ht]
  grind

theorem nat_off_spec {H : Heap} {s t : Sl} {b : Nat} {p l q lv : List Nat} {qq : Nat} {qi : Int} (h : Mut H .u32 ty_uint32 b p l q s) (h' : Row H .u32 t lv) (ht : ¬ t.has b) (hm : l.length < 2000000000) (hl : l.length = lv.length + 1) (hL : Lim 4294967296 l) (hL' : Lim 4294967296 lv)
    (hqi : qi = (qq : Int)) (hq : qq < 4294967296) :
    Tot (fun n => f_nat_off n [.slice s, .slice t, .int .u64 qi] H) fun v H' => Ch (· = b) H H' ∧ ∃ (l' : List Nat) (f : Nat), v = .bool (decide (f ≠ 0)) ∧ f ≤ 1 ∧ Mut H' .u32 ty_uint32 b p l' q s ∧ l'.length = l.length ∧ Lim 4294967296 l' ∧ val 4294967296 l' + qq * val 4294967296 lv = val 4294967296 l + 4294967296 ^ l.length * f := by
  subst hqi
  refine Tot.of fun Q hQ => ?_
  refine nat_off_tot ?_
  simp (disch := first | omega | (simp only [hn_push, hn_set, hn_more] <;> omega) | (simp <;> omega) | fail) [h.row.lenSl]
  suffices lp : ∀ (j i : Nat) (ii ci di : Int) (H' : Heap) (o : List Nat) (c d : Nat), i + j = l.length → ii = (i : Int) → ci = (c : Int) → di = (d : Int) → Ch (· = b) H H' → Mut H' .u32 ty_uint32 b p o q s → o.length = l.length → Lim 4294967296 o → c < 4294967296 → d ≤ 1 → (i = l.length → c = 0) →
      val 4294967296 o + qq * val 4294967296 (lv.take i) = val 4294967296 l + 4294967296 ^ i * (c + d) → ∀ m, Big m → Tot (fun n => nat_off.l0 n (m n) (.slice s) (.slice t) (.int .u64 qq) (.int .u64 ci) (.int .u64 di) (.int .i64 l.length) (.int .i64 ii) H') Q by
    exact lp l.length 0 _ _ _ _ l 0 0 (by omega) rfl rfl rfl Ch.refl h rfl hL (by decide) (by omega) (fun _ => rfl) (by simp [val]) _ Big.id
  intro j
  induction j with
  | zero =>
    intro i ii ci di H' o c d hi hii hci hdi c0 mo ho hLo hc hd hce hv m hb
    subst hii hci hdi
    have : c = 0 := hce (by omega)
    subst this
    refine nat_off.l0_tot hb fun m' hb' => ?_
    simp (disch := omega) []
    refine Tot.no (by omega) ?_
    rw [List.take_of_length_le (by omega), show i = l.length by omega, Nat.zero_add] at hv
    refine Tot.ret (hQ _ _ ⟨c0, o, d, ?_, hd, mo, ho, hLo, hv⟩)
    congr 1
    by_cases h0 : d = 0 <;> simp [h0]
  | succ j ih =>
    intro i ii ci di H' o c d hi hii hci hdi c0 mo ho hLo hc hd hce hv m hb
    subst hii hci hdi
    have r' := h'.ch c0 fun i hi e => ht (e ▸ hi)
    have hx := hLo.nth (i := i) (by decide)
    -- one place
    have step : ∀ (y : Nat) (w : Int) (tt : Nat), tt = c + qq * y → w = (tt : Int) → tt < 18446744073709551616 → tt / 4294967296 < 4294967296 → (i + 1 = l.length → tt / 4294967296 = 0) → val 4294967296 (lv.take (i + 1)) = val 4294967296 (lv.take i) + 4294967296 ^ i * y → ∀ m', Big m' →
        Tot (fun n => nat_off.p1 n (m' n) (.slice s) (.slice t) (.int .u64 qq) (.int .u64 w) (.int .u64 d) (.int .i64 i) (.int .i64 l.length) (.int .i64 i) H') Q := by
      intro y w tt htt hw htm htd hte hvt m' hb'
      subst hw
      refine nat_off.p1_tot ?_
      have hw2 : ∀ z : Int, IntKind.u64.wrap z = z % 18446744073709551616 := wrap_u64m
      simp (disch := omega) [mo.row.idxN (i := i) (by omega), mo.row.get]
      refine Tot.st mo (x := (nth o i + 2 * 4294967296 - tt % 4294967296 - d) % 4294967296) (by omega) (by simp only [wrap_u32m, wrap_u64m]; omega) ?_
      intro H3 mo3 c3
      have hz : nth o i + 4294967296 * (if nth o i < tt % 4294967296 + d then 1 else 0) = (nth o i + 2 * 4294967296 - tt % 4294967296 - d) % 4294967296 + tt % 4294967296 + d := by split <;> omega
      refine ih (i + 1) _ _ _ H3 _ (tt / 4294967296) (if nth o i < tt % 4294967296 + d then 1 else 0) (by omega) (by omega) (by omega) ?_ (c0.trans c3 fun i hi hx => hx) mo3 (by simpa using ho) (hLo.set (Nat.mod_lt _ (by decide))) htd (by split <;> omega) hte ?_ _ hb'
      · simp only [wrap_u32m, wrap_u64m]; split <;> omega
      · rw [hvt, Nat.pow_succ]
        exact off_inv (val_set (b := 4294967296) (by omega)) hv htt hz
    refine nat_off.l0_tot hb fun m' hb' => ?_
    simp (disch := omega) [r'.lenSl]
    refine Tot.yes (by omega) ?_
    refine Tot.ite (fun hlt => ?_) (fun hlt => ?_)
    · have hy := hL'.nth (i := i) (by decide)
      have hxy : qq * nth lv i ≤ 4294967295 * 4294967295 := Nat.mul_le_mul (by omega) (by omega)
      obtain ⟨y, hye⟩ : ∃ y, y = qq * nth lv i := ⟨_, rfl⟩
      have hyi : (qq : Int) * (nth lv i : Int) = (y : Int) := by rw [hye]; simp
      rw [← hye] at hxy
      simp (disch := omega) [r'.idx, r'.get, hyi]
      refine step (nth lv i) _ (c + y) (by rw [hye]) (by omega) (by omega) (by omega) (by omega) ?_ _ hb'
      rw [take_succ_nth (by omega), val_snoc]; simp [Nat.min_eq_left (show i ≤ lv.length by omega)]
    · refine step 0 _ c (by omega) rfl (by omega) (by omega) (by omega) ?_ _ hb'
      rw [List.take_of_length_le (by omega), List.take_of_length_le (by omega)]; omega

theorem back_inv {p W O O' x V y c t L : Nat} (hs : O' + p * x = O + p * (t % W)) (hv : O + p * c = L + V) (ht : t = c + x + y) : O' + p * W * (t / W) = L + (V + p * y) := by
  have h1 := carry W p t 0
  subst ht
  grind

theorem nat_back_spec {H : Heap} {s t : Sl} {b : Nat} {p l q lv : List Nat} (h : Mut H .u32 ty_uint32 b p l q s) (h' : Row H .u32 t lv) (ht : ¬ t.has b) (hm : l.length < 2000000000) (hl : l.length = lv.length + 1) (hL : Lim 4294967296 l) (hL' : Lim 4294967296 lv) :
    Tot (fun n => f_nat_back n [.slice s, .slice t] H) fun v H' => Ch (· = b) H H' ∧ ∃ (l' : List Nat) (f : Nat), f ≤ 1 ∧ Mut H' .u32 ty_uint32 b p l' q s ∧ l'.length = l.length ∧ Lim 4294967296 l' ∧ val 4294967296 l' + 4294967296 ^ l.length * f = val 4294967296 l + val 4294967296 lv := by
  refine Tot.of fun Q hQ => ?_
  refine nat_back_tot ?_
  simp (disch := first | omega | (simp only [hn_push, hn_set, hn_more] <;> omega) | (simp <;> omega) | fail) [h.row.lenSl]
  suffices lp : ∀ (j i : Nat) (ii ci : Int) (H' : Heap) (o : List Nat) (c : Nat), i + j = l.length → ii = (i : Int) → ci = (c : Int) → Ch (· = b) H H' → Mut H' .u32 ty_uint32 b p o q s → o.length = l.length → Lim 4294967296 o → c ≤ 1 →
      val 4294967296 o + 4294967296 ^ i * c = val 4294967296 l + val 4294967296 (lv.take i) → ∀ m, Big m → Tot (fun n => nat_back.l0 n (m n) (.slice s) (.slice t) (.int .u64 ci) (.int .i64 l.length) (.int .i64 ii) H') Q by
    exact lp l.length 0 _ _ _ l 0 (by omega) rfl rfl Ch.refl h rfl hL (by omega) (by simp [val]) _ Big.id
  intro j
  induction j with
  | zero =>
    intro i ii ci H' o c hi hii hci c0 mo ho hLo hc hv m hb
    subst hii hci
    refine nat_back.l0_tot hb fun m' hb' => ?_
    simp (disch := omega) []
    refine Tot.no (by omega) ?_
    rw [List.take_of_length_le (by omega), show i = l.length by omega] at hv
    exact Tot.ret (hQ _ _ ⟨c0, o, c, hc, mo, ho, hLo, hv⟩)
  | succ j ih =>
    intro i ii ci H' o c hi hii hci c0 mo ho hLo hc hv m hb
    subst hii hci
    have r' := h'.ch c0 fun i hi e => ht (e ▸ hi)
    have hx := hLo.nth (i := i) (by decide)
    have step : ∀ (y : Nat) (w : Int) (tt : Nat), tt = c + nth o i + y → w = (tt : Int) → y < 4294967296 → val 4294967296 (lv.take (i + 1)) = val 4294967296 (lv.take i) + 4294967296 ^ i * y → ∀ m', Big m' →
        Tot (fun n => nat_back.p1 n (m' n) (.slice s) (.slice t) (.int .u64 w) (.int .i64 i) (.int .i64 l.length) (.int .i64 i) H') Q := by
      intro y w tt htt hw hy hvt m' hb'
      subst hw
      refine nat_back.p1_tot ?_
      simp (disch := omega) [mo.row.idxN (i := i) (by omega)]
      refine Tot.st mo (x := tt % 4294967296) (by omega) (by simp only [wrap_u32m]; omega) ?_
      intro H3 mo3 c3
      refine ih (i + 1) _ _ H3 _ (tt / 4294967296) (by omega) (by omega) (by omega) (c0.trans c3 fun i hi hx => hx) mo3 (by simpa using ho) (hLo.set (Nat.mod_lt _ (by decide))) (by omega) ?_ _ hb'
      rw [hvt, Nat.pow_succ]
      exact back_inv (val_set (b := 4294967296) (by omega)) hv htt
    refine nat_back.l0_tot hb fun m' hb' => ?_
    simp (disch := omega) [r'.lenSl, mo.row.idxN (i := i) (by omega), mo.row.get]
    refine Tot.yes (by omega) ?_
    refine Tot.ite (fun hlt => ?_) (fun hlt => ?_)
    · have hy := hL'.nth (i := i) (by decide)
      simp (disch := omega) [r'.idx, r'.get]
      refine step (nth lv i) _ (c + nth o i + nth lv i) rfl (by omega) hy ?_ _ hb'
      rw [take_succ_nth (by omega), val_snoc]; simp [Nat.min_eq_left (show i ≤ lv.length by omega)]
    · refine step 0 _ (c + nth o i) rfl (by omega) (by omega) ?_ _ hb'
      rw [List.take_of_length_le (by omega), List.take_of_length_le (by omega)]; omega
end Go.AM
end

section
set_option linter.unusedVariables false
set_option linter.unusedSimpArgs false
/- What the numbers' functions of package nat give: long division. -/
set_option linter.unusedSimpArgs false
set_option linter.unusedVariables false
namespace Go.AM

theorem val_three {b k : Nat} {l : List Nat} (h : l.length = k + 3) : val b l = b ^ k * ((nth l (k + 2) * b + nth l (k + 1)) * b + nth l k) + val b (l.take k) := by
  rw [val_take_drop (n := k) (by omega), val_drop_nth (by omega), val_drop_nth (by omega), val_drop_nth (by omega), val_drop_out (by omega)]
  grind
theorem val_two {b k : Nat} {l : List Nat} (h : l.length = k + 2) : val b l = b ^ k * (nth l (k + 1) * b + nth l k) + val b (l.take k) := by
  rw [val_take_drop (n := k) (by omega), val_drop_nth (by omega), val_drop_nth (by omega), val_drop_out (by omega)]
  grind
theorem val_top_le {b k top : Nat} {l : List Nat} {V r : Nat} (h : l.length = k + 1) (hV : V = b ^ k * top + r) (hr : r < b ^ k) (hlt : val b l < V) : nth l k ≤ top := by
  rw [val_take_drop (n := k) (by omega), val_drop_nth (by omega), val_drop_out (by omega)] at hlt
  apply Nat.le_of_not_lt
  intro h1
  have : b ^ k * (top + 1) ≤ b ^ k * nth l k := Nat.mul_le_mul_left _ h1
  rw [Nat.mul_add] at this
  simp at hlt
  omega
theorem drop_zero_of_lt {b n : Nat} {l : List Nat} (hn : n ≤ l.length) (h : val b l < b ^ n) : val b (l.drop n) = 0 := by
  rw [val_take_drop hn] at h
  rcases Nat.eq_zero_or_pos (val b (l.drop n)) with h0 | h0
  · exact h0
  · have : b ^ n * 1 ≤ b ^ n * val b (l.drop n) := Nat.mul_le_mul_left _ h0
    omega

/-- One word of the quotient: what the guess, the taking off and the putting back make. -/
theorem long_step {M U V q t f f2 P1 P2 : Nat} (ht : t = U / V) (hV : 0 < V) (h1 : t ≤ q) (h2 : q ≤ t + 1) (ho : P1 + q * V = U + M * f) (hP1 : P1 < M) (hVM : V ≤ M) :
    (f = 0 → q = t ∧ P1 = U % V) ∧ (f = 1 → q = t + 1 ∧ (P2 + M * f2 = P1 + V → f2 ≤ 1 → P2 < M → P2 = U % V)) := by
  have hd := Nat.div_add_mod U V
  have hr := Nat.mod_lt U hV
  rw [← ht, Nat.mul_comm] at hd
  generalize U % V = r at *
  clear ht
  have hq : q = t ∨ q = t + 1 := by omega
  have e2 : (t + 1) * V = t * V + V := by grind
  constructor
  · intro hf
    subst hf
    rcases hq with rfl | rfl
    · exact ⟨rfl, by omega⟩
    · omega
  · intro hf
    subst hf
    rcases hq with rfl | rfl
    · omega
    · refine ⟨rfl, fun h3 h4 h5 => ?_⟩
      have : f2 = 0 ∨ f2 = 1 := by omega
      rcases this with rfl | rfl <;> omega

theorem shr_word {f g W x X : Nat} (hf : 0 < f) (hfg : W = f * g) (hg : 0 < g) (hx : x < W) : (x + W * X) / f = ((X % W) * W + x) / f % W + W * (X / f) := by
  have hW : 0 < W := by rw [hfg]; exact Nat.mul_pos hf hg
  have h1 := Nat.div_add_mod X W
  have h2 := Nat.mod_lt X hW
  generalize X % W = x' at *
  generalize X / W = Y at *
  subst h1
  have h3 := Nat.div_add_mod ((x' * W + x) / f) W
  have h4 : (x' * W + x) / f / W = x' / f := by
    rw [Nat.div_div_eq_div_mul, Nat.mul_comm f W, ← Nat.div_div_eq_div_mul, Nat.mul_comm x' W, Nat.mul_add_div hW, Nat.div_eq_of_lt hx, Nat.add_zero]
  rw [h4] at h3
  have h5 : x + W * (W * Y + x') = (x' * W + x) + f * (g * W * Y) := by rw [show f * (g * W * Y) = (f * g) * W * Y by grind, ← hfg]; grind
  have h6 : W * Y + x' = x' + f * (g * Y) := by rw [show f * (g * Y) = (f * g) * Y by grind, ← hfg]; grind
  rw [h5, h6, Nat.add_mul_div_left _ _ hf, Nat.add_mul_div_left _ _ hf]
  generalize (x' * W + x) / f % W = z at *
  generalize (x' * W + x) / f = y at *
  generalize x' / f = u at *
  subst h3
  grind

theorem long_math {b k V : Nat} (hb : 2 ≤ b) {pp w : List Nat} (hpl : pp.length = k + 3) (hlen : w.length = k + 2) (hLp : Lim b pp) (Lvv : Lim b w) (hvv : val b w = V) (htop : 1 ≤ nth w (k + 1)) (hd : val b (pp.drop 1) < V) :
    nth pp (k + 2) ≤ nth w (k + 1) ∧ val b pp < b * V ∧ 0 < V ∧ V ≤ b ^ (k + 3) ∧ ∀ q, Guess b ((nth pp (k + 2) * b + nth pp (k + 1)) * b + nth pp k) (nth w (k + 1) * b + nth w k) q → val b pp / V ≤ q ∧ q ≤ val b pp / V + 1 := by
  have hV0 : 0 < V := by omega
  have hp0 : 0 < b ^ k := Nat.pow_pos (by omega)
  have v2 := val_two (b := b) hlen
  rw [hvv] at v2
  have hr2 : val b (w.take k) < b ^ k := by
    have := val_lt (Lvv.take (n := k)); rwa [show (w.take k).length = k by simp; omega] at this
  have hUV : val b pp < b * V := by
    have h3 := hLp.nth (i := 0) (by omega)
    have h4 : b * (val b (pp.drop 1) + 1) ≤ b * V := Nat.mul_le_mul_left _ hd
    have h5 := val_drop_nth (b := b) (l := pp) (i := 0) (by omega)
    rw [List.drop_zero, Nat.zero_add] at h5
    rw [Nat.mul_add] at h4
    omega
  refine ⟨?_, hUV, hV0, ?_, ?_⟩
  · have e1 : nth (pp.drop 1) (k + 1) = nth pp (k + 2) := by rw [nth_drop]; congr 1; omega
    rw [← e1]
    refine val_top_le (b := b) (V := V) (r := val b (w.take (k + 1))) (by simp; omega) ?_ ?_ hd
    · have h6 := val_take_drop (b := b) (n := k + 1) (l := w) (by omega)
      rw [val_drop_nth (by omega), val_drop_out (l := w) (by omega), hvv] at h6
      rw [h6]; simp; omega
    · have := val_lt (Lvv.take (n := k + 1)); rwa [show (w.take (k + 1)).length = k + 1 by simp; omega] at this
  · have h7 := val_lt Lvv
    rw [hvv, hlen] at h7
    have : b ^ (k + 2) ≤ b ^ (k + 3) := Nat.pow_le_pow_right (by omega) (by omega)
    omega
  · intro q hg
    have v3 := val_three (b := b) hpl
    have hu3 : val b (pp.take k) < b ^ k := by
      have := val_lt (hLp.take (n := k)); rwa [show (pp.take k).length = k by simp; omega] at this
    have hWp : b * b ^ k ≤ V := by
      rw [v2]
      have h8 : 1 * b ≤ nth w (k + 1) * b := Nat.mul_le_mul_right _ htop
      have : b ^ k * b ≤ b ^ k * (nth w (k + 1) * b + nth w k) := Nat.mul_le_mul_left _ (by omega)
      rw [Nat.mul_comm b (b ^ k)]; omega
    exact ⟨guess_lo hg hp0 v2 v3 hu3 hUV, guess_hi hg v2 v3 hr2 hWp hV0⟩

theorem part_math {b j k V : Nat} {uu : List Nat} (hjk : j + (k + 2) + 1 ≤ uu.length) (hlt : val b (uu.drop (j + 1)) < V) (hV : V ≤ b ^ (k + 2)) :
    val b (uu.drop (j + 1)) = val b (((uu.drop j).take (j + (k + 2) + 1 - j)).drop 1) ∧ val b (uu.drop j) = val b ((uu.drop j).take (j + (k + 2) + 1 - j)) ∧ val b (uu.drop (j + (k + 2) + 1)) = 0 := by
  have e0 := drop_zero_of_lt (n := k + 2) (l := uu.drop (j + 1)) (by simp; omega) (Nat.lt_of_lt_of_le hlt hV)
  refine ⟨?_, ?_, ?_⟩
  · rw [val_take_drop (n := k + 2) (l := uu.drop (j + 1)) (by simp; omega), e0, List.drop_take, List.drop_drop]
    simp
    congr 2
    omega
  · rw [List.drop_drop] at e0
    rw [val_take_drop (n := k + 3) (l := uu.drop j) (by simp; omega), List.drop_drop, show j + (k + 3) = j + 1 + (k + 2) by omega, e0, show j + (k + 2) + 1 - j = k + 3 by omega]
    simp
  · rw [List.drop_drop, show j + 1 + (k + 2) = j + (k + 2) + 1 by omega] at e0; exact e0

/-- What the loop knows: how far it is. -/
structure LongAt (b j k N V : Nat) (du uu qs : List Nat) : Prop where
  jN : j ≤ N
  lu : uu.length = N + k + 2
  ld : du.length = N + k + 2
  lq : qs.length = N
  Lu : Lim b uu
  Lq : Lim b qs
  take : uu.take j = du.take j
  eq : val b (du.drop j) = val b (qs.drop j) * V + val b (uu.drop j)
  lt : val b (uu.drop j) < V

theorem LongAt.next {b j k N V : Nat} {du uu qs p2 : List Nat} (h : LongAt b (j + 1) k N V du uu qs) (hV : V ≤ b ^ (k + 2)) (hl : p2.length = k + 3) (hL : Lim b p2) (hm : val b p2 = val b ((uu.drop j).take (j + (k + 2) + 1 - j)) % V) (hq : val b ((uu.drop j).take (j + (k + 2) + 1 - j)) / V < b) :
    LongAt b j k N V du (uu.take j ++ p2 ++ uu.drop (j + (k + 2) + 1)) (qs.set j (val b ((uu.drop j).take (j + (k + 2) + 1 - j)) / V)) := by
  have hjN := h.jN
  have hlu := h.lu
  have hld := h.ld
  have hlq := h.lq
  obtain ⟨e1, e2, e3⟩ := part_math (k := k) (j := j) (by omega) h.lt hV
  have hV0 : 0 < V := Nat.lt_of_le_of_lt (Nat.zero_le _) h.lt
  have ml : (uu.take j).length = j := by simp; omega
  have hd2 : (uu.take j ++ p2 ++ uu.drop (j + (k + 2) + 1)).drop j = p2 ++ uu.drop (j + (k + 2) + 1) := by
    rw [List.append_assoc, List.drop_left' ml]
  refine ⟨by omega, by simp; omega, hld, by simpa using hlq, Lim.app.2 ⟨Lim.app.2 ⟨h.Lu.take, hL⟩, h.Lu.drop⟩, h.Lq.set hq, ?_, ?_, ?_⟩
  · rw [List.append_assoc, List.take_left' ml]
    have := congrArg (List.take j) h.take
    simpa [List.take_take, Nat.min_eq_left (Nat.le_succ j)] using this
  · have hpj : nth uu j = nth du j := by rw [← nth_take (l := uu) (n := j + 1) (by omega), h.take, nth_take (by omega)]
    have hU : val b (uu.drop j) = nth uu j + b * val b (uu.drop (j + 1)) := val_drop_nth (by omega)
    rw [hd2, val_app, e3, drop_set_eq (by omega), hm, val_drop_nth (l := du) (by omega), h.eq, ← hpj, val_cons]
    have e4 := Nat.div_add_mod (val b (uu.drop j)) V
    rw [← e2]
    generalize val b (uu.drop j) / V = a at *
    generalize val b (uu.drop j) % V = d at *
    simp only [Nat.mul_zero, Nat.add_zero]
    rw [hU] at e4
    clear hm hq e1 e2 e3 h
    grind
  · rw [hd2, val_app, e3, hm]
    simpa using Nat.mod_lt _ hV0

theorem long_loop {H3 : Heap} {k N V by_ bu bq : Nat} {du w : List Nat} {su sv sq : Sl} {Q : AM.V → Heap → Prop} (rv : Row H3 .u32 sv w) (hvu : ¬ sv.has bu) (hvq : ¬ sv.has bq) (hne : bu ≠ bq) (hlen : w.length = k + 2) (Lvv : Lim 4294967296 w) (hvv : val 4294967296 w = V) (htop : 2147483648 ≤ nth w (k + 1)) (hsz : N + k + 3 < 2000000000)
    (hus : su.ad = some (bu, 0)) (hue : su.esz = 1) (hul : su.len = N + k + 2)
    (fin : ∀ (H' : Heap) (uu qs : List Nat), Ch (fun i => i = bu ∨ i = bq) H3 H' → Mut H' .u32 ty_uint32 bu [] uu [] su → Mut H' .u32 ty_uint32 bq [] qs [] sq → LongAt 4294967296 0 k N V du uu qs → Tot (fun n => nat_long.p1 n (.int .i64 by_) (.slice su) (.slice sq) H') Q) :
    ∀ (j : Nat) (ii : Int) (H' : Heap) (uu qs : List Nat), ii = (j : Int) - 1 → Ch (fun i => i = bu ∨ i = bq) H3 H' → Mut H' .u32 ty_uint32 bu [] uu [] su → Mut H' .u32 ty_uint32 bq [] qs [] sq → LongAt 4294967296 j k N V du uu qs → ∀ m, Big m →
      Tot (fun n => nat_long.l0 n (m n) (.int .i64 by_) (.slice su) (.slice sv) (.int .i64 ((k : Int) + 2)) (.slice sq) (.int .u64 (nth w (k + 1))) (.int .u64 (nth w k)) (.int .i64 ii) H') Q := by
  intro j
  induction j with
  | zero =>
    intro ii H' uu qs hii c mu mq hA m hb
    subst hii
    refine nat_long.l0_tot hb fun m' hb' => ?_
    simp (disch := omega) []
    exact fin H' uu qs c mu mq hA
  | succ j ih =>
    intro ii H' uu qs hii c mu mq hA m hb
    have : ii = (j : Int) := by omega
    subst this
    have hjN := hA.jN
    have hlu := hA.lu
    have hlq := hA.lq
    have hVm : V ≤ 4294967296 ^ (k + 2) := by have := val_lt Lvv; rw [hvv, hlen] at this; omega
    have hjk : (j + (k + 2) + 1) ≤ uu.length := by omega
    have pt := mu.cut (i := j) (j := j + (k + 2) + 1) (by omega) hjk
    have rv' := rv.ch c fun i hi e => by rcases e with e | e <;> subst e <;> contradiction
    have hsl : slSl 1 (.slice su) (some (.int .i64 (j : Int))) (some (.int .i64 ((j : Int) + ((k : Int) + 2) + 1))) = some (.slice (subS su j (j + (k + 2) + 1))) :=
      mu.row.slice (by simp) (by rw [bndA_int (by omega)]; congr 1) (by omega) hjk
    obtain ⟨e1, e2, e3⟩ := part_math (k := k) (j := j) (by omega) hA.lt hVm
    have nx := fun p2 => hA.next (p2 := p2) hVm
    have hpl : ((uu.drop j).take (j + (k + 2) + 1 - j)).length = k + 3 := by simp; omega
    have hLp : Lim 4294967296 ((uu.drop j).take (j + (k + 2) + 1 - j)) := (hA.Lu.drop).take
    have hlt := hA.lt
    rw [e1] at hlt
    generalize (uu.drop j).take (j + (k + 2) + 1 - j) = pp at *
    have hmath := long_math (by decide) hpl hlen hLp Lvv hvv (by omega) hlt
    clear hlt e1 e2 e3
    obtain ⟨hpt2, hUV, hV0, hVM, hgg⟩ := hmath
    have htm := Lvv.nth (i := k + 1) (by decide)
    have hnm := Lvv.nth (i := k) (by decide)
    have htlt : val 4294967296 pp / V < 4294967296 := (Nat.div_lt_iff_lt_mul hV0).2 hUV
    have go : ∀ (H5 : Heap) (p2 : List Nat), Ch (· = bu) H' H5 → Mut H5 .u32 ty_uint32 bu (uu.take j) p2 (uu.drop (j + (k + 2) + 1)) (subS su j (j + (k + 2) + 1)) → p2.length = k + 3 → Lim 4294967296 p2 → val 4294967296 p2 = val 4294967296 pp % V →
        ∀ wi : Int, wi = ((val 4294967296 pp / V : Nat) : Int) → ∀ m', Big m' → Tot (fun n => bnd (stA 1 (at_ sq j) (.int .u32 wi) H5) fun H6 => nat_long.l0 n (m' n) (.int .i64 by_) (.slice su) (.slice sv) (.int .i64 ((k : Int) + 2)) (.slice sq) (.int .u64 (nth w (k + 1))) (.int .u64 (nth w k)) (.int .i64 ((j : Int) - 1)) H6) Q := by
      intro H5 p2 c5 m5 hl5 hL5 hv5 wi hwi m' hb'
      have mq5 := mq.ch c5 (fun e => hne e.symm)
      refine Tot.st mq5 (x := val 4294967296 pp / V) (by omega) hwi ?_
      intro H6 mq6 c6
      have hw : Mut H6 .u32 ty_uint32 bu [] (uu.take j ++ p2 ++ uu.drop (j + (k + 2) + 1)) [] su := (m5.ch c6 hne).whole hus hue rfl (by rw [hul]; simp; omega)
      exact ih _ H6 _ _ rfl ((c.trans c5 fun i hi e => .inl e).trans c6 fun i hi e => .inr e) hw mq6 (nx p2 hl5 hL5 hv5 htlt) _ hb'
    refine nat_long.l0_tot hb fun m' hb' => ?_
    simp (disch := omega) [hsl]
    refine Tot.bind (nat_guess_spec pt.row hpl (by omega) hLp rfl rfl htop htm hnm hpt2) ?_
    rintro v H' ⟨rfl, q, rfl, hg⟩
    obtain ⟨glo, ghi⟩ := hgg q hg
    clear hgg
    have hq := hg.1
    clear hg
    try dsimp only at *
    refine Tot.bind (nat_off_spec pt rv' hvu (by omega) (by omega) hLp Lvv rfl hq) ?_
    rintro v H4 ⟨c4, p1, f, rfl, hf, pt4, hp1, hLp1, hv4⟩
    rw [hvv, hpl] at hv4
    have hP1 : val 4294967296 p1 < 4294967296 ^ (k + 3) := by rw [← hpl, ← hp1]; exact val_lt hLp1
    have st := fun f2 P2 => long_step (f2 := f2) (P2 := P2) (t := val 4294967296 pp / V) rfl hV0 glo ghi hv4 hP1 hVM
    clear hv4
    simp (disch := omega) [mq.row.idxN (i := j) (by omega)]
    refine Tot.ite (fun hf0 => ?_) (fun hf0 => ?_)
    · have hf1 : f = 0 := hf0
      obtain ⟨hq1, hmod⟩ := (st 0 0).1 hf1
      refine go H4 p1 c4 pt4 (by omega) hLp1 hmod _ ?_ _ hb'
      rw [hq1]
    · have hf1 : f = 1 := by omega
      have hq1 := ((st 0 0).2 hf1).1
      refine Tot.bind (nat_back_spec pt4 (rv'.ch c4 fun i hi e => hvu (e ▸ hi)) hvu (by omega) (by omega) hLp1 Lvv) ?_
      rintro v H5 ⟨c5, p2, f2, hf2, pt5, hp2, hLp2, hv5⟩
      rw [hvv, hp1, hpl] at hv5
      have hP2 : val 4294967296 p2 < 4294967296 ^ (k + 3) := by rw [← hpl, ← hp1, ← hp2]; exact val_lt hLp2
      have hmod := ((st f2 (val 4294967296 p2)).2 hf1).2 hv5 hf2 hP2
      refine go H5 p2 (c4.trans c5 fun i hi e => e) pt5 (by omega) hLp2 hmod _ ?_ _ hb'
      rw [hq1] at hq ⊢
      clear hmod hv5 hP2 st hq1 go nx fin ih
      generalize val 4294967296 pp / V = z at *
      rw [wrap_u64 (by omega), wrap_u32 (by omega)]; omega

theorem nth_out {l : List Nat} {i : Nat} (h : l.length ≤ i) : nth l i = 0 := by
  simp [nth, List.getD_eq_getElem?_getD, List.getElem?_eq_none h]
theorem val_mod {b i : Nat} {l : List Nat} (hb : 0 < b) (h : Lim b l) : val b (l.drop i) % b = nth l i := by
  rcases Nat.lt_or_ge i l.length with h1 | h1
  · rw [val_drop_nth h1, Nat.add_mul_mod_self_left, Nat.mod_eq_of_lt (h.nth hb)]
  · rw [val_drop_out h1, nth_out h1]; simp
theorem trimZ_split (l : List Nat) : l = trimZ l ++ l.drop (trimZ l).length := by
  have h := trimZ_take _ (l := l) rfl
  conv => lhs; rw [← List.take_append_drop (trimZ l).length l, ← h]

theorem long_fin {H : Heap} {by_ bu bq : Nat} {uu qs : List Nat} {su sq : Sl} (mu : Mut H .u32 ty_uint32 bu [] uu [] su) (mq : Mut H .u32 ty_uint32 bq [] qs [] sq) (hne : bu ≠ bq) (hlu : uu.length < 2000000000) (hlq : qs.length < 2000000000) (hLu : Lim 4294967296 uu) (hLq : Lim 4294967296 qs) (hb : by_ ≤ 31) :
    Tot (fun n => nat_long.p1 n (.int .i64 by_) (.slice su) (.slice sq) H) fun v H' => Ch (· = bu) H H' ∧ ∃ s1 s2, v = .tuple [.slice s1, .slice s2] ∧ Row H' .u32 s1 (dig 4294967296 (val 4294967296 qs)) ∧ Row H' .u32 s2 (dig 4294967296 (val 4294967296 uu / 2 ^ by_)) ∧ (∀ i, s1.has i → i = bq) ∧ ∀ i, s2.has i → i = bu := by
  have hf0 : 0 < 2 ^ by_ := Nat.two_pow_pos _
  have hf31 := pow_le31 hb
  have hg0 : 0 < 2 ^ (32 - by_) := Nat.two_pow_pos _
  have hfg : 4294967296 = 2 ^ by_ * 2 ^ (32 - by_) := by rw [← Nat.pow_add, show by_ + (32 - by_) = 32 by omega]
  refine Tot.of fun Q hQ => ?_
  refine nat_long.p1_tot ?_
  simp only [nat_long.p1_b]
  refine Tot.bind (nat_trim_spec mu.row (by omega)) ?_
  rintro v H ⟨rfl, s1, rfl, r1, -, had, hez⟩
  have k1 := trimZ_len_le _ (l := uu) rfl
  have m1 := mu.pre (t := s1) (trimZ_split uu) had (hez mu.esz) r1.len
  have hLr : Lim 4294967296 (trimZ uu) := hLu.trimZ
  have hvr := val_trimZ (b := 4294967296) _ (l := uu) rfl
  generalize trimZ uu = r at *
  generalize uu.drop r.length ++ [] = rest at *
  simp (disch := omega) [r1.lenSl]
  have lp : ∀ (j : Nat) (ii ci : Int) (H' : Heap) (o : List Nat) (c : Nat), ii = (j : Int) - 1 → ci = (c : Int) → j ≤ r.length → Ch (· = bu) H H' → Mut H' .u32 ty_uint32 bu [] o rest s1 → o.length = r.length → Lim 4294967296 o → o.take j = r.take j → c < 18446744073709551616 → c % 4294967296 = nth r j →
      val 4294967296 (o.drop j) = val 4294967296 (r.drop j) / 2 ^ by_ → ∀ m, Big m → Tot (fun n => nat_long.l2 n (m n) (.int .i64 by_) (.slice sq) (.slice s1) (.int .u64 ci) (.int .i64 ii) H') Q := by
    intro j
    induction j with
    | zero =>
      intro ii ci H' o c hii hci hj c0 mo ho hLo ht hc hcm hv m hbm
      subst hii hci
      refine nat_long.l2_tot hbm fun m' hb' => ?_
      simp (disch := omega) []
      refine nat_long.p3_tot ?_
      simp only [nat_long.p3_b]
      have mq' := mq.ch c0 (fun e => hne e.symm)
      refine Tot.bind (nat_trim_spec mq'.row (by omega)) ?_
      rintro v H1 ⟨rfl, s2, rfl, r2, f2, -⟩
      refine Tot.bind (nat_trim_spec mo.row (by omega)) ?_
      rintro v H1 ⟨rfl, s3, rfl, r3, f3, -⟩
      rw [trimZ_dig (b := 4294967296) (by decide) hLq] at r2
      rw [List.drop_zero, List.drop_zero, hvr] at hv
      rw [trimZ_dig (b := 4294967296) (by decide) hLo, hv] at r3
      exact Tot.ret (hQ _ _ ⟨c0, _, _, rfl, r2, r3, fun i hi => mq'.has.1 (f2 i hi), fun i hi => mo.has.1 (f3 i hi)⟩)
    | succ j ih =>
      intro ii ci H' o c hii hci hj c0 mo ho hLo ht hc hcm hv m hbm
      have : ii = (j : Int) := by omega
      subst this hci
      refine nat_long.l2_tot hbm fun m' hb' => ?_
      have hx := hLo.nth (i := j) (by decide)
      have hxe : nth o j = nth r j := by rw [← nth_take (l := o) (n := j + 1) (by omega), ht, nth_take (by omega)]
      have hw : IntKind.u64.wrap ((c : Int) * 4294967296) = ((c % 4294967296 : Nat) : Int) * 4294967296 := by rw [wrap_u64m]; omega
      have hcw : c % 4294967296 < 4294967296 := Nat.mod_lt _ (by decide)
      have hsw := shr_word (f := 2 ^ by_) (g := 2 ^ (32 - by_)) (W := 4294967296) (x := nth o j) (X := val 4294967296 (r.drop (j + 1))) hf0 hfg hg0 hx
      rw [val_mod (by decide) hLr, ← hcm] at hsw
      generalize c % 4294967296 = cc at *
      have hor : arA .or (.int .u64 ((cc : Int) * 4294967296)) (.int .u64 (nth o j : Int)) = some (.int .u64 ((cc * 4294967296 + nth o j : Nat) : Int)) := by rw [or32 ⟨hcw, hx⟩]; simp
      simp (disch := omega) [mo.row.idx, mo.row.get, sh_l32, hw, hor]
      obtain ⟨cn, hcn⟩ : ∃ cn, cn = cc * 4294967296 + nth o j := ⟨_, rfl⟩
      have hci : ((cc : Int) * 4294967296 + (nth o j : Int)) = (cn : Int) := by omega
      rw [hci]
      simp (disch := omega) [sh_r]
      rw [← hcn] at hsw
      refine Tot.st mo (x := cn / 2 ^ by_ % 4294967296) (by omega) ?_ ?_
      · rw [wrap_u32m]; simp
      intro H3 mo3 c3
      refine ih _ _ H3 _ cn (by omega) rfl (by omega) (c0.trans c3 fun i hi e => e) mo3 (by simpa using ho) (hLo.set (Nat.mod_lt _ (by decide))) ?_ (by omega) (by rw [hcn, ← hxe]; omega) ?_ _ hb'
      · rw [take_set_le (Nat.le_refl _)]
        have := congrArg (List.take j) ht
        simpa [List.take_take, Nat.min_eq_left (Nat.le_succ j)] using this
      · rw [drop_set_eq (by omega), val_cons, hv, val_drop_nth (l := r) (i := j) (by omega), ← hxe]
        exact hsw.symm
  exact lp r.length _ _ H r 0 rfl rfl (Nat.le_refl _) Ch.refl m1 rfl hLr rfl (by decide) (by rw [nth_out (Nat.le_refl _)]) (by rw [List.drop_length]; simp [val]) _ Big.id

set_option maxHeartbeats 4000000 in
theorem nat_long_spec {H : Heap} {s t : Sl} {l lb : List Nat} (h : Row H .u32 s l) (h' : Row H .u32 t lb) (hm : l.length < 1900000000) (hL : Lim 4294967296 l) (hL' : Lim 4294967296 lb) (hT : Trimmed lb) (h2 : 2 ≤ lb.length) (hle : lb.length ≤ l.length) :
    Tot (fun n => f_nat_long n [.slice s, .slice t] H) fun v H' => Ext0 H H' ∧ ∃ s1 s2, v = .tuple [.slice s1, .slice s2] ∧ Row H' .u32 s1 (dig 4294967296 (val 4294967296 l / val 4294967296 lb)) ∧ Row H' .u32 s2 (dig 4294967296 (val 4294967296 l % val 4294967296 lb)) ∧ Fr H.n s1 ∧ Fr H.n s2 := by
  refine Tot.of fun Q hQ => ?_
  refine nat_long_tot ?_
  obtain ⟨k, hk⟩ : ∃ k, lb.length = k + 2 := ⟨lb.length - 2, by omega⟩
  rcases snoc_cases lb with rfl | ⟨lb', x, hlb⟩
  · simp at h2
  have hlb' : lb'.length = k + 1 := by rw [hlb] at hk; simpa using hk
  have hx0 : x ≠ 0 := (hlb ▸ hT).last
  have hx : nth lb (k + 1) = x := by rw [hlb, ← hlb']; exact nth_app_len
  have hxm : x < 4294967296 := by rw [← hx]; exact hL'.nth (by decide)
  have hbl : blen x ≤ 32 := blen_le (by simpa using hxm)
  have hbl1 : 1 ≤ blen x := by
    rcases Nat.eq_zero_or_pos (blen x) with e | e
    · have := blen_lt x; rw [e] at this; omega
    · exact e
  obtain ⟨by_, hby⟩ : ∃ by_, by_ = 32 - blen x := ⟨_, rfl⟩
  have hby31 : by_ ≤ 31 := by omega
  simp (disch := omega) [h'.lenSl, h'.idxN (i := k + 1) (by omega), h'.get]
  rw [hx]
  refine Tot.bind (Lz32_spec rfl hxm) ?_
  rintro v H ⟨rfl, rfl⟩
  try dsimp only
  rw [← hby]
  refine Tot.bind (nat_shift_spec h (by omega) hL rfl hby31) ?_
  rintro v H1 ⟨c1, su, du, rfl, ou, fu, lu, Lu, vu⟩
  try dsimp only
  refine Tot.bind (nat_shift_spec (h'.ext c1) (by omega) hL' rfl hby31) ?_
  rintro v H2 ⟨c2, sv, dv, rfl, ov, fv, lv, Lv, vv⟩
  try dsimp only
  refine Tot.bind (nat_trim_spec ov.row (by omega)) ?_
  rintro v H2 ⟨rfl, sv', rfl, rv, fv', -⟩
  try dsimp only
  rw [trimZ_dig (b := 4294967296) (by decide) Lv, vv] at rv
  -- the divisor
  have hf0 : 0 < 2 ^ by_ := Nat.two_pow_pos _
  have hf31 := pow_le31 hby31
  have hlo : 2147483648 ≤ x * 2 ^ by_ := by
    have h3 := le_of_blen hx0
    have h4 : 2 ^ (blen x - 1) * 2 ^ by_ ≤ x * 2 ^ by_ := Nat.mul_le_mul_right _ h3
    rw [← Nat.pow_add, show blen x - 1 + by_ = 31 by omega] at h4
    exact h4
  have hhi : (x + 1) * 2 ^ by_ ≤ 4294967296 := by
    have h3 := blen_lt x
    have h4 : (x + 1) * 2 ^ by_ ≤ 2 ^ blen x * 2 ^ by_ := Nat.mul_le_mul_right _ h3
    rw [← Nat.pow_add, show blen x + by_ = 32 by omega] at h4
    exact h4
  have hB : val 4294967296 lb = val 4294967296 lb' + 4294967296 ^ (k + 1) * x := by rw [hlb, val_snoc, hlb']
  have hB' : val 4294967296 lb' < 4294967296 ^ (k + 1) := by rw [← hlb']; exact val_lt (Lim.app.1 (hlb ▸ hL')).1
  have hVlo : 4294967296 ^ (k + 1) * 2147483648 ≤ val 4294967296 lb * 2 ^ by_ := by
    have : 4294967296 ^ (k + 1) * 2147483648 ≤ 4294967296 ^ (k + 1) * (x * 2 ^ by_) := Nat.mul_le_mul_left _ hlo
    rw [hB, Nat.add_mul, Nat.mul_assoc]; omega
  have hVhi : val 4294967296 lb * 2 ^ by_ < 4294967296 ^ (k + 2) := by
    have h3 : (val 4294967296 lb' + 4294967296 ^ (k + 1) * x) * 2 ^ by_ < (4294967296 ^ (k + 1) * (x + 1)) * 2 ^ by_ := Nat.mul_lt_mul_of_pos_right (by rw [Nat.mul_add]; omega) hf0
    have h4 : 4294967296 ^ (k + 1) * ((x + 1) * 2 ^ by_) ≤ 4294967296 ^ (k + 1) * 4294967296 := Nat.mul_le_mul_left _ hhi
    rw [hB, Nat.pow_succ 4294967296 (k + 1)]
    rw [Nat.mul_assoc] at h3
    omega
  have Lvv := dig_lim (b := 4294967296) (by decide) (val 4294967296 lb * 2 ^ by_)
  have hvv := val_dig (b := 4294967296) (by decide) (val 4294967296 lb * 2 ^ by_)
  have hlen : (dig 4294967296 (val 4294967296 lb * 2 ^ by_)).length = k + 2 := by
    have a1 := dig_len_le (b := 4294967296) (by decide) hVhi
    have a2 := dig_len_lt (b := 4294967296) (x := val 4294967296 lb * 2 ^ by_) (by decide)
    rcases Nat.lt_or_ge (dig 4294967296 (val 4294967296 lb * 2 ^ by_)).length (k + 2) with a3 | a3
    · have a4 : 4294967296 ^ (dig 4294967296 (val 4294967296 lb * 2 ^ by_)).length ≤ 4294967296 ^ (k + 1) := Nat.pow_le_pow_right (by decide) (by omega)
      have a5 : 4294967296 ^ (k + 1) * 1 ≤ 4294967296 ^ (k + 1) * 2147483648 := Nat.mul_le_mul_left _ (by decide)
      omega
    · omega
  obtain ⟨V, hV⟩ : ∃ V, V = val 4294967296 lb * 2 ^ by_ := ⟨_, rfl⟩
  obtain ⟨A, hA⟩ : ∃ A, A = val 4294967296 l * 2 ^ by_ := ⟨_, rfl⟩
  rw [← hV] at hVlo hVhi Lvv hvv hlen rv
  rw [← hA] at vu
  generalize dig 4294967296 V = w at *
  -- its two highest words
  have hp0 : 0 < 4294967296 ^ k := Nat.pow_pos (by decide)
  have v2 := val_two (b := 4294967296) hlen
  rw [hvv] at v2
  have hr2 : val 4294967296 (w.take k) < 4294967296 ^ k := by
    have := val_lt (Lvv.take (n := k)); rwa [show (w.take k).length = k by simp; omega] at this
  have htop : 2147483648 ≤ nth w (k + 1) := by
    have v1 : val 4294967296 w = val 4294967296 (w.take (k + 1)) + 4294967296 ^ (k + 1) * nth w (k + 1) := by
      rw [val_take_drop (n := k + 1) (by omega), val_drop_nth (by omega), val_drop_out (by omega)]; simp
    rw [hvv] at v1
    have hr1 : val 4294967296 (w.take (k + 1)) < 4294967296 ^ (k + 1) := by
      have := val_lt (Lvv.take (n := k + 1)); rwa [show (w.take (k + 1)).length = k + 1 by simp; omega] at this
    apply Nat.le_of_not_lt
    intro hlt
    have : 4294967296 ^ (k + 1) * (nth w (k + 1) + 1) ≤ 4294967296 ^ (k + 1) * 2147483648 := Nat.mul_le_mul_left _ hlt
    rw [Nat.mul_add] at this
    omega
  have htm := Lvv.nth (i := k + 1) (by decide)
  have hnm := Lvv.nth (i := k) (by decide)
  have hV0 : 0 < V := by
    have : 0 < 4294967296 ^ (k + 1) := Nat.pow_pos (by decide)
    omega
  have eq0 : ((du.length : Int) - ((k : Int) + 2)).toNat = l.length - k - 1 := by omega
  obtain ⟨N, hN⟩ : ∃ N, N = l.length - k - 1 := ⟨_, rfl⟩
  have rvp : ∀ o, Row (H2.push o) .u32 sv' w := fun o => rv.ext Ch.push
  simp (disch := omega) [rv.lenSl, hlen, ou.row.lenSl, eq0, rv.idxN (i := k + 1) (by omega), rv.idxN (i := k) (by omega), (rvp _).get]
  rw [← hN]
  obtain ⟨bu, mu, fu0⟩ := ou.mut (by intro e; subst e; simp at lu)
  have hbu : H.n ≤ bu := fu bu (mu.has.2 rfl)
  have hbu1 := mu.lt
  have hn1 := c1.n
  have hn2 := c2.n
  have hvid : ∀ i, sv'.has i → H1.n ≤ i ∧ i < H2.n := fun i hi => ⟨fv i (fv' i hi), rv.lt hi⟩
  obtain ⟨H3, hH3⟩ : ∃ H3, H3 = H2.push (O.cells (List.replicate N (AM.V.int .u32 0)) ty_uint32 false) := ⟨_, rfl⟩
  have c3 : Ext0 H2 H3 := by rw [hH3]; exact Ch.push
  have mq : Mut H3 .u32 ty_uint32 H2.n [] (List.replicate N 0) [] ⟨some (H2.n, 0), N, 1, false⟩ := by rw [hH3]; exact Mut.make
  rw [← hH3]
  have mu3 := mu.ext (c2.t c3)
  have rv3 := rv.ext c3
  have cH3 : Ext0 H H3 := (c1.t c2).t c3
  generalize (⟨some (H2.n, 0), N, 1, false⟩ : Sl) = sq at *
  clear hH3 rvp
  have hlu : du.length = l.length + 1 := lu
  have hVV : V ≤ 4294967296 ^ (k + 2) := by omega
  have hN2 : l.length = N + k + 1 := by omega
  have hAlt : A < 4294967296 ^ N * V := by
    have h3 := val_lt hL
    have h4 : val 4294967296 l * 2 ^ by_ < 4294967296 ^ l.length * 2 ^ by_ := Nat.mul_lt_mul_of_pos_right h3 hf0
    have h5 : 4294967296 ^ l.length * 2 ^ by_ ≤ 4294967296 ^ l.length * 2147483648 := Nat.mul_le_mul_left _ hf31
    have h6 : 4294967296 ^ N * (4294967296 ^ (k + 1) * 2147483648) ≤ 4294967296 ^ N * V := Nat.mul_le_mul_left _ hVlo
    rw [← Nat.mul_assoc, ← Nat.pow_add, show N + (k + 1) = l.length by omega] at h6
    omega
  have hdl : val 4294967296 (du.drop N) < V := by
    have h3 := val_take_drop (b := 4294967296) (n := N) (l := du) (by omega)
    rw [vu] at h3
    apply Nat.lt_of_mul_lt_mul_left (a := 4294967296 ^ N)
    omega
  have hvN : val 4294967296 l * 2 ^ by_ = A := hA.symm
  clear vv Lv lv ov fv c1 c2 c3 v2 hr2 hp0 htm hnm hhi hlo hB hB' hVlo hVhi
  refine long_loop rv3 (fun e => by have := hvid _ e; omega) (fun e => by have := hvid _ e; omega) (by omega) hlen Lvv hvv htop (by omega) mu3.ad mu3.esz (by rw [mu3.len]; omega) ?_ N _ H3 du (List.replicate N 0) (by omega) Ch.refl mu3 mq
    ⟨Nat.le_refl _, by omega, by omega, by simp, Lu, by intro y hy; simp at hy; omega, rfl, ?_, hdl⟩ _ Big.id
  · intro H' uu qs c mu mq hAt
    refine Tot.mono (long_fin (bq := H2.n) mu mq (by omega) (by have := hAt.lu; omega) (by have := hAt.lq; omega) hAt.Lu hAt.Lq hby31) ?_
    rintro v H4 ⟨c4, s1, s2, rfl, r1, r2, f1, f2⟩
    have he := hAt.eq
    have hl := hAt.lt
    simp only [List.drop_zero] at he hl
    rw [vu] at he
    obtain ⟨q1, q2⟩ := val_inj_div he hl
    rw [q1, ← hvN, hV, Nat.mul_div_mul_right _ _ hf0] at r1
    rw [q2, ← hvN, hV, Nat.mul_mod_mul_right, Nat.mul_div_cancel _ hf0] at r2
    refine hQ _ _ ⟨(cH3.trans c ?_).trans c4 ?_, s1, s2, rfl, r1, r2, fun i hi => by have := f1 i hi; omega, fun i hi => by have := f2 i hi; omega⟩
    · intro i hi e; rcases e with e | e <;> omega
    · intro i hi e; omega
  · rw [List.drop_replicate, val_zero]; simp
end Go.AM
end

section
set_option linter.unusedVariables false
set_option linter.unusedSimpArgs false
/- What the numbers' functions of package nat give: division, the greatest common divisor. -/
set_option linter.unusedSimpArgs false
set_option linter.unusedVariables false
namespace Go.AM

/-- A number, in its one form. -/
def isN (H : Heap) (v : V) (x : Nat) : Prop := ∃ s, v = .slice s ∧ Row H .u32 s (dig 4294967296 x)
theorem isN.ch {X : Nat → Prop} {H H' : Heap} {v : V} {x : Nat} (h : isN H v x) (c : Ext0 H H') : isN H' v x := by
  obtain ⟨s, rfl, r⟩ := h; exact ⟨s, rfl, r.ext c⟩
theorem sz_mono {x y : Nat} (h : x ≤ y) : (dig 4294967296 x).length ≤ (dig 4294967296 y).length := by
  apply dig_len_le (by decide)
  exact Nat.lt_of_le_of_lt h (dig_len_lt (by decide))
theorem digL (x : Nat) : Lim 4294967296 (dig 4294967296 x) := dig_lim (by decide) x
theorem digV (x : Nat) : val 4294967296 (dig 4294967296 x) = x := val_dig (by decide) x

theorem dig_one {x : Nat} (h : x < 4294967296) (h0 : x ≠ 0) : dig 4294967296 x = [x] := by
  rw [dig_pos (by decide) h0, Nat.mod_eq_of_lt h, Nat.div_eq_of_lt h, dig_zero]

theorem nat_divmod_spec {H : Heap} {s t : Sl} {x y : Nat} (h : Row H .u32 s (dig 4294967296 x)) (h' : Row H .u32 t (dig 4294967296 y)) (hy : 0 < y) (hm : (dig 4294967296 x).length < 1900000000) (hm' : (dig 4294967296 y).length < 1900000000) :
    Tot (fun n => f_nat_divmod n [.slice s, .slice t] H) fun v H' => Ext0 H H' ∧ ∃ s1 s2, v = .tuple [.slice s1, .slice s2] ∧ Row H' .u32 s1 (dig 4294967296 (x / y)) ∧ Row H' .u32 s2 (dig 4294967296 (x % y)) ∧ Fr H.n s1 ∧ Fr H.n s2 := by
  refine Tot.of fun Q hQ => ?_
  refine nat_divmod_tot ?_
  simp only [nat_divmod_b]
  refine Tot.bind (nat_cmp_spec h h' (by omega) (by omega) (digL _) (digL _)) ?_
  rintro v H ⟨rfl, rfl⟩
  rw [digV, digV]
  by_cases hlt : x < y
  · simp only [cmpN, if_pos hlt]
    simp (disch := omega) []
    refine Tot.bind (clone_spec h (by omega)) ?_
    rintro v H1 ⟨c1, s1, rfl, o1, f1⟩
    refine Tot.ret (hQ _ _ ⟨c1, _, _, rfl, ?_, ?_, Fr.nil, f1⟩)
    · rw [Nat.div_eq_of_lt hlt, dig_zero]; exact Row.nil
    · rw [Nat.mod_eq_of_lt hlt]; exact o1.row
  · have hc : ¬ cmpN x y < 0 := by simp only [cmpN, if_neg hlt]; split <;> omega
    have hx0 : x ≠ 0 := by omega
    simp (disch := omega) [hc, h'.lenSl]
    refine Tot.ite (fun h1 => ?_) (fun h1 => ?_)
    · have hl1 : (dig 4294967296 y).length = 1 := by omega
      have hyW : y < 4294967296 := by have := dig_len_lt (b := 4294967296) (x := y) (by decide); rw [hl1] at this; omega
      have hy1 := dig_one hyW (by omega)
      refine Tot.bind (clone_spec h (by omega)) ?_
      rintro v H1 ⟨c1, s1, rfl, o1, f1⟩
      obtain ⟨b, m1, hf⟩ := o1.mut (by rw [Ne, dig_eq_nil (by decide)]; exact hx0)
      have hb := f1 b (m1.has.2 rfl)
      have r' := h'.ext c1
      rw [hy1] at r'
      have hg0 := r'.get (i := 0) (by simp)
      rw [show nth [y] 0 = y from rfl] at hg0
      simp (disch := omega) [r'.idxN (i := 0) (by simp), hg0]
      refine Tot.bind (nat_short_spec m1 (by omega) (digL x) rfl hy hyW) ?_
      rintro v H2 ⟨c2, rfl, l2, m2, hl2, hL2, hv2⟩
      rw [digV] at hv2
      refine Tot.bind (nat_trim_spec m2.row (by omega)) ?_
      rintro v H2 ⟨rfl, s3, rfl, r3, f3, -⟩
      rw [trimZ_dig (b := 4294967296) (by decide) hL2, hv2] at r3
      have hrm : x % y < 4294967296 := Nat.lt_trans (Nat.mod_lt _ hy) hyW
      have hbs : bSl 1 ty_uint32 [.int .u32 0] 1 [(0, .int .u32 ((x % y : Nat) : Int))] = some (.cells (nums .u32 [x % y]) ty_uint32 false) := by simp [bSl, rowA]
      rw [digV]
      simp only [hbs, bnd_some]
      have hr4 := (Own.new (H := H2) (k := .u32) (e := ty_uint32) (l := [x % y])).row
      refine Tot.bind (nat_trim_spec hr4 (by simp)) ?_
      rintro v H4 ⟨rfl, s4, rfl, r4, f4, -⟩
      rw [trimZ_dig (b := 4294967296) (by decide) (Lim.one.2 hrm), val_one] at r4
      exact Tot.ret (hQ _ _ ⟨(c1.trans c2 fun i hi e => by omega).push', _, _, rfl, r3.ext Ch.push, r4, fun i hi => by have := m2.has.1 (f3 i hi); omega, fun i hi => by have := has_mk.1 (f4 i hi); have := c1.n; have := c2.n; omega⟩)
    · have hl2 : 2 ≤ (dig 4294967296 y).length := by
        rcases Nat.eq_zero_or_pos (dig 4294967296 y).length with e | e
        · have := List.eq_nil_of_length_eq_zero e
          rw [dig_eq_nil (by decide)] at this; omega
        · omega
      refine Tot.bind (nat_long_spec h h' (by omega) (digL _) (digL _) (dig_trimmed (by decide) y) hl2 (sz_mono (by omega))) ?_
      rintro v H1 ⟨c1, s1, s2, rfl, r1, r2, f1, f2⟩
      rw [digV, digV] at r1 r2
      simp (disch := omega) []
      exact Tot.ret (hQ _ _ ⟨c1, _, _, rfl, r1, r2, f1, f2⟩)

theorem nat_DivMod_spec {H : Heap} {s t : Sl} {l lb : List Nat} (h : Row H .u32 s l) (h' : Row H .u32 t lb) (hL : Lim 4294967296 l) (hL' : Lim 4294967296 lb) (hm : l.length < 1900000000) (hm' : lb.length < 1900000000) (hy : 0 < val 4294967296 lb) :
    Tot (fun n => f_nat_DivMod n [.slice s, .slice t] H) fun v H' => Ext0 H H' ∧ ∃ s1 s2, v = .tuple [.slice s1, .slice s2, .int .i64 0] ∧ Row H' .u32 s1 (dig 4294967296 (val 4294967296 l / val 4294967296 lb)) ∧ Row H' .u32 s2 (dig 4294967296 (val 4294967296 l % val 4294967296 lb)) ∧ Fr H.n s1 ∧ Fr H.n s2 := by
  refine Tot.of fun Q hQ => ?_
  refine nat_DivMod_tot ?_
  simp only [nat_DivMod_b]
  have k1 := trimZ_len_le _ (l := l) rfl
  have k2 := trimZ_len_le _ (l := lb) rfl
  refine Tot.bind (nat_trim_spec h (by omega)) ?_
  rintro v H ⟨rfl, s1, rfl, r1, -⟩
  refine Tot.bind (nat_trim_spec h' (by omega)) ?_
  rintro v H ⟨rfl, s2, rfl, r2, -⟩
  rw [trimZ_dig (b := 4294967296) (by decide) hL] at r1 k1
  rw [trimZ_dig (b := 4294967296) (by decide) hL'] at r2 k2
  have hne : (dig 4294967296 (val 4294967296 lb)).length ≠ 0 := by
    intro e
    have := List.eq_nil_of_length_eq_zero e
    rw [dig_eq_nil (by decide)] at this; omega
  simp (disch := omega) [r2.lenSl]
  refine Tot.no (by simpa using hne) ?_
  refine Tot.bind (nat_divmod_spec r1 r2 hy (by omega) (by omega)) ?_
  rintro v H1 ⟨c1, s3, s4, rfl, r3, r4, f3, f4⟩
  simp (disch := omega) []
  exact Tot.ret (hQ _ _ ⟨c1, _, _, rfl, r3, r4, f3, f4⟩)

theorem nat_Gcd_spec {H : Heap} {s t : Sl} {l lb : List Nat} (h : Row H .u32 s l) (h' : Row H .u32 t lb) (hL : Lim 4294967296 l) (hL' : Lim 4294967296 lb) (hm : l.length < 1900000000) (hm' : lb.length < 1900000000) :
    Tot (fun n => f_nat_Gcd n [.slice s, .slice t] H) fun v H' => Ext0 H H' ∧ ∃ s1, v = .slice s1 ∧ Row H' .u32 s1 (dig 4294967296 (Nat.gcd (val 4294967296 l) (val 4294967296 lb))) ∧ Fr H.n s1 := by
  refine Tot.of fun Q hQ => ?_
  refine nat_Gcd_tot ?_
  simp only [nat_Gcd_b]
  have k1 := trimZ_len_le _ (l := l) rfl
  have k2 := trimZ_len_le _ (l := lb) rfl
  refine Tot.bind (nat_trim_spec h (by omega)) ?_
  rintro v H ⟨rfl, s1, rfl, r1, -⟩
  rw [trimZ_dig (b := 4294967296) (by decide) hL] at r1 k1
  refine Tot.bind (clone_spec r1 (by omega)) ?_
  rintro v H1 ⟨c1, s2, rfl, o2, f2⟩
  refine Tot.bind (nat_trim_spec (h'.ext c1) (by omega)) ?_
  rintro v H1 ⟨rfl, s3, rfl, r3, -⟩
  rw [trimZ_dig (b := 4294967296) (by decide) hL'] at r3 k2
  refine Tot.bind (clone_spec r3 (by omega)) ?_
  rintro v H2 ⟨c2, s4, rfl, o4, f4⟩
  have lp : ∀ (y x : Nat) (s t : Sl) (H' : Heap), Ext0 H H' → Row H' .u32 s (dig 4294967296 x) → Row H' .u32 t (dig 4294967296 y) → Fr H.n s → Fr H.n t → (dig 4294967296 x).length < 1900000000 → (dig 4294967296 y).length < 1900000000 → Nat.gcd x y = Nat.gcd (val 4294967296 l) (val 4294967296 lb) →
      ∀ m, Big m → Tot (fun n => nat_Gcd.l0 n (m n) (.slice s) (.slice t) H') Q := by
    intro y
    induction y using Nat.strongRecOn with
    | ind y ih =>
      intro x s t H' c r1 r2 fs ft hx hy hg m hb
      refine nat_Gcd.l0_tot hb fun m' hb' => ?_
      simp (disch := omega) [r2.lenSl]
      refine Tot.ite (fun h0 => ?_) (fun h0 => ?_)
      · have hy0 : 0 < y := by
          rcases Nat.eq_zero_or_pos y with e | e
          · subst e; rw [dig_zero] at h0; simp at h0
          · exact e
        refine Tot.bind (nat_divmod_spec r1 r2 hy0 hx hy) ?_
        rintro v H3 ⟨c3, s5, s6, rfl, r5, r6, f5, f6⟩
        simp (disch := omega) []
        have hlt := Nat.mod_lt x hy0
        exact ih (x % y) hlt y t s6 H3 (c.t c3) (r2.ext c3) r6 ft (fun i hi => Nat.le_trans c.n (f6 i hi)) hy (Nat.lt_of_le_of_lt (sz_mono (Nat.le_of_lt hlt)) hy) (by rw [← hg, Nat.gcd_comm y, ← Nat.gcd_rec, Nat.gcd_comm]) _ hb'
      · have hy0 : y = 0 := by
          rw [← dig_eq_nil (b := 4294967296) (by decide)]
          exact List.eq_nil_of_length_eq_zero (by omega)
        subst hy0
        rw [Nat.gcd_zero_right] at hg
        subst hg
        exact Tot.ret (hQ _ _ ⟨c, _, rfl, r1, fs⟩)
  exact lp _ _ _ _ _ (c1.t c2) (o2.row.ext c2) o4.row f2 (fun i hi => Nat.le_trans c1.n (f4 i hi)) (by omega) (by omega) rfl _ Big.id
end Go.AM
end

section
set_option linter.unusedVariables false
set_option linter.unusedSimpArgs false
/- What the numbers' functions of package nat give: Show. -/
set_option linter.unusedSimpArgs false
set_option linter.unusedVariables false
namespace Go.AM

/-- A number in decimal digits, the lowest first, as letters. -/
def lets (l : List Nat) : List Nat := l.map fun d => 48 + d
/-- A number in decimal digits. -/
def dec (x : Nat) : List UInt8 := if x = 0 then [48] else (lets (dig 10 x)).reverse.map UInt8.ofNat

theorem nth_rev {l : List Nat} {i : Nat} (h : i < l.length) : nth l.reverse i = nth l (l.length - 1 - i) := by
  simp [nth, List.getD_eq_getElem?_getD, List.getElem?_reverse h]
theorem ext_nth {l l' : List Nat} (hl : l.length = l'.length) (h : ∀ i, i < l.length → nth l i = nth l' i) : l = l' := by
  apply List.ext_getElem hl
  intro i h1 h2
  have := h i h1
  simpa [nth, List.getD_eq_getElem?_getD, List.getElem?_eq_getElem h1, List.getElem?_eq_getElem h2] using this

theorem Reverse_spec {H : Heap} {s : Sl} {l q : List Nat} {b : Nat} (h : Mut H .u8 ty_uint8 b [] l q s) (hm : l.length < 2000000000) :
    Tot (fun n => f_slices_Reverse_byte_byte n [.slice s] H) fun v H' => Ch (· = b) H H' ∧ Mut H' .u8 ty_uint8 b [] l.reverse q s := by
  refine Tot.of fun Q hQ => ?_
  refine slices_Reverse_byte_byte_tot ?_
  simp (disch := omega) [h.row.lenSl]
  have lp : ∀ (f i : Nat) (ii ji : Int) (H' : Heap) (o : List Nat), l.length ≤ i + f → ii = (i : Int) → ji = (l.length : Int) - 1 - i → 2 * i ≤ l.length + 1 → Ch (· = b) H H' → Mut H' .u8 ty_uint8 b [] o q s → o.length = l.length →
      (∀ k, k < l.length → nth o k = if k < i ∨ l.length ≤ k + i then nth l (l.length - 1 - k) else nth l k) → ∀ m, Big m → Tot (fun n => slices_Reverse_byte_byte.l0 n (m n) (.slice s) (.int .i64 ii) (.int .i64 ji) H') Q := by
    intro f
    induction f with
    | zero =>
      intro i ii ji H' o hf hii hji hi2 c mo ho hv m hb
      subst hii hji
      refine slices_Reverse_byte_byte.l0_tot hb fun m' hb' => ?_
      simp (disch := omega) []
      refine Tot.no (by omega) ?_
      refine Tot.ret (hQ _ _ ⟨c, ?_⟩)
      have : o = l.reverse := ext_nth (by simpa using ho) fun k hk => by
        rw [nth_rev (by omega), hv k (by omega)]
        split
        · rfl
        · congr 1; omega
      rw [← this]; exact mo
    | succ f ih =>
      intro i ii ji H' o hf hii hji hi2 c mo ho hv m hb
      subst hii hji
      refine slices_Reverse_byte_byte.l0_tot hb fun m' hb' => ?_
      simp (disch := omega) []
      refine Tot.ite (fun hlt => ?_) (fun hlt => ?_)
      · have hij : i < l.length - 1 - i := by omega
        simp (disch := omega) [mo.row.idxN (i := l.length - 1 - i) (by omega), mo.row.idxN (i := i) (by omega), mo.row.get]
        refine Tot.st mo (x := nth o (l.length - 1 - i)) (by omega) rfl ?_
        intro H2 m2 c2
        refine Tot.st m2 (x := nth o i) (by simp; omega) rfl ?_
        intro H3 m3 c3
        refine ih (i + 1) _ _ H3 _ (by omega) (by omega) (by omega) (by omega) ((c.trans c2 fun i hi e => e).trans c3 fun i hi e => e) m3 (by simpa using ho) ?_ _ hb'
        intro k hk
        rw [nth_set (by simp; omega), nth_set (by omega), hv _ (by omega), hv _ (by omega), hv _ hk]
        by_cases h1 : k = l.length - 1 - i
        · subst h1
          rw [if_pos rfl, if_neg (by omega), if_pos (by omega)]
          congr 1; omega
        · rw [if_neg h1]
          by_cases h2 : k = i
          · subst h2
            rw [if_pos rfl, if_neg (by omega), if_pos (by omega)]
          · rw [if_neg h2]
            by_cases h3 : k < i ∨ l.length ≤ k + i
            · rw [if_pos h3, if_pos (by omega)]
            · rw [if_neg h3, if_neg (by omega)]
      · refine Tot.ret (hQ _ _ ⟨c, ?_⟩)
        have : o = l.reverse := ext_nth (by simpa using ho) fun k hk => by
          rw [nth_rev (by omega), hv k (by omega)]
          split
          · rfl
          · congr 1; omega
        rw [← this]; exact mo
  exact lp l.length 0 _ _ H l (by omega) rfl (by omega) (by omega) Ch.refl h rfl (by intro k hk; rw [if_neg (by omega)]) _ Big.id

theorem bytesOf_nums : ∀ (l : List Nat), bytesOf (nums .u8 l) = some (l.map UInt8.ofNat)
  | [] => rfl
  | x :: l => by
    have := bytesOf_nums l
    simp only [nums] at this
    simp [nums, bytesOf, this]
theorem Row.bytes {H : Heap} {s : Sl} {l : List Nat} (h : Row H .u8 s l) : cvBytes (.slice s) H = some (.str (l.map UInt8.ofNat)) := by
  have : s.ad.isNone = true ∨ s.esz = 1 := by
    cases hs : s.ad with
    | none => exact .inl rfl
    | some p => exact .inr (h.low p.1 p.2 (by rw [hs])).2
  simp only [cvBytes, if_pos this, h.rd, Option.bind_some, bytesOf_nums]

theorem show_inv {p b t A V D : Nat} (h : D + p * (t + b * A) = V) {e : Nat} : D + p * (t % e) + p * e * (t / e) + p * b * A = V := by
  have := carry e p t 0
  grind

theorem lets_app {l l' : List Nat} : lets (l ++ l') = lets l ++ lets l' := by simp [lets]
theorem lets_len {l : List Nat} : (lets l).length = l.length := by simp [lets]

theorem nat_show_spec {H : Heap} {s : Sl} {l : List Nat} (h : Row H .u32 s l) (hm : l.length < 100000000) (hL : Lim 4294967296 l) :
    Tot (fun n => f_nat_show n [.slice s] H) fun v H' => Ext0 H H' ∧ v = .str (dec (val 4294967296 l)) := by
  refine Tot.of fun Q hQ => ?_
  refine nat_show_tot ?_
  simp only [nat_show_b]
  have k1 := trimZ_len_le _ (l := l) rfl
  refine Tot.bind (nat_trim_spec h (by omega)) ?_
  rintro v H ⟨rfl, s1, rfl, r1, -⟩
  rw [trimZ_dig (b := 4294967296) (by decide) hL] at r1 k1
  refine Tot.bind (clone_spec r1 (by omega)) ?_
  rintro v H1 ⟨c1, s2, rfl, o2, f2⟩
  obtain ⟨x, hx⟩ : ∃ x, x = val 4294967296 l := ⟨_, rfl⟩
  rw [← hx] at hQ o2 k1
  clear r1 h hL
  dsimp only at c1 f2 ⊢
  -- letters that are noughts are cut
  have fin : ∀ (ds : List Nat) (t : Sl) (H' : Heap) (q : List Nat) (b : Nat), Ext0 H H' → Mut H' .u8 ty_uint8 b [] (lets ds) q t → H.n ≤ b → ds.length < 2000000000 → trimZ ds = dig 10 x → ∀ m, Big m → Tot (fun n => nat_show.l3 n (m n) (.slice t) H') Q := by
    intro ds
    generalize hn : ds.length = n
    induction n generalizing ds with
    | zero =>
      intro t H' q b c mt hb hl ht m hbg
      have := List.eq_nil_of_length_eq_zero hn
      subst this
      refine nat_show.l3_tot hbg fun m' hb' => ?_
      have hls := mt.row.lenSl
      simp [lets] at hls
      simp (disch := omega) [hls]
      refine nat_show.p4_tot ?_
      simp (disch := omega) [hls]
      have hx0 : x = 0 := by rw [← dig_eq_nil (b := 10) (by decide), ← ht]; rfl
      exact Tot.ret (hQ _ _ ⟨c, by rw [dec, if_pos hx0]⟩)
    | succ n ih =>
      intro t H' q b c mt hb hl ht m hbg
      rcases snoc_cases ds with rfl | ⟨ds', d, rfl⟩
      · simp at hn
      have hn' : ds'.length = n := by simpa using hn
      have hll : (lets (ds' ++ [d])).length = n + 1 := by rw [lets_len]; exact hn
      refine nat_show.l3_tot hbg fun m' hb' => ?_
      have hg := mt.row.get (i := n) (by omega)
      have hnd : nth (lets (ds' ++ [d])) n = 48 + d := by
        rw [lets_app, show lets [d] = [48 + d] from rfl, ← hn', ← lets_len]; exact nth_app_len
      rw [hnd] at hg
      simp (disch := omega) [mt.row.lenSl, hll, mt.row.idxN (i := n) (by omega), hg]
      refine Tot.ite (fun h0 => ?_) (fun h0 => ?_)
      · have hd0 : d = 0 := by omega
        subst hd0
        have hs := mt.row.slice (lo := none) (hi := some (.int .i64 (n : Int))) (a := 0) (b := n) rfl (by simp) (by omega) (by omega)
        simp (disch := omega) [hs]
        have had : (subS t 0 n).ad = t.ad := by simp [subS]
        have hle : (subS t 0 n).len = (lets ds').length := by rw [lets_len, hn']; rfl
        have m2 : Mut H' .u8 ty_uint8 b [] (lets ds') ([48] ++ q) (subS t 0 n) := mt.pre (by rw [lets_app]; rfl) had rfl hle
        exact ih ds' hn' _ H' _ b c m2 hb (by omega) (by rw [← ht, trimZ_zero]) _ hb'
      · refine nat_show.p4_tot ?_
        simp (disch := omega) [mt.row.lenSl, hll]
        refine Tot.no (by omega) ?_
        have hd0 : d ≠ 0 := by omega
        rw [trimZ_last hd0] at ht
        refine Tot.bind (Reverse_spec mt (by omega)) ?_
        rintro v H2 ⟨c2, m2⟩
        simp (disch := omega) [m2.row.bytes]
        have hx0 : x ≠ 0 := by
          intro e
          rw [e, dig_zero] at ht; simp at ht
        exact Tot.ret (hQ _ _ ⟨c.trans c2 fun i hi e => by omega, by simp only [dec, if_neg hx0, ← ht, List.map_reverse]⟩)
  have fin2 : ∀ (ds : List Nat) (t : Sl) (H' : Heap), Ext0 H H' → Own H' .u8 ty_uint8 t (lets ds) → (∀ i, t.has i → H.n ≤ i) → ds.length < 2000000000 → trimZ ds = dig 10 x → Tot (fun n => nat_show.p2 n (.slice t) H') Q := by
    intro ds t H' c o f hl ht
    refine nat_show.p2_tot ?_
    simp only [nat_show.p2_b]
    by_cases he : ds = []
    · subst he
      refine nat_show.l3_tot Big.id fun m' hb' => ?_
      have hls := o.row.lenSl
      simp [lets] at hls
      simp (disch := omega) [hls]
      refine nat_show.p4_tot ?_
      simp (disch := omega) [hls]
      have hx0 : x = 0 := by rw [← dig_eq_nil (b := 10) (by decide), ← ht]; rfl
      exact Tot.ret (hQ _ _ ⟨c, by rw [dec, if_pos hx0]⟩)
    · obtain ⟨b, mt, _⟩ := o.mut (by intro e; apply he; simpa [lets] using e)
      exact fin ds t H' [] b c mt (f b (mt.has.2 rfl)) hl ht _ Big.id
  -- the rounds
  have lp : ∀ (y : Nat) (sa t : Sl) (H' : Heap) (ds la : List Nat), val 4294967296 la = y → Trimmed la → Lim 4294967296 la → la.length < 100000000 → Ext0 H H' → Row H' .u32 sa la → (la ≠ [] → ∃ b qa, Mut H' .u32 ty_uint32 b [] la qa sa ∧ H.n ≤ b) → Own H' .u8 ty_uint8 t (lets ds) → (∀ i, t.has i → H.n ≤ i) → (∀ i, t.has i → ¬ sa.has i) → Lim 10 ds → ds.length + 9 * (dig 1000000000 y).length < 1990000000 →
      val 10 ds + 10 ^ ds.length * y = x → ∀ m, Big m → Tot (fun n => nat_show.l0 n (m n) (.slice sa) (.slice t) H') Q := by
    intro y
    induction y using Nat.strongRecOn with
    | ind y ih =>
      intro sa t H' ds la hy hT hLa hla c ra ma o f hta hLd hlen hv m hb
      refine nat_show.l0_tot hb fun m' hb' => ?_
      simp (disch := omega) [ra.lenSl]
      refine Tot.ite (fun h0 => ?_) (fun h0 => ?_)
      · have hne : la ≠ [] := by intro e; subst e; simp at h0
        obtain ⟨b, qa, m1, hbn⟩ := ma hne
        have hy0 : y ≠ 0 := by
          intro e
          rw [e] at hy
          have := dig_of_trimmed (b := 4294967296) (by decide) hLa hT
          rw [hy, dig_zero] at this; exact hne this.symm
        refine Tot.bind (nat_short_spec m1 (by omega) hLa rfl (by decide) (by decide)) ?_
        rintro v H2 ⟨c2, rfl, l2, m2, hl2, hL2, hv2⟩
        refine Tot.bind (nat_trim_spec m2.row (by omega)) ?_
        rintro v H2 ⟨rfl, s3, rfl, r3, f3, had, hez⟩
        dsimp only at *
        have k3 := trimZ_len_le _ (l := l2) rfl
        have m3 := m2.pre (t := s3) (trimZ_split l2) had (hez m2.esz) r3.len
        have hT3 := trimZ_trimmed _ (l := l2) rfl
        have hL3 := hL2.trimZ
        have hv3 := val_trimZ (b := 4294967296) _ (l := l2) rfl
        rw [hv2, hy] at hv3
        rw [hy]
        generalize trimZ l2 = l3 at *
        have hsb : ∀ i, sa.has i ↔ i = b := fun i => m1.has
        have o2 := o.ch c2 fun i hi e => hta i hi ((hsb i).2 e)
        have cH2 : Ext0 H H2 := c.trans c2 fun i hi e => by omega
        have hlen2 : (dig 1000000000 y).length = (dig 1000000000 (y / 1000000000)).length + 1 := by rw [dig_pos (by decide) hy0]; rfl
        have hv' : val 10 ds + 10 ^ ds.length * (y % 1000000000 + 10 ^ 9 * (y / 1000000000)) = x := by
          rw [show (10 : Nat) ^ 9 = 1000000000 by decide, Nat.mod_add_div]; exact hv
        have hlt : y / 1000000000 < y := Nat.div_lt_self (by omega) (by decide)
        have hz0 : y % 1000000000 < 10 ^ 9 := Nat.mod_lt _ (by decide)
        generalize y / 1000000000 = y' at *
        generalize y % 1000000000 = z at *
        have lp2 : ∀ (j k z : Nat) (zi ki : Int) (t : Sl) (H' : Heap) (ds : List Nat), k + j = 9 → zi = (z : Int) → ki = (k : Int) → Ext0 H H' → Mut H' .u32 ty_uint32 b [] l3 (l2.drop l3.length ++ qa) s3 → Own H' .u8 ty_uint8 t (lets ds) → (∀ i, t.has i → H.n ≤ i) → (∀ i, t.has i → i ≠ b) → Lim 10 ds →
            ds.length + j + 9 * (dig 1000000000 y').length < 1990000000 → z < 10 ^ j → val 10 ds + 10 ^ ds.length * (z + 10 ^ j * y') = x → ∀ m1, Big m1 → Tot (fun n => nat_show.l1 n (m' n) (m1 n) (.slice s3) (.slice t) (.int .u32 zi) (.int .i64 ki) H') Q := by
          intro j
          induction j with
          | zero =>
            intro k z zi ki t H' ds hk hzi hki c m3 o f htb hLd hln hz hv m1 hb1
            subst hzi hki
            refine nat_show.l1_tot hb1 fun m1' hb1' => ?_
            simp (disch := omega) []
            refine Tot.no (by omega) ?_
            have hz0 : z = 0 := by simpa using hz
            subst hz0
            refine ih y' hlt s3 t H' ds l3 hv3 hT3 hL3 (by omega) c m3.row (fun _ => ⟨b, _, m3, hbn⟩) o f (fun i hi hs => htb i hi (m3.has.1 hs)) hLd (by omega) ?_ _ hb'
            simpa using hv
          | succ j ih2 =>
            intro k z zi ki t H' ds hk hzi hki c m3 o f htb hLd hln hz hv m1 hb1
            subst hzi hki
            refine nat_show.l1_tot hb1 fun m1' hb1' => ?_
            have hzb : z < 4294967296 := by
              have : (10 : Nat) ^ (j + 1) ≤ 10 ^ 9 := Nat.pow_le_pow_right (by decide) (by omega)
              omega
            simp (disch := omega) [ar_rem, ar_quo]
            refine Tot.yes (by omega) ?_
            refine Tot.app1 o (x := 48 + z % 10) (by rw [lets_len]; omega) (by omega) (by decide) (by rfl) ?_
            intro t2 H2 o2 c2 f2
            simp (disch := omega) [ar_quo]
            refine ih2 (k + 1) (z / 10) _ _ t2 H2 (ds ++ [z % 10]) (by omega) (by omega) (by omega) (c.trans c2 fun i hi e => by have := f i e; omega) (m3.ch c2 fun e => htb b e rfl) (by rw [lets_app]; exact o2)
              (fun i hi => by rcases f2 i hi with h | h; exact f i h; have := c.n; omega) (fun i hi e => by rcases f2 i hi with h | h; exact htb i h e; have := m3.lt; omega) (Lim.app.2 ⟨hLd, Lim.one.2 (Nat.mod_lt _ (by decide))⟩) (by simp; omega) ?_ ?_ _ hb1'
            · rw [Nat.pow_succ] at hz; omega
            · rw [val_snoc, List.length_append, List.length_singleton, Nat.pow_succ]
              have := show_inv hv (e := 10)
              rw [Nat.pow_succ] at this
              grind
        exact lp2 9 0 z _ _ t H2 ds (by omega) rfl rfl cH2 m3 o2 f (fun i hi e => hta i hi ((hsb i).2 e)) hLd (by omega) hz0 hv' _ Big.id
      · have hla0 : la = [] := List.eq_nil_of_length_eq_zero (by omega)
        subst hla0
        have hy0 : y = 0 := by rw [← hy]; rfl
        subst hy0
        refine fin2 ds t H' c o f (by omega) ?_
        rw [trimZ_dig (b := 10) (by decide) hLd]
        rw [show val 10 ds = x by simpa using hv]
  have hlx : (dig 1000000000 x).length ≤ 2 * (dig 4294967296 x).length := by
    apply dig_len_le (by decide)
    have h1 := dig_len_lt (b := 4294967296) (x := x) (by decide)
    have h2 : 4294967296 ^ (dig 4294967296 x).length ≤ (1000000000 ^ 2) ^ (dig 4294967296 x).length := Nat.pow_le_pow_left (by decide) _
    rw [← Nat.pow_mul] at h2
    omega
  refine lp x s2 _ H1 [] (dig 4294967296 x) (digV x) (dig_trimmed (by decide) x) (digL x) (by omega) c1 o2.row (fun hne => ?_) (.inl ⟨rfl, rfl⟩) (fun i hi => (has_none.1 hi).elim) (fun i hi => (has_none.1 hi).elim) Lim.nil (by simp; omega) (by simp [val]) _ Big.id
  obtain ⟨b, m1, _⟩ := o2.mut hne
  exact ⟨b, [], m1, f2 b (m1.has.2 rfl)⟩

theorem nat_Show_spec {H : Heap} {s : Sl} {l : List Nat} (h : Row H .u32 s l) (hm : l.length < 100000000) (hL : Lim 4294967296 l) :
    Tot (fun n => f_nat_Show n [.slice s] H) fun v H' => Ext0 H H' ∧ v = .str (dec (val 4294967296 l)) := by
  refine nat_Show_tot ?_
  simp only [nat_Show_b]
  refine Tot.bind (nat_show_spec h hm hL) ?_
  rintro v H' ⟨c, rfl⟩
  exact Tot.ret ⟨c, rfl⟩
end Go.AM
end

section
set_option linter.unusedVariables false
set_option linter.unusedSimpArgs false
/- What lies in memory between two bounds has not changed; structs in memory. -/
set_option linter.unusedSimpArgs false
namespace Go.AM

/-- From the id lo on, what was there is as it was. -/
structure Keep (lo : Nat) (H H' : Heap) : Prop where
  n : H.n ≤ H'.n
  get : ∀ i, lo ≤ i → i < H.n → H'.get i = H.get i

theorem Keep.refl {lo : Nat} {H : Heap} : Keep lo H H := ⟨Nat.le_refl _, fun _ _ _ => rfl⟩
theorem Keep.call {lo : Nat} {H H' H'' : Heap} (h : Keep lo H H') (c : Ext0 H' H'') : Keep lo H H'' :=
  ⟨Nat.le_trans h.n c.n, fun i h1 h2 => (c.get i (Nat.lt_of_lt_of_le h2 h.n) fun f => f).trans (h.get i h1 h2)⟩
theorem Keep.push {lo : Nat} {H H' : Heap} {o : O} (h : Keep lo H H') : Keep lo H (H'.push o) := h.call Ch.push
theorem Keep.more {lo m : Nat} {H H' : Heap} (h : Keep lo H H') : Keep lo H (H'.more m) := h.call Ch.more
theorem Keep.set {lo j : Nat} {H H' : Heap} {o : O} (h : Keep lo H H') (hj : j < lo ∨ H.n ≤ j) : Keep lo H (H'.set j o) :=
  ⟨by simpa using h.n, fun i h1 h2 => by rw [Heap.get_set_ne (by omega)]; exact h.get i h1 h2⟩
theorem Keep.ext {H H' : Heap} (h : Keep 0 H H') : Ext0 H H' := ⟨h.n, fun i hi _ => h.get i (Nat.zero_le _) hi⟩

theorem Row.keep {lo : Nat} {H H' : Heap} {k : IntKind} {s : Sl} {l : List Nat} (h : Row H k s l) (f : Fr lo s) (c : Keep lo H H') : Row H' k s l := by
  refine ⟨h.len, fun b o hs => ⟨Nat.lt_of_lt_of_le (h.low b o hs).1 c.n, (h.low b o hs).2⟩, fun hl => ?_⟩
  obtain ⟨b, o, cs, e', ro, h1, h2, h3, h4⟩ := h.mem hl
  exact ⟨b, o, cs, e', ro, h1, by rw [c.get b (f b ⟨o, h1⟩) (h.low b o h1).1]; exact h2, h3, h4⟩
theorem Fr.zero {s : Sl} : Fr 0 s := fun _ _ => Nat.zero_le _
theorem Fr.mono {m n : Nat} {s : Sl} (h : Fr n s) (hm : m ≤ n) : Fr m s := fun i hi => Nat.le_trans hm (h i hi)

theorem get_more {H : Heap} {m j : Nat} : (H.more m).get j = H.get j := (Eq.refl _).trans (Eq.refl _)
theorem ld1_get {i o : Nat} {H : Heap} : ld1 (.ptr (some (i, o))) H = (match H.get i with | .cells cs _ _ => cs[o]? | _ => none) := (Eq.refl _).trans (Eq.refl _)
theorem ldN_get {n i o : Nat} {H : Heap} : ldN n (.ptr (some (i, o))) H = (match H.get i with | .cells cs _ _ => if o + n ≤ cs.length then some (.agg ((cs.drop o).take n)) else none | _ => none) := (Eq.refl _).trans (Eq.refl _)
theorem stA_get {n i o : Nat} {x : V} {H : Heap} : stA n (.ptr (some (i, o))) x H = (match H.get i with
    | .cells cs e false => if x.cells.length = n ∧ o + n ≤ cs.length ∧ x.cells.all V.one = true then some (H.set i (.cells (lset cs o x.cells) e false)) else none
    | _ => none) := (Eq.refl _).trans (Eq.refl _)
theorem chk_agg {l : List V} (h : ∀ v, v ∈ l → V.beq v v = true) : chk (some (.agg l)) (.agg l) = some () := by simp [chk, V.beq, beqs_self l h]
theorem beq_bool {b : Bool} : V.beq (.bool b) (.bool b) = true := by simp [V.beq]
theorem beq_int {k : IntKind} {n : Int} : V.beq (.int k n) (.int k n) = true := by simp [V.beq]
theorem beq_slice {s : Sl} : V.beq (.slice s) (.slice s) = true := by simp [V.beq]
theorem gz {a : V} {l : List V} : (a :: l)[0]? = some a := by simp
theorem gs {a : V} {l : List V} {i : Nat} : (a :: l)[i + 1]? = l[i]? := by simp
theorem chk_i {b : Bool} {s : Sl} : chk (some (.agg [.bool b, .slice s])) (.agg [.bool b, .slice s]) = some () := chk_agg (by simp [V.beq])
theorem chk_r {b : Bool} {s t : Sl} : chk (some (.agg [.bool b, .slice s, .slice t])) (.agg [.bool b, .slice s, .slice t]) = some () := chk_agg (by simp [V.beq])
theorem chk_i' {k : IntKind} {b : Int} {s : Sl} : chk (some (.agg [.int k b, .slice s])) (.agg [.int k b, .slice s]) = some () := chk_agg (by simp [V.beq])
theorem chk_r' {k l : IntKind} {b c : Int} {s t : Sl} : chk (some (.agg [.int k b, .slice s, .int l c, .slice t])) (.agg [.int k b, .slice s, .int l c, .slice t]) = some () := chk_agg (by simp [V.beq])
attribute [simp] chk_i chk_r chk_i' chk_r'
attribute [simp] beq_bool beq_int beq_slice

/-- One step that makes no call. -/
theorem Tot.pure {α : Type} {x : Option α} {a : α} {k : Nat → α → Option R} {Q : V → Heap → Prop} (h : x = some a) (hk : Tot (fun n => k n a) Q) : Tot (fun n => bnd x (k n)) Q := by
  subst h; exact hk
theorem Tot.chk {x : Option Unit} {k : Nat → Unit → Option R} {Q : V → Heap → Prop} (h : x = some ()) (hk : Tot (fun n => k n ()) Q) : Tot (fun n => bnd x (k n)) Q := by
  subst h; exact hk
/-- For simp: step by step, not what follows. -/
theorem bnd_weak {α β : Type} {x x' : Option α} (h : x = x') (f : α → Option β) : bnd x f = bnd x' f := by rw [h]
theorem ite_weak {α : Type} {b c : Prop} [Decidable b] [Decidable c] {x y : α} (h : b = c) : ite b x y = ite c x y := by
  by_cases hb : b
  · rw [if_pos hb, if_pos (h ▸ hb)]
  · rw [if_neg hb, if_neg (h ▸ hb)]
theorem sgn_mul0 (x y : Int) : (if (!(decide (x < 0) == decide (y < 0))) = true then -((x.natAbs * y.natAbs : Nat) : Int) else ((x.natAbs * y.natAbs : Nat) : Int)) = x * y := by
  have hx : x = if x < 0 then -(x.natAbs : Int) else (x.natAbs : Int) := by split <;> omega
  have hy : y = if y < 0 then -(y.natAbs : Int) else (y.natAbs : Int) := by split <;> omega
  conv => rhs; rw [hx, hy]
  generalize x.natAbs = m at *
  generalize y.natAbs = n at *
  by_cases h1 : x < 0 <;> by_cases h2 : y < 0 <;> simp only [h1, h2, if_true, if_false, Int.natCast_mul, Int.neg_mul, Int.mul_neg, Int.neg_neg, decide_true, decide_false] <;> simp
end Go.AM
end

section
set_option linter.unusedVariables false
set_option linter.unusedSimpArgs false
/- What the functions of package whole give. -/
set_option linter.unusedSimpArgs false
set_option linter.unusedVariables false
namespace Go.AM
attribute [local congr] bnd_weak ite_weak

/-- A whole number, in its one form. -/
def isI (H : Heap) (lo : Nat) (v : V) (z : Int) : Prop := ∃ s, v = .agg [.bool (decide (z < 0)), .slice s] ∧ Row H .u32 s (dig 4294967296 z.natAbs) ∧ Fr lo s
theorem isI.keep {H H' : Heap} {lo : Nat} {v : V} {z : Int} (h : isI H lo v z) (c : Keep lo H H') : isI H' lo v z := by
  obtain ⟨s, rfl, r, f⟩ := h; exact ⟨s, rfl, r.keep f c, f⟩
theorem isI.mono {H : Heap} {lo lo' : Nat} {v : V} {z : Int} (h : isI H lo v z) (c : lo' ≤ lo) : isI H lo' v z := by
  obtain ⟨s, rfl, r, f⟩ := h; exact ⟨s, rfl, r, f.mono c⟩
theorem isI.shape {H : Heap} {lo : Nat} {v : V} {z : Int} (h : isI H lo v z) : ∃ b s, v = .agg [.bool b, .slice s] ∧ b = decide (z < 0) ∧ Row H .u32 s (dig 4294967296 z.natAbs) ∧ Fr lo s := by
  obtain ⟨s, rfl, r, f⟩ := h; exact ⟨_, s, rfl, rfl, r, f⟩

theorem dig_pos_len {x : Nat} : 0 < (dig 4294967296 x).length ↔ x ≠ 0 := by
  have := dig_eq_nil (b := 4294967296) (x := x) (by decide)
  constructor
  · intro h e; rw [this.2 e] at h; simp at h
  · intro h
    rcases Nat.eq_zero_or_pos (dig 4294967296 x).length with e | e
    · exact (h (this.1 (List.eq_nil_of_length_eq_zero e))).elim
    · exact e

/-- A sign put to a number. -/
def sgn (b : Bool) (x : Nat) : Int := if b then -(x : Int) else x
theorem sgn_abs {b : Bool} {x : Nat} : (sgn b x).natAbs = x := by unfold sgn; split <;> simp
theorem sgn_neg {b : Bool} {x : Nat} : decide (sgn b x < 0) = (b && decide (x ≠ 0)) := by
  cases b
  · simp [sgn]
  · by_cases h : x = 0
    · subst h; simp [sgn]
    · have : (0:Int) < x := by omega
      simp [sgn, h]; omega

theorem whole_norm_spec {H : Heap} {lo : Nat} {b : Bool} {s : Sl} {l : List Nat} (h : Row H .u32 s l) (hm : l.length < 2000000000) (hL : Lim 4294967296 l) :
    Tot (fun n => f_whole_norm n [.bool b, .slice s] H) fun v H' => Ext0 H H' ∧ isI H' H.n v (sgn b (val 4294967296 l)) := by
  refine Tot.of fun Q hQ => ?_
  refine whole_norm_tot ?_
  simp only [whole_norm_b]
  refine Tot.bind (nat_Trim_spec (h.ext Ch.push) hm hL) ?_
  rintro v H1 ⟨c1, s1, rfl, o1, f1⟩
  have n1 := c1.n; try simp only [hn_push, hn_set, hn_more] at n1
  have r1 := o1.row
  simp (disch := first | omega | (simp only [hn_push, hn_set, hn_more] <;> omega) | (simp <;> omega) | fail) [ld1_get, ldN_get, stA_get, faA_mk, boxA_agg, Heap.get_push_ne, Heap.get_push_eq, Heap.get_set_ne, Heap.get_set_eq, get_more, hn_push, hn_set, hn_more, chk_agg, r1.lenSl, c1.g]
  have fin : ∀ (H2 : Heap) (b' : Bool), H2 = H1.set H.n (.cells [.bool b', .slice s1] ty_api_Int false) → b' = (b && decide (val 4294967296 l ≠ 0)) → Q (.agg [.bool b', .slice s1]) H2 := by
    rintro H2 b' rfl hb
    refine hQ _ _ ⟨Keep.ext (by (repeat (first | exact Keep.refl | refine Keep.call ?_ (by assumption) | refine Keep.push ?_ | refine Keep.more ?_ | refine Keep.set ?_ (by first | omega | (simp only [hn_push, hn_set, hn_more] <;> omega) | fail)))), s1, ?_, ?_, ?_⟩
    · rw [sgn_neg, hb]
    · rw [sgn_abs]; exact r1.keep (lo := H.n + 1) (fun i hi => by have := f1 i hi; simpa using this) (by (repeat (first | exact Keep.refl | refine Keep.call ?_ (by assumption) | refine Keep.push ?_ | refine Keep.more ?_ | refine Keep.set ?_ (by first | omega | (simp only [hn_push, hn_set, hn_more] <;> omega) | fail))))
    · exact fun i hi => by have := f1 i hi; simp at this; omega
  cases b
  · simp (disch := first | omega | (simp only [hn_push, hn_set, hn_more] <;> omega) | (simp <;> omega) | fail) [ld1_get, ldN_get, stA_get, faA_mk, boxA_agg, Heap.get_push_ne, Heap.get_push_eq, Heap.get_set_ne, Heap.get_set_eq, get_more, hn_push, hn_set, hn_more, chk_agg, c1.g]
    exact Tot.ret (fin _ _ rfl rfl)
  · simp (disch := first | omega | (simp only [hn_push, hn_set, hn_more] <;> omega) | (simp <;> omega) | fail) [ld1_get, ldN_get, stA_get, faA_mk, boxA_agg, Heap.get_push_ne, Heap.get_push_eq, Heap.get_set_ne, Heap.get_set_eq, get_more, hn_push, hn_set, hn_more, chk_agg, c1.g]
    refine Tot.ret (fin _ _ rfl ?_)
    have := dig_pos_len (x := val 4294967296 l)
    simp [this]

/-- What a result is, behind a last store. -/
theorem isI.out {H1 H2 : Heap} {lo n : Nat} {v : V} {z : Int} (h : isI H1 lo v z) (c : Keep lo H1 H2) (hn : n ≤ lo) : isI H2 n v z := (h.keep c).mono hn

theorem whole_Norm_spec {H : Heap} {b : Bool} {s : Sl} {l : List Nat} (h : Row H .u32 s l) (hm : l.length < 2000000000) (hL : Lim 4294967296 l) :
    Tot (fun n => f_whole_Norm n [.agg [.bool b, .slice s]] H) fun v H' => Ext0 H H' ∧ isI H' H.n v (sgn b (val 4294967296 l)) := by
  refine Tot.of fun Q hQ => ?_
  refine whole_Norm_tot ?_
  simp (disch := first | omega | (simp only [hn_push, hn_set, hn_more] <;> omega) | (simp <;> omega) | fail) [ld1_get, ldN_get, stA_get, faA_mk, boxA_agg, Heap.get_push_ne, Heap.get_push_eq, Heap.get_set_ne, Heap.get_set_eq, get_more, hn_push, hn_set, hn_more, chk_agg, ]
  refine Tot.bind (whole_norm_spec (lo := 0) (h.keep Fr.zero (by (repeat (first | exact Keep.refl | refine Keep.call ?_ (by assumption) | refine Keep.push ?_ | refine Keep.more ?_ | refine Keep.set ?_ (by first | omega | (simp only [hn_push, hn_set, hn_more] <;> omega) | fail))))) hm hL) ?_
  rintro v H1 ⟨c1, i1⟩
  obtain ⟨b1, s1, rfl, -⟩ := i1.shape
  have n1 := c1.n; try simp only [hn_push, hn_set, hn_more] at n1
  simp (disch := first | omega | (simp only [hn_push, hn_set, hn_more] <;> omega) | (simp <;> omega) | fail) [ld1_get, ldN_get, stA_get, faA_mk, boxA_agg, Heap.get_push_ne, Heap.get_push_eq, Heap.get_set_ne, Heap.get_set_eq, get_more, hn_push, hn_set, hn_more, chk_agg, c1.g]
  exact Tot.ret (hQ _ _ ⟨Keep.ext (by (repeat (first | exact Keep.refl | refine Keep.call ?_ (by assumption) | refine Keep.push ?_ | refine Keep.more ?_ | refine Keep.set ?_ (by first | omega | (simp only [hn_push, hn_set, hn_more] <;> omega) | fail)))), i1.out (by (repeat (first | exact Keep.refl | refine Keep.call ?_ (by assumption) | refine Keep.push ?_ | refine Keep.more ?_ | refine Keep.set ?_ (by first | omega | (simp only [hn_push, hn_set, hn_more] <;> omega) | fail)))) (by simp; omega)⟩)

theorem sgn_of (z : Int) : sgn (decide (z < 0)) z.natAbs = z := by
  unfold sgn; by_cases h : z < 0 <;> simp [h] <;> omega

theorem whole_Of_spec {H : Heap} {z : Int} (hz : -9223372036854775808 ≤ z ∧ z ≤ 9223372036854775807) :
    Tot (fun n => f_whole_Of n [.int .i64 z] H) fun v H' => Ext0 H H' ∧ isI H' H.n v z := by
  refine Tot.of fun Q hQ => ?_
  refine whole_Of_tot ?_
  have hsz : (dig 4294967296 z.natAbs).length ≤ 2 := dig_len_le (by decide) (by omega)
  simp (disch := first | omega | (simp only [hn_push, hn_set, hn_more] <;> omega) | (simp <;> omega) | fail) [ld1_get, ldN_get, stA_get, faA_mk, boxA_agg, Heap.get_push_ne, Heap.get_push_eq, Heap.get_set_ne, Heap.get_set_eq, get_more, hn_push, hn_set, hn_more, chk_agg, ]
  refine Tot.ite (fun h => ?_) (fun h => ?_)
  · try simp (disch := first | omega | (simp only [hn_push, hn_set, hn_more] <;> omega) | (simp <;> omega) | fail) [ld1_get, ldN_get, stA_get, faA_mk, boxA_agg, Heap.get_push_ne, Heap.get_push_eq, Heap.get_set_ne, Heap.get_set_eq, get_more, hn_push, hn_set, hn_more, chk_agg, ]
    refine Tot.bind (nat_Of_spec (x := z.natAbs) (by first | omega | (simp only [wrap_u64m]; omega)) (by omega)) ?_
    rintro v H1 ⟨c1, s1, rfl, o1, f1⟩
    have n1 := c1.n; try simp only [hn_push, hn_set, hn_more] at n1
    dsimp only
    refine Tot.bind (whole_norm_spec (lo := 0) o1.row (by omega) (digL _)) ?_
    rintro v H2 ⟨c2, i2⟩
    obtain ⟨b2, s2, rfl, -⟩ := i2.shape
    have n2 := c2.n; try simp only [hn_push, hn_set, hn_more] at n2
    rw [digV, show sgn true z.natAbs = z by unfold sgn; simp; omega] at i2
    simp (disch := first | omega | (simp only [hn_push, hn_set, hn_more] <;> omega) | (simp <;> omega) | fail) [ld1_get, ldN_get, stA_get, faA_mk, boxA_agg, Heap.get_push_ne, Heap.get_push_eq, Heap.get_set_ne, Heap.get_set_eq, get_more, hn_push, hn_set, hn_more, chk_agg, c1.g, c2.g]
    exact Tot.ret (hQ _ _ ⟨Keep.ext (by (repeat (first | exact Keep.refl | refine Keep.call ?_ (by assumption) | refine Keep.push ?_ | refine Keep.more ?_ | refine Keep.set ?_ (by first | omega | (simp only [hn_push, hn_set, hn_more] <;> omega) | fail)))), i2.out (by (repeat (first | exact Keep.refl | refine Keep.call ?_ (by assumption) | refine Keep.push ?_ | refine Keep.more ?_ | refine Keep.set ?_ (by first | omega | (simp only [hn_push, hn_set, hn_more] <;> omega) | fail)))) (by omega)⟩)
  · refine Tot.bind (nat_Of_spec (x := z.natAbs) (by first | omega | (simp only [wrap_u64m]; omega)) (by omega)) ?_
    rintro v H1 ⟨c1, s1, rfl, o1, f1⟩
    have n1 := c1.n; try simp only [hn_push, hn_set, hn_more] at n1
    dsimp only
    refine Tot.bind (whole_norm_spec (lo := 0) o1.row (by omega) (digL _)) ?_
    rintro v H2 ⟨c2, i2⟩
    obtain ⟨b2, s2, rfl, -⟩ := i2.shape
    have n2 := c2.n; try simp only [hn_push, hn_set, hn_more] at n2
    rw [digV, show sgn false z.natAbs = z by unfold sgn; simp; omega] at i2
    simp (disch := first | omega | (simp only [hn_push, hn_set, hn_more] <;> omega) | (simp <;> omega) | fail) [ld1_get, ldN_get, stA_get, faA_mk, boxA_agg, Heap.get_push_ne, Heap.get_push_eq, Heap.get_set_ne, Heap.get_set_eq, get_more, hn_push, hn_set, hn_more, chk_agg, c1.g, c2.g]
    exact Tot.ret (hQ _ _ ⟨Keep.ext (by (repeat (first | exact Keep.refl | refine Keep.call ?_ (by assumption) | refine Keep.push ?_ | refine Keep.more ?_ | refine Keep.set ?_ (by first | omega | (simp only [hn_push, hn_set, hn_more] <;> omega) | fail)))), i2.out (by (repeat (first | exact Keep.refl | refine Keep.call ?_ (by assumption) | refine Keep.push ?_ | refine Keep.more ?_ | refine Keep.set ?_ (by first | omega | (simp only [hn_push, hn_set, hn_more] <;> omega) | fail)))) (by omega)⟩)

theorem whole_neg_spec {H : Heap} {lo : Nat} {a : V} {z : Int} (h : isI H lo a z) (hm : (dig 4294967296 z.natAbs).length < 2000000000) :
    Tot (fun n => f_whole_neg n [a] H) fun v H' => Ext0 H H' ∧ isI H' H.n v (-z) := by
  obtain ⟨ba, s, rfl, hba, r, f⟩ := h.shape
  refine Tot.of fun Q hQ => ?_
  refine whole_neg_tot ?_
  simp (disch := first | omega | (simp only [hn_push, hn_set, hn_more] <;> omega) | (simp <;> omega) | fail) [ld1_get, ldN_get, stA_get, faA_mk, boxA_agg, Heap.get_push_ne, Heap.get_push_eq, Heap.get_set_ne, Heap.get_set_eq, get_more, hn_push, hn_set, hn_more, chk_agg, ]
  refine Tot.bind (whole_norm_spec (lo := 0) (r.keep Fr.zero (by (repeat (first | exact Keep.refl | refine Keep.call ?_ (by assumption) | refine Keep.push ?_ | refine Keep.more ?_ | refine Keep.set ?_ (by first | omega | (simp only [hn_push, hn_set, hn_more] <;> omega) | fail))))) hm (digL _)) ?_
  rintro v H1 ⟨c1, i1⟩
  obtain ⟨b1, s1, rfl, -⟩ := i1.shape
  have n1 := c1.n; try simp only [hn_push, hn_set, hn_more] at n1
  have e : sgn (!ba) z.natAbs = -z := by subst hba; unfold sgn; by_cases h : z < 0 <;> simp [h] <;> omega
  rw [digV, e] at i1
  simp (disch := first | omega | (simp only [hn_push, hn_set, hn_more] <;> omega) | (simp <;> omega) | fail) [ld1_get, ldN_get, stA_get, faA_mk, boxA_agg, Heap.get_push_ne, Heap.get_push_eq, Heap.get_set_ne, Heap.get_set_eq, get_more, hn_push, hn_set, hn_more, chk_agg, c1.g]
  exact Tot.ret (hQ _ _ ⟨Keep.ext (by (repeat (first | exact Keep.refl | refine Keep.call ?_ (by assumption) | refine Keep.push ?_ | refine Keep.more ?_ | refine Keep.set ?_ (by first | omega | (simp only [hn_push, hn_set, hn_more] <;> omega) | fail)))), i1.out (by (repeat (first | exact Keep.refl | refine Keep.call ?_ (by assumption) | refine Keep.push ?_ | refine Keep.more ?_ | refine Keep.set ?_ (by first | omega | (simp only [hn_push, hn_set, hn_more] <;> omega) | fail)))) (by simp; omega)⟩)

theorem whole_Neg_spec {H : Heap} {lo : Nat} {a : V} {z : Int} (h : isI H lo a z) (hm : (dig 4294967296 z.natAbs).length < 2000000000) :
    Tot (fun n => f_whole_Neg n [a] H) fun v H' => Ext0 H H' ∧ isI H' H.n v (-z) := by
  obtain ⟨ba, s, rfl, hba, r, f⟩ := h.shape
  refine Tot.of fun Q hQ => ?_
  refine whole_Neg_tot ?_
  simp (disch := first | omega | (simp only [hn_push, hn_set, hn_more] <;> omega) | (simp <;> omega) | fail) [ld1_get, ldN_get, stA_get, faA_mk, boxA_agg, Heap.get_push_ne, Heap.get_push_eq, Heap.get_set_ne, Heap.get_set_eq, get_more, hn_push, hn_set, hn_more, chk_agg, ]
  refine Tot.bind (whole_neg_spec ((h.mono (Nat.zero_le _)).keep (by (repeat (first | exact Keep.refl | refine Keep.call ?_ (by assumption) | refine Keep.push ?_ | refine Keep.more ?_ | refine Keep.set ?_ (by first | omega | (simp only [hn_push, hn_set, hn_more] <;> omega) | fail))))) hm) ?_
  rintro v H1 ⟨c1, i1⟩
  obtain ⟨b1, s1, rfl, -⟩ := i1.shape
  have n1 := c1.n; try simp only [hn_push, hn_set, hn_more] at n1
  simp (disch := first | omega | (simp only [hn_push, hn_set, hn_more] <;> omega) | (simp <;> omega) | fail) [ld1_get, ldN_get, stA_get, faA_mk, boxA_agg, Heap.get_push_ne, Heap.get_push_eq, Heap.get_set_ne, Heap.get_set_eq, get_more, hn_push, hn_set, hn_more, chk_agg, c1.g]
  exact Tot.ret (hQ _ _ ⟨Keep.ext (by (repeat (first | exact Keep.refl | refine Keep.call ?_ (by assumption) | refine Keep.push ?_ | refine Keep.more ?_ | refine Keep.set ?_ (by first | omega | (simp only [hn_push, hn_set, hn_more] <;> omega) | fail)))), i1.out (by (repeat (first | exact Keep.refl | refine Keep.call ?_ (by assumption) | refine Keep.push ?_ | refine Keep.more ?_ | refine Keep.set ?_ (by first | omega | (simp only [hn_push, hn_set, hn_more] <;> omega) | fail)))) (by simp; omega)⟩)

set_option maxHeartbeats 2000000 in
theorem whole_add_spec {H : Heap} {lo lo' : Nat} {a b : V} {x y : Int} (h : isI H lo a x) (h' : isI H lo' b y) (hm : (dig 4294967296 x.natAbs).length < 1000000000) (hm' : (dig 4294967296 y.natAbs).length < 1000000000) :
    Tot (fun n => f_whole_add n [a, b] H) fun v H' => Ext0 H H' ∧ isI H' H.n v (x + y) := by
  obtain ⟨ba, s, rfl, hba, r, f⟩ := h.shape
  obtain ⟨bb, s', rfl, hbb, r', f'⟩ := h'.shape
  have hsz : (dig 4294967296 (x.natAbs + y.natAbs)).length < 2000000000 := by
    have h1 := dig_len_lt (b := 4294967296) (x := x.natAbs) (by decide)
    have h2 := dig_len_lt (b := 4294967296) (x := y.natAbs) (by decide)
    refine Nat.lt_of_le_of_lt (dig_len_le (b := 4294967296) (n := (dig 4294967296 x.natAbs).length + (dig 4294967296 y.natAbs).length + 1) (by decide) ?_) (by omega)
    have h3 : 4294967296 ^ (dig 4294967296 x.natAbs).length ≤ 4294967296 ^ ((dig 4294967296 x.natAbs).length + (dig 4294967296 y.natAbs).length) := Nat.pow_le_pow_right (by decide) (by omega)
    have h4 : 4294967296 ^ (dig 4294967296 y.natAbs).length ≤ 4294967296 ^ ((dig 4294967296 x.natAbs).length + (dig 4294967296 y.natAbs).length) := Nat.pow_le_pow_right (by decide) (by omega)
    rw [Nat.pow_succ]; omega
  refine Tot.of fun Q hQ => ?_
  refine whole_add_tot ?_
  simp (disch := first | omega | (simp only [hn_push, hn_set, hn_more] <;> omega) | (simp <;> omega) | fail) [ld1_get, ldN_get, stA_get, faA_mk, boxA_agg, Heap.get_push_ne, Heap.get_push_eq, Heap.get_set_ne, Heap.get_set_eq, get_more, hn_push, hn_set, hn_more, chk_agg, ]
  by_cases hs : (x < 0 ↔ y < 0)
  · have hs' : decide (x < 0) = decide (y < 0) := by simpa using hs
    refine Tot.yes (by rw [hba, hbb]; simpa using hs) ?_
    refine Tot.bind (nat_Add_spec (r.keep Fr.zero (by (repeat (first | exact Keep.refl | refine Keep.call ?_ (by assumption) | refine Keep.push ?_ | refine Keep.more ?_ | refine Keep.set ?_ (by first | omega | (simp only [hn_push, hn_set, hn_more] <;> omega) | fail))))) (r'.keep Fr.zero (by (repeat (first | exact Keep.refl | refine Keep.call ?_ (by assumption) | refine Keep.push ?_ | refine Keep.more ?_ | refine Keep.set ?_ (by first | omega | (simp only [hn_push, hn_set, hn_more] <;> omega) | fail))))) (by omega) (by omega) (digL _) (digL _)) ?_
    rintro v H1 ⟨c1, s1, rfl, r1, f1⟩
    have n1 := c1.n; try simp only [hn_push, hn_set, hn_more] at n1
    rw [digV, digV] at r1
    simp (disch := first | omega | (simp only [hn_push, hn_set, hn_more] <;> omega) | (simp <;> omega) | fail) [ld1_get, ldN_get, stA_get, faA_mk, boxA_agg, Heap.get_push_ne, Heap.get_push_eq, Heap.get_set_ne, Heap.get_set_eq, get_more, hn_push, hn_set, hn_more, chk_agg, c1.g]
    refine Tot.bind (whole_norm_spec (lo := 0) r1 hsz (digL _)) ?_
    rintro v H2 ⟨c2, i2⟩
    obtain ⟨b2, s2, rfl, -⟩ := i2.shape
    have n2 := c2.n; try simp only [hn_push, hn_set, hn_more] at n2
    have e : sgn ba (x.natAbs + y.natAbs) = x + y := by subst hba hbb; unfold sgn; by_cases h : x < 0 <;> simp [h] <;> omega
    rw [digV, e] at i2
    simp (disch := first | omega | (simp only [hn_push, hn_set, hn_more] <;> omega) | (simp <;> omega) | fail) [ld1_get, ldN_get, stA_get, faA_mk, boxA_agg, Heap.get_push_ne, Heap.get_push_eq, Heap.get_set_ne, Heap.get_set_eq, get_more, hn_push, hn_set, hn_more, chk_agg, c1.g, c2.g]
    exact Tot.ret (hQ _ _ ⟨Keep.ext (by (repeat (first | exact Keep.refl | refine Keep.call ?_ (by assumption) | refine Keep.push ?_ | refine Keep.more ?_ | refine Keep.set ?_ (by first | omega | (simp only [hn_push, hn_set, hn_more] <;> omega) | fail)))), i2.out (by (repeat (first | exact Keep.refl | refine Keep.call ?_ (by assumption) | refine Keep.push ?_ | refine Keep.more ?_ | refine Keep.set ?_ (by first | omega | (simp only [hn_push, hn_set, hn_more] <;> omega) | fail)))) (by omega)⟩)
  · refine Tot.no (by rw [hba, hbb]; simpa using hs) ?_
    refine Tot.bind (nat_Sub_spec (r.keep Fr.zero (by (repeat (first | exact Keep.refl | refine Keep.call ?_ (by assumption) | refine Keep.push ?_ | refine Keep.more ?_ | refine Keep.set ?_ (by first | omega | (simp only [hn_push, hn_set, hn_more] <;> omega) | fail))))) (r'.keep Fr.zero (by (repeat (first | exact Keep.refl | refine Keep.call ?_ (by assumption) | refine Keep.push ?_ | refine Keep.more ?_ | refine Keep.set ?_ (by first | omega | (simp only [hn_push, hn_set, hn_more] <;> omega) | fail))))) (by omega) (by omega) (digL _) (digL _)) ?_
    rintro v H1 ⟨c1, s1, rfl, r1, f1⟩
    have n1 := c1.n; try simp only [hn_push, hn_set, hn_more] at n1
    rw [digV, digV] at r1 ⊢
    simp (disch := first | omega | (simp only [hn_push, hn_set, hn_more] <;> omega) | (simp <;> omega) | fail) [ld1_get, ldN_get, stA_get, faA_mk, boxA_agg, Heap.get_push_ne, Heap.get_push_eq, Heap.get_set_ne, Heap.get_set_eq, get_more, hn_push, hn_set, hn_more, chk_agg, c1.g]
    refine Tot.ite (fun hge => ?_) (fun hge => ?_)
    · refine Tot.bind (whole_norm_spec (lo := 0) r1 (Nat.lt_of_le_of_lt (sz_mono (by omega)) hsz) (digL _)) ?_
      rintro v H2 ⟨c2, i2⟩
      obtain ⟨b2, s2, rfl, -⟩ := i2.shape
      have n2 := c2.n; try simp only [hn_push, hn_set, hn_more] at n2
      have e : sgn ba (x.natAbs - y.natAbs) = x + y := by subst hba hbb; unfold sgn; by_cases h : x < 0 <;> simp [h] <;> omega
      rw [digV, e] at i2
      simp (disch := first | omega | (simp only [hn_push, hn_set, hn_more] <;> omega) | (simp <;> omega) | fail) [ld1_get, ldN_get, stA_get, faA_mk, boxA_agg, Heap.get_push_ne, Heap.get_push_eq, Heap.get_set_ne, Heap.get_set_eq, get_more, hn_push, hn_set, hn_more, chk_agg, c1.g, c2.g]
      exact Tot.ret (hQ _ _ ⟨Keep.ext (by (repeat (first | exact Keep.refl | refine Keep.call ?_ (by assumption) | refine Keep.push ?_ | refine Keep.more ?_ | refine Keep.set ?_ (by first | omega | (simp only [hn_push, hn_set, hn_more] <;> omega) | fail)))), i2.out (by (repeat (first | exact Keep.refl | refine Keep.call ?_ (by assumption) | refine Keep.push ?_ | refine Keep.more ?_ | refine Keep.set ?_ (by first | omega | (simp only [hn_push, hn_set, hn_more] <;> omega) | fail)))) (by omega)⟩)
    · refine Tot.bind (nat_Sub_spec (r'.keep Fr.zero (by (repeat (first | exact Keep.refl | refine Keep.call ?_ (by assumption) | refine Keep.push ?_ | refine Keep.more ?_ | refine Keep.set ?_ (by first | omega | (simp only [hn_push, hn_set, hn_more] <;> omega) | fail))))) (r.keep Fr.zero (by (repeat (first | exact Keep.refl | refine Keep.call ?_ (by assumption) | refine Keep.push ?_ | refine Keep.more ?_ | refine Keep.set ?_ (by first | omega | (simp only [hn_push, hn_set, hn_more] <;> omega) | fail))))) (by omega) (by omega) (digL _) (digL _)) ?_
      rintro v H2 ⟨c2, s2, rfl, r2, f2⟩
      have n2 := c2.n; try simp only [hn_push, hn_set, hn_more] at n2
      rw [digV, digV] at r2 ⊢
      simp (disch := first | omega | (simp only [hn_push, hn_set, hn_more] <;> omega) | (simp <;> omega) | fail) [ld1_get, ldN_get, stA_get, faA_mk, boxA_agg, Heap.get_push_ne, Heap.get_push_eq, Heap.get_set_ne, Heap.get_set_eq, get_more, hn_push, hn_set, hn_more, chk_agg, c1.g, c2.g]
      refine Tot.bind (whole_norm_spec (lo := 0) r2 (Nat.lt_of_le_of_lt (sz_mono (by omega)) hsz) (digL _)) ?_
      rintro v H3 ⟨c3, i3⟩
      obtain ⟨b3, s3, rfl, -⟩ := i3.shape
      have n3 := c3.n; try simp only [hn_push, hn_set, hn_more] at n3
      have e : sgn bb (y.natAbs - x.natAbs) = x + y := by subst hba hbb; unfold sgn; by_cases h : y < 0 <;> simp [h] <;> omega
      rw [digV, e] at i3
      simp (disch := first | omega | (simp only [hn_push, hn_set, hn_more] <;> omega) | (simp <;> omega) | fail) [ld1_get, ldN_get, stA_get, faA_mk, boxA_agg, Heap.get_push_ne, Heap.get_push_eq, Heap.get_set_ne, Heap.get_set_eq, get_more, hn_push, hn_set, hn_more, chk_agg, c1.g, c2.g, c3.g]
      exact Tot.ret (hQ _ _ ⟨Keep.ext (by (repeat (first | exact Keep.refl | refine Keep.call ?_ (by assumption) | refine Keep.push ?_ | refine Keep.more ?_ | refine Keep.set ?_ (by first | omega | (simp only [hn_push, hn_set, hn_more] <;> omega) | fail)))), i3.out (by (repeat (first | exact Keep.refl | refine Keep.call ?_ (by assumption) | refine Keep.push ?_ | refine Keep.more ?_ | refine Keep.set ?_ (by first | omega | (simp only [hn_push, hn_set, hn_more] <;> omega) | fail)))) (by omega)⟩)

theorem whole_Add_spec {H : Heap} {lo lo' : Nat} {a b : V} {x y : Int} (h : isI H lo a x) (h' : isI H lo' b y) (hm : (dig 4294967296 x.natAbs).length < 1000000000) (hm' : (dig 4294967296 y.natAbs).length < 1000000000) :
    Tot (fun n => f_whole_Add n [a, b] H) fun v H' => Ext0 H H' ∧ isI H' H.n v (x + y) := by
  obtain ⟨ba, s, rfl, hba, r, f⟩ := h.shape
  obtain ⟨bb, s', rfl, hbb, r', f'⟩ := h'.shape
  refine Tot.of fun Q hQ => ?_
  refine whole_Add_tot ?_
  simp (disch := first | omega | (simp only [hn_push, hn_set, hn_more] <;> omega) | (simp <;> omega) | fail) [ld1_get, ldN_get, stA_get, faA_mk, boxA_agg, Heap.get_push_ne, Heap.get_push_eq, Heap.get_set_ne, Heap.get_set_eq, get_more, hn_push, hn_set, hn_more, chk_agg, ]
  refine Tot.bind (whole_add_spec ((h.mono (Nat.zero_le _)).keep (by (repeat (first | exact Keep.refl | refine Keep.call ?_ (by assumption) | refine Keep.push ?_ | refine Keep.more ?_ | refine Keep.set ?_ (by first | omega | (simp only [hn_push, hn_set, hn_more] <;> omega) | fail))))) ((h'.mono (Nat.zero_le _)).keep (by (repeat (first | exact Keep.refl | refine Keep.call ?_ (by assumption) | refine Keep.push ?_ | refine Keep.more ?_ | refine Keep.set ?_ (by first | omega | (simp only [hn_push, hn_set, hn_more] <;> omega) | fail))))) hm hm') ?_
  rintro v H1 ⟨c1, i1⟩
  obtain ⟨b1, s1, rfl, -⟩ := i1.shape
  have n1 := c1.n; try simp only [hn_push, hn_set, hn_more] at n1
  simp (disch := first | omega | (simp only [hn_push, hn_set, hn_more] <;> omega) | (simp <;> omega) | fail) [ld1_get, ldN_get, stA_get, faA_mk, boxA_agg, Heap.get_push_ne, Heap.get_push_eq, Heap.get_set_ne, Heap.get_set_eq, get_more, hn_push, hn_set, hn_more, chk_agg, c1.g]
  exact Tot.ret (hQ _ _ ⟨Keep.ext (by (repeat (first | exact Keep.refl | refine Keep.call ?_ (by assumption) | refine Keep.push ?_ | refine Keep.more ?_ | refine Keep.set ?_ (by first | omega | (simp only [hn_push, hn_set, hn_more] <;> omega) | fail)))), i1.out (by (repeat (first | exact Keep.refl | refine Keep.call ?_ (by assumption) | refine Keep.push ?_ | refine Keep.more ?_ | refine Keep.set ?_ (by first | omega | (simp only [hn_push, hn_set, hn_more] <;> omega) | fail)))) (by simp; omega)⟩)

theorem sz_mul {x y : Nat} : (dig 4294967296 (x * y)).length ≤ (dig 4294967296 x).length + (dig 4294967296 y).length := by
  apply dig_len_le (by decide)
  rw [Nat.pow_add]
  rcases Nat.eq_zero_or_pos x with h | h
  · subst h; simp; exact Nat.mul_pos (Nat.pow_pos (by decide)) (Nat.pow_pos (by decide))
  · exact Nat.mul_lt_mul_of_lt_of_le (dig_len_lt (by decide)) (Nat.le_of_lt (dig_len_lt (by decide))) (by have := Nat.pow_pos (n := (dig 4294967296 y).length) (show 0 < 4294967296 by decide); omega)

theorem whole_Mul_spec {H : Heap} {lo lo' : Nat} {a b : V} {x y : Int} (h : isI H lo a x) (h' : isI H lo' b y) (hm : (dig 4294967296 x.natAbs).length + (dig 4294967296 y.natAbs).length < 2000000000) :
    Tot (fun n => f_whole_Mul n [a, b] H) fun v H' => Ext0 H H' ∧ isI H' H.n v (x * y) := by
  obtain ⟨ba, s, rfl, hba, r, f⟩ := h.shape
  obtain ⟨bb, s', rfl, hbb, r', f'⟩ := h'.shape
  refine Tot.of fun Q hQ => ?_
  refine whole_Mul_tot ?_
  simp (disch := first | omega | (simp only [hn_push, hn_set, hn_more] <;> omega) | (simp <;> omega) | fail) [ld1_get, ldN_get, stA_get, faA_mk, boxA_agg, Heap.get_push_ne, Heap.get_push_eq, Heap.get_set_ne, Heap.get_set_eq, get_more, hn_push, hn_set, hn_more, chk_agg, ]
  refine Tot.bind (nat_Mul_spec (r.keep Fr.zero (by (repeat (first | exact Keep.refl | refine Keep.call ?_ (by assumption) | refine Keep.push ?_ | refine Keep.more ?_ | refine Keep.set ?_ (by first | omega | (simp only [hn_push, hn_set, hn_more] <;> omega) | fail))))) (r'.keep Fr.zero (by (repeat (first | exact Keep.refl | refine Keep.call ?_ (by assumption) | refine Keep.push ?_ | refine Keep.more ?_ | refine Keep.set ?_ (by first | omega | (simp only [hn_push, hn_set, hn_more] <;> omega) | fail))))) hm (digL _) (digL _)) ?_
  rintro v H1 ⟨c1, s1, rfl, r1, f1⟩
  have n1 := c1.n; try simp only [hn_push, hn_set, hn_more] at n1
  rw [digV, digV] at r1
  simp (disch := first | omega | (simp only [hn_push, hn_set, hn_more] <;> omega) | (simp <;> omega) | fail) [ld1_get, ldN_get, stA_get, faA_mk, boxA_agg, Heap.get_push_ne, Heap.get_push_eq, Heap.get_set_ne, Heap.get_set_eq, get_more, hn_push, hn_set, hn_more, chk_agg, c1.g]
  refine Tot.bind (whole_norm_spec (lo := 0) r1 (Nat.lt_of_le_of_lt sz_mul hm) (digL _)) ?_
  rintro v H2 ⟨c2, i2⟩
  obtain ⟨b2, s2, rfl, -⟩ := i2.shape
  have n2 := c2.n; try simp only [hn_push, hn_set, hn_more] at n2
  have e : sgn (!(ba == bb)) (x.natAbs * y.natAbs) = x * y := by
    rw [hba, hbb]; exact sgn_mul0 x y
  rw [digV, e] at i2
  simp (disch := first | omega | (simp only [hn_push, hn_set, hn_more] <;> omega) | (simp <;> omega) | fail) [ld1_get, ldN_get, stA_get, faA_mk, boxA_agg, Heap.get_push_ne, Heap.get_push_eq, Heap.get_set_ne, Heap.get_set_eq, get_more, hn_push, hn_set, hn_more, chk_agg, c1.g, c2.g]
  exact Tot.ret (hQ _ _ ⟨Keep.ext (by (repeat (first | exact Keep.refl | refine Keep.call ?_ (by assumption) | refine Keep.push ?_ | refine Keep.more ?_ | refine Keep.set ?_ (by first | omega | (simp only [hn_push, hn_set, hn_more] <;> omega) | fail)))), i2.out (by (repeat (first | exact Keep.refl | refine Keep.call ?_ (by assumption) | refine Keep.push ?_ | refine Keep.more ?_ | refine Keep.set ?_ (by first | omega | (simp only [hn_push, hn_set, hn_more] <;> omega) | fail)))) (by omega)⟩)
end Go.AM
end

section
set_option linter.unusedVariables false
set_option linter.unusedSimpArgs false
/- What the functions of package whole give: Sign, Floor. -/
set_option linter.unusedSimpArgs false
set_option linter.unusedVariables false
namespace Go.AM
attribute [local congr] bnd_weak ite_weak

theorem whole_sign_spec {H : Heap} {lo : Nat} {a : V} {z : Int} (h : isI H lo a z) (hm : (dig 4294967296 z.natAbs).length < 2000000000) :
    Tot (fun n => f_whole_sign n [a] H) fun v H' => Ext0 H H' ∧ v = .int .i64 z.sign := by
  obtain ⟨ba, s, rfl, hba, r, f⟩ := h.shape
  refine Tot.of fun Q hQ => ?_
  refine whole_sign_tot ?_
  simp (disch := first | omega | (simp only [hn_push, hn_set, hn_more] <;> omega) | (simp <;> omega) | fail) [ld1_get, ldN_get, stA_get, faA_mk, boxA_agg, Heap.get_push_ne, Heap.get_push_eq, Heap.get_set_ne, Heap.get_set_eq, get_more, hn_push, hn_set, hn_more, chk_agg, ]
  refine Tot.bind (nat_Bits_spec (r.keep Fr.zero (by (repeat (first | exact Keep.refl | refine Keep.call ?_ (by assumption) | refine Keep.push ?_ | refine Keep.more ?_ | refine Keep.set ?_ (by first | omega | (simp only [hn_push, hn_set, hn_more] <;> omega) | fail))))) hm (digL _)) ?_
  rintro v H1 ⟨rfl, k, rfl, hk⟩
  rw [digV] at hk
  simp (disch := first | omega | (simp only [hn_push, hn_set, hn_more] <;> omega) | (simp <;> omega) | fail) [ld1_get, ldN_get, stA_get, faA_mk, boxA_agg, Heap.get_push_ne, Heap.get_push_eq, Heap.get_set_ne, Heap.get_set_eq, get_more, hn_push, hn_set, hn_more, chk_agg, ]
  refine Tot.ite (fun h0 => ?_) (fun h0 => ?_)
  · have : z = 0 := by omega
    subst this
    exact Tot.ret (hQ _ _ ⟨Ch.push, rfl⟩)
  · try simp (disch := first | omega | (simp only [hn_push, hn_set, hn_more] <;> omega) | (simp <;> omega) | fail) [ld1_get, ldN_get, stA_get, faA_mk, boxA_agg, Heap.get_push_ne, Heap.get_push_eq, Heap.get_set_ne, Heap.get_set_eq, get_more, hn_push, hn_set, hn_more, chk_agg, ]
    refine Tot.ite (fun h1 => ?_) (fun h1 => ?_)
    · have : z < 0 := by rw [hba] at h1; simpa using h1
      exact Tot.ret (hQ _ _ ⟨Ch.push, by rw [Int.sign_eq_neg_one_of_neg this]⟩)
    · have : 0 < z := by rw [hba] at h1; have := of_decide_eq_false (p := z < 0) (by simpa using h1); omega
      exact Tot.ret (hQ _ _ ⟨Ch.push, by rw [Int.sign_eq_one_of_pos this]⟩)

theorem whole_Sign_spec {H : Heap} {lo : Nat} {a : V} {z : Int} (h : isI H lo a z) (hm : (dig 4294967296 z.natAbs).length < 2000000000) :
    Tot (fun n => f_whole_Sign n [a] H) fun v H' => Ext0 H H' ∧ v = .int .i64 z.sign := by
  obtain ⟨ba, s, rfl, hba, r, f⟩ := h.shape
  refine Tot.of fun Q hQ => ?_
  refine whole_Sign_tot ?_
  simp (disch := first | omega | (simp only [hn_push, hn_set, hn_more] <;> omega) | (simp <;> omega) | fail) [ld1_get, ldN_get, stA_get, faA_mk, boxA_agg, Heap.get_push_ne, Heap.get_push_eq, Heap.get_set_ne, Heap.get_set_eq, get_more, hn_push, hn_set, hn_more, chk_agg, ]
  refine Tot.bind (whole_sign_spec ((h.mono (Nat.zero_le _)).keep (by (repeat (first | exact Keep.refl | refine Keep.call ?_ (by assumption) | refine Keep.push ?_ | refine Keep.more ?_ | refine Keep.set ?_ (by first | omega | (simp only [hn_push, hn_set, hn_more] <;> omega) | fail))))) hm) ?_
  rintro v H1 ⟨c1, rfl⟩
  exact Tot.ret (hQ _ _ ⟨Ch.push.t c1, rfl⟩)

theorem rat_plain_spec {H : Heap} {lo : Nat} {s : Sl} {x : Nat} (r : Row H .u32 s (dig 4294967296 x)) (f : Fr lo s) :
    Tot (fun n => f_rat_plain n [.slice s] H) fun v H' => Ext0 H H' ∧ isI H' lo v (x : Int) := by
  refine Tot.of fun Q hQ => ?_
  refine rat_plain_tot ?_
  simp (disch := first | omega | (simp only [hn_push, hn_set, hn_more] <;> omega) | (simp <;> omega) | fail) [ld1_get, ldN_get, stA_get, faA_mk, boxA_agg, Heap.get_push_ne, Heap.get_push_eq, Heap.get_set_ne, Heap.get_set_eq, get_more, hn_push, hn_set, hn_more, chk_agg, ]
  have h : isI H lo (.agg [.bool false, .slice s]) (x : Int) := ⟨s, by simp, r, f⟩
  exact Tot.ret (hQ _ _ ⟨Keep.ext (by (repeat (first | exact Keep.refl | refine Keep.call ?_ (by assumption) | refine Keep.push ?_ | refine Keep.more ?_ | refine Keep.set ?_ (by first | omega | (simp only [hn_push, hn_set, hn_more] <;> omega) | fail)))), h.keep (by (repeat (first | exact Keep.refl | refine Keep.call ?_ (by assumption) | refine Keep.push ?_ | refine Keep.more ?_ | refine Keep.set ?_ (by first | omega | (simp only [hn_push, hn_set, hn_more] <;> omega) | fail))))⟩)

theorem ediv_is {x q r b : Int} (h : x = q * b + r) (h0 : 0 ≤ r) (h1 : r < b) : x / b = q ∧ x % b = r :=
  (Int.ediv_emod_unique (by omega)).2 ⟨by rw [h, Int.mul_comm]; omega, h0, h1⟩
theorem abs_div {x : Int} {y : Nat} (hy : 0 < y) :
    (¬ x < 0 → ((x.natAbs / y : Nat) : Int) = x / y ∧ ((x.natAbs % y : Nat) : Int) = x % y) ∧
    (x < 0 → x.natAbs % y = 0 → -((x.natAbs / y : Nat) : Int) = x / y ∧ x % y = 0) ∧
    (x < 0 → x.natAbs % y ≠ 0 → -((x.natAbs / y : Nat) : Int) + -1 = x / y ∧ -((x.natAbs % y : Nat) : Int) + y = x % y) := by
  have h1 := Nat.div_add_mod x.natAbs y
  have h2 := Nat.mod_lt x.natAbs hy
  generalize x.natAbs / y = q at *
  generalize x.natAbs % y = r at *
  have h3 : ((y * q : Nat) : Int) = q * y := by rw [Int.natCast_mul, Int.mul_comm]
  have e1 : (-(q : Int)) * y = -((q : Int) * y) := Int.neg_mul _ _
  have e2 : (-(q : Int) + -1) * y = -((q : Int) * y) + -y := by rw [Int.add_mul, Int.neg_mul]; omega
  refine ⟨fun hx => ?_, fun hx hr => ?_, fun hx hr => ?_⟩
  · have := ediv_is (x := x) (q := q) (r := r) (b := y) (by omega) (by omega) (by omega)
    exact ⟨this.1.symm, this.2.symm⟩
  · have := ediv_is (x := x) (q := -(q : Int)) (r := 0) (b := y) (by omega) (by omega) (by omega)
    exact ⟨this.1.symm, this.2⟩
  · have := ediv_is (x := x) (q := -(q : Int) + -1) (r := -(r : Int) + y) (b := y) (by omega) (by omega) (by omega)
    exact ⟨this.1.symm, this.2.symm⟩

set_option maxHeartbeats 4000000 in
theorem whole_Floor_spec {H : Heap} {lo lo' : Nat} {a b : V} {x : Int} {y : Nat} (h : isI H lo a x) (h' : isI H lo' b (y : Int)) (hy : 0 < y) (hm : (dig 4294967296 x.natAbs).length < 900000000) (hm' : (dig 4294967296 y).length < 900000000) :
    Tot (fun n => f_whole_Floor n [a, b] H) fun v H' => Ext0 H H' ∧ ∃ v1 v2, v = .tuple [v1, v2, .int .i64 0] ∧ isI H' H.n v1 (x / y) ∧ isI H' H.n v2 (x % y) := by
  obtain ⟨ba, s, rfl, hba, r, f⟩ := h.shape
  obtain ⟨bb, s', rfl, hbb, r', f'⟩ := h'.shape
  have hbb' : bb = false := by rw [hbb]; simp
  subst hbb'
  simp only [Int.natAbs_natCast] at r'
  obtain ⟨d1, d2, d3⟩ := abs_div (x := x) hy
  have hq := sz_mono (Nat.div_le_self x.natAbs y)
  have hr := sz_mono (Nat.mod_le x.natAbs y)
  refine Tot.of fun Q hQ => ?_
  refine whole_Floor_tot ?_
  simp only [whole_Floor_b]
  repeat (first | refine Tot.pure (by simp (disch := first | omega | (simp only [hn_push, hn_set, hn_more] <;> omega) | fail) [ld1_get, ldN_get, stA_get, boxA, gz, gs, Heap.get_push_ne, Heap.get_push_eq, Heap.get_set_ne, Heap.get_set_eq, get_more, hn_push, hn_set, hn_more, r.lenSl]; try exact rfl) ?_ | refine Tot.chk (by simp (disch := first | omega | (simp only [hn_push, hn_set, hn_more] <;> omega) | fail) [ld1_get, ldN_get, stA_get, boxA, gz, gs, Heap.get_push_ne, Heap.get_push_eq, Heap.get_set_ne, Heap.get_set_eq, get_more, hn_push, hn_set, hn_more, r.lenSl]; done) ?_ | fail)
  refine Tot.bind (nat_DivMod_spec (r.keep Fr.zero (by (repeat (first | exact Keep.refl | refine Keep.call ?_ (by assumption) | refine Keep.push ?_ | refine Keep.more ?_ | refine Keep.set ?_ (by first | omega | (simp only [hn_push, hn_set, hn_more] <;> omega) | fail))))) (r'.keep Fr.zero (by (repeat (first | exact Keep.refl | refine Keep.call ?_ (by assumption) | refine Keep.push ?_ | refine Keep.more ?_ | refine Keep.set ?_ (by first | omega | (simp only [hn_push, hn_set, hn_more] <;> omega) | fail))))) (digL _) (digL _) (by omega) (by omega) (by rw [digV]; exact hy)) ?_
  rintro v H1 ⟨c1, s1, s2, rfl, r1, r2, f1, f2⟩
  have n1 := c1.n; try simp only [hn_push, hn_set, hn_more] at n1
  rw [digV, digV] at r1 r2
  dsimp only
  repeat (first | refine Tot.pure (by simp (disch := first | omega | (simp only [hn_push, hn_set, hn_more] <;> omega) | fail) [ld1_get, ldN_get, stA_get, boxA, gz, gs, Heap.get_push_ne, Heap.get_push_eq, Heap.get_set_ne, Heap.get_set_eq, get_more, hn_push, hn_set, hn_more, c1.g]; try exact rfl) ?_ | refine Tot.chk (by simp (disch := first | omega | (simp only [hn_push, hn_set, hn_more] <;> omega) | fail) [ld1_get, ldN_get, stA_get, boxA, gz, gs, Heap.get_push_ne, Heap.get_push_eq, Heap.get_set_ne, Heap.get_set_eq, get_more, hn_push, hn_set, hn_more, c1.g]; done) ?_ | fail)
  refine Tot.bind (whole_norm_spec (lo := 0) (r1.keep Fr.zero (by (repeat (first | exact Keep.refl | refine Keep.call ?_ (by assumption) | refine Keep.push ?_ | refine Keep.more ?_ | refine Keep.set ?_ (by first | omega | (simp only [hn_push, hn_set, hn_more] <;> omega) | fail))))) (by omega) (digL _)) ?_
  rintro v H2 ⟨c2, i2⟩
  have n2 := c2.n; try simp only [hn_push, hn_set, hn_more] at n2
  obtain ⟨b2, s2', rfl, hb2, -⟩ := i2.shape
  rw [digV] at i2 hb2
  dsimp only
  repeat (first | refine Tot.pure (by simp (disch := first | omega | (simp only [hn_push, hn_set, hn_more] <;> omega) | fail) [ld1_get, ldN_get, stA_get, boxA, gz, gs, Heap.get_push_ne, Heap.get_push_eq, Heap.get_set_ne, Heap.get_set_eq, get_more, hn_push, hn_set, hn_more, c1.g, c2.g]; try exact rfl) ?_ | refine Tot.chk (by simp (disch := first | omega | (simp only [hn_push, hn_set, hn_more] <;> omega) | fail) [ld1_get, ldN_get, stA_get, boxA, gz, gs, Heap.get_push_ne, Heap.get_push_eq, Heap.get_set_ne, Heap.get_set_eq, get_more, hn_push, hn_set, hn_more, c1.g, c2.g]; done) ?_ | fail)
  refine Tot.bind (whole_norm_spec (lo := 0) (r2.keep (lo := 0) Fr.zero (by (repeat (first | exact Keep.refl | refine Keep.call ?_ (by assumption) | refine Keep.push ?_ | refine Keep.more ?_ | refine Keep.set ?_ (by first | omega | (simp only [hn_push, hn_set, hn_more] <;> omega) | fail))))) (by omega) (digL _)) ?_
  rintro v H3 ⟨c3, i3⟩
  have n3 := c3.n; try simp only [hn_push, hn_set, hn_more] at n3
  obtain ⟨b3, s3, rfl, hb3, r3, f3⟩ := i3.shape
  rw [digV] at i3 r3
  rw [sgn_abs] at r3
  dsimp only
  repeat (first | refine Tot.pure (by simp (disch := first | omega | (simp only [hn_push, hn_set, hn_more] <;> omega) | fail) [ld1_get, ldN_get, stA_get, boxA, gz, gs, Heap.get_push_ne, Heap.get_push_eq, Heap.get_set_ne, Heap.get_set_eq, get_more, hn_push, hn_set, hn_more, c1.g, c2.g, c3.g]; try exact rfl) ?_ | refine Tot.chk (by simp (disch := first | omega | (simp only [hn_push, hn_set, hn_more] <;> omega) | fail) [ld1_get, ldN_get, stA_get, boxA, gz, gs, Heap.get_push_ne, Heap.get_push_eq, Heap.get_set_ne, Heap.get_set_eq, get_more, hn_push, hn_set, hn_more, c1.g, c2.g, c3.g]; done) ?_ | fail)
  have i2' : isI H3 (H1.more 2).n _ _ := i2.keep (by (repeat (first | exact Keep.refl | refine Keep.call ?_ (by assumption) | refine Keep.push ?_ | refine Keep.more ?_ | refine Keep.set ?_ (by first | omega | (simp only [hn_push, hn_set, hn_more] <;> omega) | fail))))
  have hfin : ∀ (H4 : Heap) (v1 v2 : V), Keep 0 H H4 → isI H4 H.n v1 (x / y) → isI H4 H.n v2 (x % y) → Q (.tuple [v1, v2, .int .i64 0]) H4 :=
    fun H4 v1 v2 k1 k2 k3 => hQ _ _ ⟨k1.ext, _, _, rfl, k2, k3⟩
  have hrl := r3.lenSl
  have hdl := dig_pos_len (x := x.natAbs % y)
  have hn0 : H.n ≤ (H1.more 2).n := by simp; omega
  refine Tot.ite (fun hs => ?_) (fun hs => ?_)
  · have hx : x < 0 := by rw [hba] at hs; simpa using hs
    repeat (first | refine Tot.pure (by simp (disch := first | omega | (simp only [hn_push, hn_set, hn_more] <;> omega) | fail) [ld1_get, ldN_get, stA_get, boxA, gz, gs, Heap.get_push_ne, Heap.get_push_eq, Heap.get_set_ne, Heap.get_set_eq, get_more, hn_push, hn_set, hn_more, c1.g, c2.g, c3.g, hrl]; try exact rfl) ?_ | refine Tot.chk (by simp (disch := first | omega | (simp only [hn_push, hn_set, hn_more] <;> omega) | fail) [ld1_get, ldN_get, stA_get, boxA, gz, gs, Heap.get_push_ne, Heap.get_push_eq, Heap.get_set_ne, Heap.get_set_eq, get_more, hn_push, hn_set, hn_more, c1.g, c2.g, c3.g, hrl]; done) ?_ | fail)
    refine Tot.ite (fun h0 => ?_) (fun h0 => ?_)
    · have hr0 : x.natAbs % y ≠ 0 := hdl.1 (by simpa using h0)
      obtain ⟨e1, e2⟩ := d3 hx hr0
      have hb1 : bSl 1 ty_uint32 [.int .u32 0] 1 [(0, .int .u32 1)] = some (.cells [.int .u32 1] ty_uint32 false) := by simp [bSl, rowA]
      repeat (first | refine Tot.pure (by simp (disch := first | omega | (simp only [hn_push, hn_set, hn_more] <;> omega) | fail) [ld1_get, ldN_get, stA_get, boxA, gz, gs, Heap.get_push_ne, Heap.get_push_eq, Heap.get_set_ne, Heap.get_set_eq, get_more, hn_push, hn_set, hn_more, c1.g, c2.g, c3.g, hb1]; try exact rfl) ?_ | refine Tot.chk (by simp (disch := first | omega | (simp only [hn_push, hn_set, hn_more] <;> omega) | fail) [ld1_get, ldN_get, stA_get, boxA, gz, gs, Heap.get_push_ne, Heap.get_push_eq, Heap.get_set_ne, Heap.get_set_eq, get_more, hn_push, hn_set, hn_more, c1.g, c2.g, c3.g, hb1]; done) ?_ | fail)
      have hrow : ∀ (G : Heap) (i : Nat), i < G.n → Row (G.set i (.cells [.int .u32 1] ty_uint32 false)) .u32 ⟨some (i, 0), 1, 1, false⟩ [1] :=
        fun G i hi => Row.new (l := [1]) (e := ty_uint32) (ro := false) (by simpa using hi) (by rw [Heap.get_set_eq rfl]; rfl)
      refine Tot.bind (whole_norm_spec (lo := 0) (l := [1]) (hrow _ _ (by simp only [hn_more, hn_set]; omega)) (by simp) (Lim.one.2 (by decide))) ?_
      rintro v H4 ⟨c4, i4⟩
      have n4 := c4.n; try simp only [hn_push, hn_set, hn_more] at n4
      obtain ⟨b4, s4, rfl, -⟩ := i4.shape
      rw [val_one, show sgn true 1 = -1 from rfl] at i4
      dsimp only
      repeat (first | refine Tot.pure (by simp (disch := first | omega | (simp only [hn_push, hn_set, hn_more] <;> omega) | fail) [ld1_get, ldN_get, stA_get, boxA, gz, gs, Heap.get_push_ne, Heap.get_push_eq, Heap.get_set_ne, Heap.get_set_eq, get_more, hn_push, hn_set, hn_more, c1.g, c2.g, c3.g, c4.g]; try exact rfl) ?_ | refine Tot.chk (by simp (disch := first | omega | (simp only [hn_push, hn_set, hn_more] <;> omega) | fail) [ld1_get, ldN_get, stA_get, boxA, gz, gs, Heap.get_push_ne, Heap.get_push_eq, Heap.get_set_ne, Heap.get_set_eq, get_more, hn_push, hn_set, hn_more, c1.g, c2.g, c3.g, c4.g]; done) ?_ | fail)
      have i2'' : isI H4 (H1.more 2).n _ _ := i2'.keep (by (repeat (first | exact Keep.refl | refine Keep.call ?_ (by assumption) | refine Keep.push ?_ | refine Keep.more ?_ | refine Keep.set ?_ (by first | omega | (simp only [hn_push, hn_set, hn_more] <;> omega) | fail))))
      have q1 : sgn ba (x.natAbs / y) = -((x.natAbs / y : Nat) : Int) := by rw [hs]; rfl
      have q2 : sgn ba (x.natAbs % y) = -((x.natAbs % y : Nat) : Int) := by rw [hs]; rfl
      rw [q1] at i2''
      rw [q2] at i3
      refine Tot.bind (whole_add_spec i2'' i4 (by rw [Int.natAbs_neg, Int.natAbs_natCast]; omega) (by simp [dig_one (show 1 < 4294967296 by decide)])) ?_
      rintro v H5 ⟨c5, i5⟩
      have n5 := c5.n; try simp only [hn_push, hn_set, hn_more] at n5
      obtain ⟨b5, s5, rfl, -⟩ := i5.shape
      rw [e1] at i5
      dsimp only
      repeat (first | refine Tot.pure (by simp (disch := first | omega | (simp only [hn_push, hn_set, hn_more] <;> omega) | fail) [ld1_get, ldN_get, stA_get, boxA, gz, gs, Heap.get_push_ne, Heap.get_push_eq, Heap.get_set_ne, Heap.get_set_eq, get_more, hn_push, hn_set, hn_more, c1.g, c2.g, c3.g, c4.g, c5.g]; try exact rfl) ?_ | refine Tot.chk (by simp (disch := first | omega | (simp only [hn_push, hn_set, hn_more] <;> omega) | fail) [ld1_get, ldN_get, stA_get, boxA, gz, gs, Heap.get_push_ne, Heap.get_push_eq, Heap.get_set_ne, Heap.get_set_eq, get_more, hn_push, hn_set, hn_more, c1.g, c2.g, c3.g, c4.g, c5.g]; done) ?_ | fail)
      have i3' : isI H5 H2.n _ _ := i3.keep (by (repeat (first | exact Keep.refl | refine Keep.call ?_ (by assumption) | refine Keep.push ?_ | refine Keep.more ?_ | refine Keep.set ?_ (by first | omega | (simp only [hn_push, hn_set, hn_more] <;> omega) | fail))))
      have h'' := (h'.mono (Nat.zero_le _)).keep (H' := H5) (by (repeat (first | exact Keep.refl | refine Keep.call ?_ (by assumption) | refine Keep.push ?_ | refine Keep.more ?_ | refine Keep.set ?_ (by first | omega | (simp only [hn_push, hn_set, hn_more] <;> omega) | fail))))
      refine Tot.bind (whole_add_spec i3' h'' (by rw [Int.natAbs_neg, Int.natAbs_natCast]; omega) (by rw [Int.natAbs_natCast]; omega)) ?_
      rintro v H6 ⟨c6, i6⟩
      have n6 := c6.n; try simp only [hn_push, hn_set, hn_more] at n6
      obtain ⟨b6, s6, rfl, -⟩ := i6.shape
      rw [e2] at i6
      dsimp only
      have i5' : isI H6 _ _ _ := i5.keep (by (repeat (first | exact Keep.refl | refine Keep.call ?_ (by assumption) | refine Keep.push ?_ | refine Keep.more ?_ | refine Keep.set ?_ (by first | omega | (simp only [hn_push, hn_set, hn_more] <;> omega) | fail))))
      repeat (first | refine Tot.pure (by simp (disch := first | omega | (simp only [hn_push, hn_set, hn_more] <;> omega) | fail) [ld1_get, ldN_get, stA_get, boxA, gz, gs, Heap.get_push_ne, Heap.get_push_eq, Heap.get_set_ne, Heap.get_set_eq, get_more, hn_push, hn_set, hn_more, c1.g, c2.g, c3.g, c4.g, c5.g, c6.g]; try exact rfl) ?_ | refine Tot.chk (by simp (disch := first | omega | (simp only [hn_push, hn_set, hn_more] <;> omega) | fail) [ld1_get, ldN_get, stA_get, boxA, gz, gs, Heap.get_push_ne, Heap.get_push_eq, Heap.get_set_ne, Heap.get_set_eq, get_more, hn_push, hn_set, hn_more, c1.g, c2.g, c3.g, c4.g, c5.g, c6.g]; done) ?_ | fail)
      exact Tot.ret (hfin _ _ _ (by (repeat (first | exact Keep.refl | refine Keep.call ?_ (by assumption) | refine Keep.push ?_ | refine Keep.more ?_ | refine Keep.set ?_ (by first | omega | (simp only [hn_push, hn_set, hn_more] <;> omega) | fail)))) (i5'.out (by (repeat (first | exact Keep.refl | refine Keep.call ?_ (by assumption) | refine Keep.push ?_ | refine Keep.more ?_ | refine Keep.set ?_ (by first | omega | (simp only [hn_push, hn_set, hn_more] <;> omega) | fail)))) (by omega)) (i6.out (by (repeat (first | exact Keep.refl | refine Keep.call ?_ (by assumption) | refine Keep.push ?_ | refine Keep.more ?_ | refine Keep.set ?_ (by first | omega | (simp only [hn_push, hn_set, hn_more] <;> omega) | fail)))) (by omega)))
    · have hr0 : x.natAbs % y = 0 := by
        rcases Nat.eq_zero_or_pos (x.natAbs % y) with e | e
        · exact e
        · exfalso; apply h0; have := hdl.2 (by omega); simpa using this
      obtain ⟨e1, e2⟩ := d2 hx hr0
      have q1 : sgn ba (x.natAbs / y) = x / y := by rw [hs]; simpa [sgn] using e1
      have q2 : sgn ba (x.natAbs % y) = x % y := by rw [hr0, e2]; unfold sgn; split <;> rfl
      rw [q1] at i2'
      rw [q2] at i3
      repeat (first | refine Tot.pure (by simp (disch := first | omega | (simp only [hn_push, hn_set, hn_more] <;> omega) | fail) [ld1_get, ldN_get, stA_get, boxA, gz, gs, Heap.get_push_ne, Heap.get_push_eq, Heap.get_set_ne, Heap.get_set_eq, get_more, hn_push, hn_set, hn_more, c1.g, c2.g, c3.g]; try exact rfl) ?_ | refine Tot.chk (by simp (disch := first | omega | (simp only [hn_push, hn_set, hn_more] <;> omega) | fail) [ld1_get, ldN_get, stA_get, boxA, gz, gs, Heap.get_push_ne, Heap.get_push_eq, Heap.get_set_ne, Heap.get_set_eq, get_more, hn_push, hn_set, hn_more, c1.g, c2.g, c3.g]; done) ?_ | fail)
      exact Tot.ret (hfin _ _ _ (by (repeat (first | exact Keep.refl | refine Keep.call ?_ (by assumption) | refine Keep.push ?_ | refine Keep.more ?_ | refine Keep.set ?_ (by first | omega | (simp only [hn_push, hn_set, hn_more] <;> omega) | fail)))) (i2'.out (by (repeat (first | exact Keep.refl | refine Keep.call ?_ (by assumption) | refine Keep.push ?_ | refine Keep.more ?_ | refine Keep.set ?_ (by first | omega | (simp only [hn_push, hn_set, hn_more] <;> omega) | fail)))) hn0) (i3.out (by (repeat (first | exact Keep.refl | refine Keep.call ?_ (by assumption) | refine Keep.push ?_ | refine Keep.more ?_ | refine Keep.set ?_ (by first | omega | (simp only [hn_push, hn_set, hn_more] <;> omega) | fail)))) (by omega)))
  · have hx : ¬ x < 0 := by rw [hba] at hs; simpa using hs
    obtain ⟨e1, e2⟩ := d1 hx
    have hbf : ba = false := by simpa using hs
    have q1 : sgn ba (x.natAbs / y) = x / y := by rw [hbf]; simpa [sgn] using e1
    have q2 : sgn ba (x.natAbs % y) = x % y := by rw [hbf]; simpa [sgn] using e2
    rw [q1] at i2'
    rw [q2] at i3
    repeat (first | refine Tot.pure (by simp (disch := first | omega | (simp only [hn_push, hn_set, hn_more] <;> omega) | fail) [ld1_get, ldN_get, stA_get, boxA, gz, gs, Heap.get_push_ne, Heap.get_push_eq, Heap.get_set_ne, Heap.get_set_eq, get_more, hn_push, hn_set, hn_more, c1.g, c2.g, c3.g]; try exact rfl) ?_ | refine Tot.chk (by simp (disch := first | omega | (simp only [hn_push, hn_set, hn_more] <;> omega) | fail) [ld1_get, ldN_get, stA_get, boxA, gz, gs, Heap.get_push_ne, Heap.get_push_eq, Heap.get_set_ne, Heap.get_set_eq, get_more, hn_push, hn_set, hn_more, c1.g, c2.g, c3.g]; done) ?_ | fail)
    exact Tot.ret (hfin _ _ _ (by (repeat (first | exact Keep.refl | refine Keep.call ?_ (by assumption) | refine Keep.push ?_ | refine Keep.more ?_ | refine Keep.set ?_ (by first | omega | (simp only [hn_push, hn_set, hn_more] <;> omega) | fail)))) (i2'.out (by (repeat (first | exact Keep.refl | refine Keep.call ?_ (by assumption) | refine Keep.push ?_ | refine Keep.more ?_ | refine Keep.set ?_ (by first | omega | (simp only [hn_push, hn_set, hn_more] <;> omega) | fail)))) hn0) (i3.out (by (repeat (first | exact Keep.refl | refine Keep.call ?_ (by assumption) | refine Keep.push ?_ | refine Keep.more ?_ | refine Keep.set ?_ (by first | omega | (simp only [hn_push, hn_set, hn_more] <;> omega) | fail)))) (by omega)))
end Go.AM
end

section
set_option linter.unusedVariables false
set_option linter.unusedSimpArgs false
/- What the functions of package rat give. -/
set_option linter.unusedSimpArgs false
set_option linter.unusedVariables false
namespace Go.AM
attribute [local congr] bnd_weak ite_weak

/-- A fraction, in lowest terms. -/
def isR (H : Heap) (lo : Nat) (v : V) (n : Int) (d : Nat) : Prop :=
  ∃ b s t, v = .agg [.bool b, .slice s, .slice t] ∧ isI H lo (.agg [.bool b, .slice s]) n ∧ Row H .u32 t (dig 4294967296 d) ∧ Fr lo t ∧ 0 < d ∧ Nat.gcd n.natAbs d = 1
theorem isR.keep {H H' : Heap} {lo : Nat} {v : V} {n : Int} {d : Nat} (h : isR H lo v n d) (c : Keep lo H H') : isR H' lo v n d := by
  obtain ⟨b, s, t, rfl, i, r, f, h1, h2⟩ := h; exact ⟨b, s, t, rfl, i.keep c, r.keep f c, f, h1, h2⟩
theorem isR.mono {H : Heap} {lo lo' : Nat} {v : V} {n : Int} {d : Nat} (h : isR H lo v n d) (c : lo' ≤ lo) : isR H lo' v n d := by
  obtain ⟨b, s, t, rfl, i, r, f, h1, h2⟩ := h; exact ⟨b, s, t, rfl, i.mono c, r, f.mono c, h1, h2⟩
theorem isR.out {H1 H2 : Heap} {lo n : Nat} {v : V} {z : Int} {d : Nat} (h : isR H1 lo v z d) (c : Keep lo H1 H2) (hn : n ≤ lo) : isR H2 n v z d := (h.keep c).mono hn

/-- In lowest terms. -/
def lowN (n : Int) (d : Nat) : Int := if d = 0 then 0 else sgn (decide (n < 0)) (n.natAbs / Nat.gcd n.natAbs d)
def lowD (n : Int) (d : Nat) : Nat := if d = 0 then 1 else d / Nat.gcd n.natAbs d

theorem lowD_pos {n : Int} {d : Nat} : 0 < lowD n d := by
  unfold lowD; split
  · decide
  · rename_i h
    exact Nat.div_pos (Nat.le_of_dvd (by omega) (Nat.gcd_dvd_right _ _)) (Nat.gcd_pos_of_pos_right _ (by omega))
theorem low_cop {n : Int} {d : Nat} : Nat.gcd (lowN n d).natAbs (lowD n d) = 1 := by
  unfold lowN lowD
  by_cases h : d = 0
  · simp [h]
  · simp only [if_neg h, sgn_abs]
    rw [Nat.gcd_div (Nat.gcd_dvd_left _ _) (Nat.gcd_dvd_right _ _)]
    exact Nat.div_self (Nat.gcd_pos_of_pos_right _ (by omega))
theorem low_zero {d : Nat} : lowN 0 d = 0 ∧ lowD 0 d = 1 := by
  unfold lowN lowD
  by_cases h : d = 0
  · simp [h]
  · simp [h, sgn]; exact Nat.div_self (by omega)

theorem one_row {G : Heap} : Row (G.push (.cells [.int .u32 1] ty_uint32 false)) .u32 ⟨some (G.n, 0), 1, 1, false⟩ (dig 4294967296 1) := by
  rw [dig_one (by decide) (by decide)]
  exact Row.new (l := [1]) (e := ty_uint32) (ro := false) (by simp) (by rw [Heap.get_push_eq rfl]; rfl)

set_option maxHeartbeats 2000000 in
theorem rat_lowest_spec {H : Heap} {b : Bool} {s t : Sl} {l lt : List Nat} (r : Row H .u32 s l) (r' : Row H .u32 t lt) (hm : l.length < 900000000) (hm' : lt.length < 900000000) (hL : Lim 4294967296 l) (hL' : Lim 4294967296 lt) :
    Tot (fun n => f_rat_lowest n [.agg [.bool b, .slice s], .slice t] H) fun v H' => Ext0 H H' ∧ isR H' H.n v (lowN (sgn b (val 4294967296 l)) (val 4294967296 lt)) (lowD (sgn b (val 4294967296 l)) (val 4294967296 lt)) := by
  have k1 := dig_len_le (b := 4294967296) (by decide) (val_lt hL)
  have k2 := dig_len_le (b := 4294967296) (by decide) (val_lt hL')
  refine Tot.of fun Q hQ => ?_
  refine rat_lowest_tot ?_
  simp only [rat_lowest_b]
  repeat (first | refine Tot.pure (by simp (disch := first | omega | (simp only [hn_push, hn_set, hn_more] <;> omega) | fail) [ld1_get, ldN_get, stA_get, boxA, gz, gs, Heap.get_push_ne, Heap.get_push_eq, Heap.get_set_ne, Heap.get_set_eq, get_more, hn_push, hn_set, hn_more, ]; try exact rfl) ?_ | refine Tot.chk (by simp (disch := first | omega | (simp only [hn_push, hn_set, hn_more] <;> omega) | fail) [ld1_get, ldN_get, stA_get, boxA, gz, gs, Heap.get_push_ne, Heap.get_push_eq, Heap.get_set_ne, Heap.get_set_eq, get_more, hn_push, hn_set, hn_more, ]; done) ?_ | fail)
  refine Tot.bind (whole_Norm_spec (r.keep Fr.zero (by (repeat (first | exact Keep.refl | refine Keep.call ?_ (by assumption) | refine Keep.push ?_ | refine Keep.more ?_ | refine Keep.set ?_ (by first | omega | (simp only [hn_push, hn_set, hn_more] <;> omega) | fail))))) (by omega) hL) ?_
  rintro v H1 ⟨c1, i1⟩
  have n1 := c1.n; try simp only [hn_push, hn_set, hn_more] at n1
  obtain ⟨b1, s1, rfl, hb1, r1, f1⟩ := i1.shape
  rw [sgn_abs] at r1
  obtain ⟨z, hz⟩ : ∃ z, z = sgn b (val 4294967296 l) := ⟨_, rfl⟩
  have hza : z.natAbs = val 4294967296 l := by rw [hz, sgn_abs]
  rw [← hz] at hQ i1 hb1
  dsimp only
  refine Tot.bind (nat_Trim_spec (r'.keep Fr.zero (by (repeat (first | exact Keep.refl | refine Keep.call ?_ (by assumption) | refine Keep.push ?_ | refine Keep.more ?_ | refine Keep.set ?_ (by first | omega | (simp only [hn_push, hn_set, hn_more] <;> omega) | fail))))) (by omega) hL') ?_
  rintro v H2 ⟨c2, t2, rfl, o2, f2⟩
  have n2 := c2.n; try simp only [hn_push, hn_set, hn_more] at n2
  have r2 := o2.row
  have hb0 : bSl 1 ty_uint32 [.int .u32 0] 1 [(0, .int .u32 1)] = some (.cells [.int .u32 1] ty_uint32 false) := by simp [bSl, rowA]
  obtain ⟨d, hd⟩ : ∃ d, d = val 4294967296 lt := ⟨_, rfl⟩
  rw [← hd] at hQ r2 k2
  rw [← hza] at r1 k1
  dsimp only
  repeat (first | refine Tot.pure (by simp (disch := first | omega | (simp only [hn_push, hn_set, hn_more] <;> omega) | fail) [ld1_get, ldN_get, stA_get, boxA, gz, gs, Heap.get_push_ne, Heap.get_push_eq, Heap.get_set_ne, Heap.get_set_eq, get_more, hn_push, hn_set, hn_more, c1.g, c2.g, r2.lenSl]; try exact rfl) ?_ | refine Tot.chk (by simp (disch := first | omega | (simp only [hn_push, hn_set, hn_more] <;> omega) | fail) [ld1_get, ldN_get, stA_get, boxA, gz, gs, Heap.get_push_ne, Heap.get_push_eq, Heap.get_set_ne, Heap.get_set_eq, get_more, hn_push, hn_set, hn_more, c1.g, c2.g, r2.lenSl]; done) ?_ | fail)
  -- nought
  have fin0 : ∀ (G : Heap), H.n + 2 ≤ G.n → Keep 0 H G → (d = 0 ∨ z = 0) → Q (.agg [.bool false, .slice ⟨none, 0, 0, false⟩, .slice ⟨some (G.n, 0), 1, 1, false⟩]) (((G.push (.cells [.int .u32 1] ty_uint32 false))).set (H.n + 1) (.cells [.bool false, .slice ⟨none, 0, 0, false⟩, .slice ⟨some (G.n, 0), 1, 1, false⟩] ty_api_Rat false)) := by
    intro G hGn kG h0
    have kn := kG.n
    have e1 : lowN z d = 0 := by
      rcases h0 with h0 | h0
      · simp [lowN, h0]
      · rw [h0]; exact low_zero.1
    have e2 : lowD z d = 1 := by
      rcases h0 with h0 | h0
      · simp [lowD, h0]
      · rw [h0]; exact low_zero.2
    refine hQ _ _ ⟨Keep.ext (Keep.set (Keep.push kG) (by omega)), ?_⟩
    rw [e1, e2]
    refine ⟨_, _, _, rfl, ⟨⟨none, 0, 0, false⟩, by simp, by rw [Int.natAbs_zero, dig_zero]; exact Row.nil, Fr.nil⟩, one_row.keep (lo := G.n) (fun i hi => by rw [has_mk] at hi; omega) (by (repeat (first | exact Keep.refl | refine Keep.call ?_ (by assumption) | refine Keep.push ?_ | refine Keep.more ?_ | refine Keep.set ?_ (by first | omega | (simp only [hn_push, hn_set, hn_more] <;> omega) | fail)))), fun i hi => by rw [has_mk] at hi; omega, by decide, by decide⟩
  refine Tot.ite (fun h0 => ?_) (fun h0 => ?_)
  · repeat (first | refine Tot.pure (by simp (disch := first | omega | (simp only [hn_push, hn_set, hn_more] <;> omega) | fail) [ld1_get, ldN_get, stA_get, boxA, gz, gs, Heap.get_push_ne, Heap.get_push_eq, Heap.get_set_ne, Heap.get_set_eq, get_more, hn_push, hn_set, hn_more, c1.g, c2.g, hb0]; try exact rfl) ?_ | refine Tot.chk (by simp (disch := first | omega | (simp only [hn_push, hn_set, hn_more] <;> omega) | fail) [ld1_get, ldN_get, stA_get, boxA, gz, gs, Heap.get_push_ne, Heap.get_push_eq, Heap.get_set_ne, Heap.get_set_eq, get_more, hn_push, hn_set, hn_more, c1.g, c2.g, hb0]; done) ?_ | fail)
    have hd0 : d = 0 := by
      rw [← dig_eq_nil (b := 4294967296) (by decide)]
      exact List.eq_nil_of_length_eq_zero (by simpa using h0)
    exact Tot.ret (fin0 (H2.set H.n (.cells [.bool b1, .slice s1] ty_api_Int false)) (by simp only [hn_set]; omega) (by (repeat (first | exact Keep.refl | refine Keep.call ?_ (by assumption) | refine Keep.push ?_ | refine Keep.more ?_ | refine Keep.set ?_ (by first | omega | (simp only [hn_push, hn_set, hn_more] <;> omega) | fail)))) (.inl hd0))
  · have hd0 : d ≠ 0 := by
      intro e; apply h0; rw [e, dig_zero]; simp
    repeat (first | refine Tot.pure (by simp (disch := first | omega | (simp only [hn_push, hn_set, hn_more] <;> omega) | fail) [ld1_get, ldN_get, stA_get, boxA, gz, gs, Heap.get_push_ne, Heap.get_push_eq, Heap.get_set_ne, Heap.get_set_eq, get_more, hn_push, hn_set, hn_more, c1.g, c2.g, r1.lenSl]; try exact rfl) ?_ | refine Tot.chk (by simp (disch := first | omega | (simp only [hn_push, hn_set, hn_more] <;> omega) | fail) [ld1_get, ldN_get, stA_get, boxA, gz, gs, Heap.get_push_ne, Heap.get_push_eq, Heap.get_set_ne, Heap.get_set_eq, get_more, hn_push, hn_set, hn_more, c1.g, c2.g, r1.lenSl]; done) ?_ | fail)
    refine Tot.ite (fun h1 => ?_) (fun h1 => ?_)
    · repeat (first | refine Tot.pure (by simp (disch := first | omega | (simp only [hn_push, hn_set, hn_more] <;> omega) | fail) [ld1_get, ldN_get, stA_get, boxA, gz, gs, Heap.get_push_ne, Heap.get_push_eq, Heap.get_set_ne, Heap.get_set_eq, get_more, hn_push, hn_set, hn_more, c1.g, c2.g, hb0]; try exact rfl) ?_ | refine Tot.chk (by simp (disch := first | omega | (simp only [hn_push, hn_set, hn_more] <;> omega) | fail) [ld1_get, ldN_get, stA_get, boxA, gz, gs, Heap.get_push_ne, Heap.get_push_eq, Heap.get_set_ne, Heap.get_set_eq, get_more, hn_push, hn_set, hn_more, c1.g, c2.g, hb0]; done) ?_ | fail)
      have hz0 : z.natAbs = 0 := by
        rw [← dig_eq_nil (b := 4294967296) (by decide)]
        exact List.eq_nil_of_length_eq_zero (by simpa using h1)
      exact Tot.ret (fin0 (H2.set H.n (.cells [.bool b1, .slice s1] ty_api_Int false)) (by simp only [hn_set]; omega) (by (repeat (first | exact Keep.refl | refine Keep.call ?_ (by assumption) | refine Keep.push ?_ | refine Keep.more ?_ | refine Keep.set ?_ (by first | omega | (simp only [hn_push, hn_set, hn_more] <;> omega) | fail)))) (.inr (by omega)))
    · have hz0 : z.natAbs ≠ 0 := by
        intro e; apply h1; rw [e, dig_zero]; simp
      repeat (first | refine Tot.pure (by simp (disch := first | omega | (simp only [hn_push, hn_set, hn_more] <;> omega) | fail) [ld1_get, ldN_get, stA_get, boxA, gz, gs, Heap.get_push_ne, Heap.get_push_eq, Heap.get_set_ne, Heap.get_set_eq, get_more, hn_push, hn_set, hn_more, c1.g, c2.g]; try exact rfl) ?_ | refine Tot.chk (by simp (disch := first | omega | (simp only [hn_push, hn_set, hn_more] <;> omega) | fail) [ld1_get, ldN_get, stA_get, boxA, gz, gs, Heap.get_push_ne, Heap.get_push_eq, Heap.get_set_ne, Heap.get_set_eq, get_more, hn_push, hn_set, hn_more, c1.g, c2.g]; done) ?_ | fail)
      have hg0 : 0 < Nat.gcd z.natAbs d := Nat.gcd_pos_of_pos_right _ (by omega)
      refine Tot.bind (nat_Gcd_spec (r1.keep f1 (by (repeat (first | exact Keep.refl | refine Keep.call ?_ (by assumption) | refine Keep.push ?_ | refine Keep.more ?_ | refine Keep.set ?_ (by first | omega | (simp only [hn_push, hn_set, hn_more] <;> omega) | fail))))) (r2.keep (lo := H1.n) f2 (by (repeat (first | exact Keep.refl | refine Keep.call ?_ (by assumption) | refine Keep.push ?_ | refine Keep.more ?_ | refine Keep.set ?_ (by first | omega | (simp only [hn_push, hn_set, hn_more] <;> omega) | fail))))) (digL _) (digL _) (by omega) (by omega)) ?_
      rintro v H3 ⟨c3, s3, rfl, r3, f3⟩
      have n3 := c3.n; try simp only [hn_push, hn_set, hn_more] at n3
      rw [digV, digV] at r3
      have k3 : (dig 4294967296 (Nat.gcd z.natAbs d)).length ≤ (dig 4294967296 d).length := sz_mono (Nat.gcd_le_right _ (by omega))
      generalize hg : Nat.gcd z.natAbs d = g at *
      dsimp only
      repeat (first | refine Tot.pure (by simp (disch := first | omega | (simp only [hn_push, hn_set, hn_more] <;> omega) | fail) [ld1_get, ldN_get, stA_get, boxA, gz, gs, Heap.get_push_ne, Heap.get_push_eq, Heap.get_set_ne, Heap.get_set_eq, get_more, hn_push, hn_set, hn_more, c1.g, c2.g, c3.g]; try exact rfl) ?_ | refine Tot.chk (by simp (disch := first | omega | (simp only [hn_push, hn_set, hn_more] <;> omega) | fail) [ld1_get, ldN_get, stA_get, boxA, gz, gs, Heap.get_push_ne, Heap.get_push_eq, Heap.get_set_ne, Heap.get_set_eq, get_more, hn_push, hn_set, hn_more, c1.g, c2.g, c3.g]; done) ?_ | fail)
      refine Tot.bind (nat_DivMod_spec (r1.keep f1 (by (repeat (first | exact Keep.refl | refine Keep.call ?_ (by assumption) | refine Keep.push ?_ | refine Keep.more ?_ | refine Keep.set ?_ (by first | omega | (simp only [hn_push, hn_set, hn_more] <;> omega) | fail))))) r3 (digL _) (digL _) (by omega) (by omega) (by rw [digV]; exact hg0)) ?_
      rintro v H4 ⟨c4, s4, s5, rfl, r4, -, f4, -⟩
      have n4 := c4.n; try simp only [hn_push, hn_set, hn_more] at n4
      rw [digV, digV] at r4
      dsimp only
      repeat (first | refine Tot.pure (by simp (disch := first | omega | (simp only [hn_push, hn_set, hn_more] <;> omega) | fail) [ld1_get, ldN_get, stA_get, boxA, gz, gs, Heap.get_push_ne, Heap.get_push_eq, Heap.get_set_ne, Heap.get_set_eq, get_more, hn_push, hn_set, hn_more, c1.g, c2.g, c3.g, c4.g]; try exact rfl) ?_ | refine Tot.chk (by simp (disch := first | omega | (simp only [hn_push, hn_set, hn_more] <;> omega) | fail) [ld1_get, ldN_get, stA_get, boxA, gz, gs, Heap.get_push_ne, Heap.get_push_eq, Heap.get_set_ne, Heap.get_set_eq, get_more, hn_push, hn_set, hn_more, c1.g, c2.g, c3.g, c4.g]; done) ?_ | fail)
      refine Tot.bind (nat_DivMod_spec (r2.keep (lo := H1.n) f2 (by (repeat (first | exact Keep.refl | refine Keep.call ?_ (by assumption) | refine Keep.push ?_ | refine Keep.more ?_ | refine Keep.set ?_ (by first | omega | (simp only [hn_push, hn_set, hn_more] <;> omega) | fail))))) (r3.keep f3 (by (repeat (first | exact Keep.refl | refine Keep.call ?_ (by assumption) | refine Keep.push ?_ | refine Keep.more ?_ | refine Keep.set ?_ (by first | omega | (simp only [hn_push, hn_set, hn_more] <;> omega) | fail))))) (digL _) (digL _) (by omega) (by omega) (by rw [digV]; exact hg0)) ?_
      rintro v H5 ⟨c5, s6, s7, rfl, r5, -, f5, -⟩
      have n5 := c5.n; try simp only [hn_push, hn_set, hn_more] at n5
      rw [digV, digV] at r5
      dsimp only
      repeat (first | refine Tot.pure (by simp (disch := first | omega | (simp only [hn_push, hn_set, hn_more] <;> omega) | fail) [ld1_get, ldN_get, stA_get, boxA, gz, gs, Heap.get_push_ne, Heap.get_push_eq, Heap.get_set_ne, Heap.get_set_eq, get_more, hn_push, hn_set, hn_more, c1.g, c2.g, c3.g, c4.g, c5.g]; try exact rfl) ?_ | refine Tot.chk (by simp (disch := first | omega | (simp only [hn_push, hn_set, hn_more] <;> omega) | fail) [ld1_get, ldN_get, stA_get, boxA, gz, gs, Heap.get_push_ne, Heap.get_push_eq, Heap.get_set_ne, Heap.get_set_eq, get_more, hn_push, hn_set, hn_more, c1.g, c2.g, c3.g, c4.g, c5.g]; done) ?_ | fail)
      refine Tot.ret (hQ _ _ ⟨Keep.ext (by (repeat (first | exact Keep.refl | refine Keep.call ?_ (by assumption) | refine Keep.push ?_ | refine Keep.more ?_ | refine Keep.set ?_ (by first | omega | (simp only [hn_push, hn_set, hn_more] <;> omega) | fail)))), ?_⟩)
      have eN : lowN z d = sgn b1 (z.natAbs / g) := by rw [lowN, if_neg hd0, hb1, hg]
      have eD : lowD z d = d / g := by rw [lowD, if_neg hd0, hg]
      have hqn : z.natAbs / g ≠ 0 := by
        have := Nat.div_pos (Nat.le_of_dvd (by omega) (hg ▸ Nat.gcd_dvd_left z.natAbs d)) hg0
        omega
      refine ⟨b1, s4, s6, rfl, ⟨s4, ?_, ?_, ?_⟩, ?_, ?_, lowD_pos, low_cop⟩
      · rw [eN, sgn_neg]; simp [hqn]
      · rw [eN, sgn_abs]; exact r4.keep f4 (by (repeat (first | exact Keep.refl | refine Keep.call ?_ (by assumption) | refine Keep.push ?_ | refine Keep.more ?_ | refine Keep.set ?_ (by first | omega | (simp only [hn_push, hn_set, hn_more] <;> omega) | fail))))
      · exact f4.mono (by omega)
      · rw [eD]; exact r5.keep f5 (by (repeat (first | exact Keep.refl | refine Keep.call ?_ (by assumption) | refine Keep.push ?_ | refine Keep.more ?_ | refine Keep.set ?_ (by first | omega | (simp only [hn_push, hn_set, hn_more] <;> omega) | fail))))
      · exact f5.mono (by simp; omega)

/-- A fraction as it comes in. -/
def rawR (H : Heap) (v : V) (n : Int) (d N : Nat) : Prop :=
  ∃ b s t l lt, v = .agg [.bool b, .slice s, .slice t] ∧ Row H .u32 s l ∧ Row H .u32 t lt ∧ Lim 4294967296 l ∧ Lim 4294967296 lt ∧ l.length ≤ N ∧ lt.length ≤ N ∧ n = sgn b (val 4294967296 l) ∧ d = val 4294967296 lt
theorem rawR.ext {H H' : Heap} {v : V} {n : Int} {d N : Nat} (h : rawR H v n d N) (c : Ext0 H H') : rawR H' v n d N := by
  obtain ⟨b, s, t, l, lt, rfl, r1, r2, h⟩ := h
  exact ⟨b, s, t, l, lt, rfl, r1.ext c, r2.ext c, h⟩
theorem isR.raw {H : Heap} {lo : Nat} {v : V} {n : Int} {d : Nat} (h : isR H lo v n d) : rawR H v n d (max (dig 4294967296 n.natAbs).length (dig 4294967296 d).length) := by
  obtain ⟨b, s, t, rfl, i, r, f, h1, h2⟩ := h
  obtain ⟨b', s', e, hb, rs, fs⟩ := i.shape
  simp at e
  obtain ⟨rfl, rfl⟩ := e
  exact ⟨b, s, t, _, _, rfl, rs, r, digL _, digL _, Nat.le_max_left _ _, Nat.le_max_right _ _, by rw [digV, hb, sgn_of], by rw [digV]⟩

theorem rat_norm_spec {H : Heap} {v : V} {n : Int} {d N : Nat} (h : rawR H v n d N) (hm : N < 900000000) :
    Tot (fun n => f_rat_norm n [v] H) fun v H' => Ext0 H H' ∧ isR H' H.n v (lowN n d) (lowD n d) := by
  obtain ⟨b, s, t, l, lt, rfl, r1, r2, hL, hL', hl, hl', rfl, rfl⟩ := h
  refine Tot.of fun Q hQ => ?_
  refine rat_norm_tot ?_
  simp only [rat_norm_b]
  repeat (first | refine Tot.pure (by simp (disch := first | omega | (simp only [hn_push, hn_set, hn_more] <;> omega) | fail) [ld1_get, ldN_get, stA_get, boxA, gz, gs, Heap.get_push_ne, Heap.get_push_eq, Heap.get_set_ne, Heap.get_set_eq, get_more, hn_push, hn_set, hn_more, ]; try exact rfl) ?_ | refine Tot.chk (by simp (disch := first | omega | (simp only [hn_push, hn_set, hn_more] <;> omega) | fail) [ld1_get, ldN_get, stA_get, boxA, gz, gs, Heap.get_push_ne, Heap.get_push_eq, Heap.get_set_ne, Heap.get_set_eq, get_more, hn_push, hn_set, hn_more, ]; done) ?_ | fail)
  refine Tot.bind (rat_lowest_spec (r1.keep Fr.zero (by (repeat (first | exact Keep.refl | refine Keep.call ?_ (by assumption) | refine Keep.push ?_ | refine Keep.more ?_ | refine Keep.set ?_ (by first | omega | (simp only [hn_push, hn_set, hn_more] <;> omega) | fail))))) (r2.keep Fr.zero (by (repeat (first | exact Keep.refl | refine Keep.call ?_ (by assumption) | refine Keep.push ?_ | refine Keep.more ?_ | refine Keep.set ?_ (by first | omega | (simp only [hn_push, hn_set, hn_more] <;> omega) | fail))))) (by omega) (by omega) hL hL') ?_
  rintro v H1 ⟨c1, i1⟩
  have n1 := c1.n; try simp only [hn_push, hn_set, hn_more] at n1
  obtain ⟨b1, s1, t1, rfl, -⟩ := id i1
  dsimp only
  repeat (first | refine Tot.pure (by simp (disch := first | omega | (simp only [hn_push, hn_set, hn_more] <;> omega) | fail) [ld1_get, ldN_get, stA_get, boxA, gz, gs, Heap.get_push_ne, Heap.get_push_eq, Heap.get_set_ne, Heap.get_set_eq, get_more, hn_push, hn_set, hn_more, c1.g]; try exact rfl) ?_ | refine Tot.chk (by simp (disch := first | omega | (simp only [hn_push, hn_set, hn_more] <;> omega) | fail) [ld1_get, ldN_get, stA_get, boxA, gz, gs, Heap.get_push_ne, Heap.get_push_eq, Heap.get_set_ne, Heap.get_set_eq, get_more, hn_push, hn_set, hn_more, c1.g]; done) ?_ | fail)
  exact Tot.ret (hQ _ _ ⟨Keep.ext (by (repeat (first | exact Keep.refl | refine Keep.call ?_ (by assumption) | refine Keep.push ?_ | refine Keep.more ?_ | refine Keep.set ?_ (by first | omega | (simp only [hn_push, hn_set, hn_more] <;> omega) | fail)))), i1.out (by (repeat (first | exact Keep.refl | refine Keep.call ?_ (by assumption) | refine Keep.push ?_ | refine Keep.more ?_ | refine Keep.set ?_ (by first | omega | (simp only [hn_push, hn_set, hn_more] <;> omega) | fail)))) (by simp; omega)⟩)
end Go.AM
end

section
set_option linter.unusedVariables false
set_option linter.unusedSimpArgs false
/- What the functions of package rat give: Make, Mul, Round. -/
set_option linter.unusedSimpArgs false
set_option linter.unusedVariables false
namespace Go.AM
attribute [local congr] bnd_weak ite_weak

theorem lowN_le {n : Int} {d : Nat} : (lowN n d).natAbs ≤ n.natAbs := by
  unfold lowN; split
  · simp
  · rw [sgn_abs]; exact Nat.div_le_self _ _
theorem lowD_le {n : Int} {d : Nat} : lowD n d ≤ max d 1 := by
  unfold lowD; split
  · omega
  · have := Nat.div_le_self d (Nat.gcd n.natAbs d); omega
theorem low_sz {H : Heap} {v : V} {n : Int} {d N : Nat} (h : rawR H v n d N) : (dig 4294967296 (lowN n d).natAbs).length ≤ N + 1 ∧ (dig 4294967296 (lowD n d)).length ≤ N + 1 := by
  obtain ⟨b, s, t, l, lt, rfl, r1, r2, hL, hL', hl, hl', rfl, rfl⟩ := h
  have k1 := dig_len_le (b := 4294967296) (by decide) (val_lt hL)
  have k2 := dig_len_le (b := 4294967296) (by decide) (val_lt hL')
  constructor
  · have := sz_mono (lowN_le (n := sgn b (val 4294967296 l)) (d := val 4294967296 lt))
    rw [sgn_abs] at this; omega
  · have h1 := lowD_le (n := sgn b (val 4294967296 l)) (d := val 4294967296 lt)
    have h2 := sz_mono h1
    have h3 : (dig 4294967296 (max (val 4294967296 lt) 1)).length ≤ lt.length + 1 := by
      apply dig_len_le (by decide)
      have := val_lt hL'
      rw [Nat.pow_succ]
      have h4 : 0 < 4294967296 ^ lt.length := Nat.pow_pos (by decide)
      omega
    omega

set_option maxHeartbeats 2000000 in
theorem rat_Mul_spec {H : Heap} {v w : V} {n m : Int} {d e N : Nat} (h : rawR H v n d N) (h' : rawR H w m e N) (hm : N < 100000000) :
    Tot (fun n => f_rat_Mul n [v, w] H) fun v H' => Ext0 H H' ∧ isR H' H.n v (lowN (lowN n d * lowN m e) (lowD n d * lowD m e)) (lowD (lowN n d * lowN m e) (lowD n d * lowD m e)) := by
  have z1 := low_sz h
  have z2 := low_sz h'
  have ha := h
  have hb := h'
  obtain ⟨b, s, t, l, lt, rfl, -⟩ := h
  obtain ⟨b', s', t', l', lt', rfl, -⟩ := h'
  refine Tot.of fun Q hQ => ?_
  refine rat_Mul_tot ?_
  simp only [rat_Mul_b]
  repeat (first | refine Tot.pure (by simp (disch := first | omega | (simp only [hn_push, hn_set, hn_more] <;> omega) | fail) [ld1_get, ldN_get, stA_get, boxA, gz, gs, Heap.get_push_ne, Heap.get_push_eq, Heap.get_set_ne, Heap.get_set_eq, get_more, hn_push, hn_set, hn_more, ]; try exact rfl) ?_ | refine Tot.chk (by simp (disch := first | omega | (simp only [hn_push, hn_set, hn_more] <;> omega) | fail) [ld1_get, ldN_get, stA_get, boxA, gz, gs, Heap.get_push_ne, Heap.get_push_eq, Heap.get_set_ne, Heap.get_set_eq, get_more, hn_push, hn_set, hn_more, ]; done) ?_ | fail)
  refine Tot.bind (rat_norm_spec (ha.ext (Keep.ext (by (repeat (first | exact Keep.refl | refine Keep.call ?_ (by assumption) | refine Keep.push ?_ | refine Keep.more ?_ | refine Keep.set ?_ (by first | omega | (simp only [hn_push, hn_set, hn_more] <;> omega) | fail)))))) (by omega)) ?_
  rintro v H1 ⟨c1, i1⟩
  have n1 := c1.n; try simp only [hn_push, hn_set, hn_more] at n1
  obtain ⟨b1, s1, t1, rfl, -⟩ := id i1
  dsimp only
  repeat (first | refine Tot.pure (by simp (disch := first | omega | (simp only [hn_push, hn_set, hn_more] <;> omega) | fail) [ld1_get, ldN_get, stA_get, boxA, gz, gs, Heap.get_push_ne, Heap.get_push_eq, Heap.get_set_ne, Heap.get_set_eq, get_more, hn_push, hn_set, hn_more, c1.g]; try exact rfl) ?_ | refine Tot.chk (by simp (disch := first | omega | (simp only [hn_push, hn_set, hn_more] <;> omega) | fail) [ld1_get, ldN_get, stA_get, boxA, gz, gs, Heap.get_push_ne, Heap.get_push_eq, Heap.get_set_ne, Heap.get_set_eq, get_more, hn_push, hn_set, hn_more, c1.g]; done) ?_ | fail)
  refine Tot.bind (rat_norm_spec (hb.ext (Keep.ext (by (repeat (first | exact Keep.refl | refine Keep.call ?_ (by assumption) | refine Keep.push ?_ | refine Keep.more ?_ | refine Keep.set ?_ (by first | omega | (simp only [hn_push, hn_set, hn_more] <;> omega) | fail)))))) (by omega)) ?_
  rintro v H2 ⟨c2, i2⟩
  have n2 := c2.n; try simp only [hn_push, hn_set, hn_more] at n2
  obtain ⟨b2, s2, t2, rfl, -⟩ := id i2
  dsimp only
  repeat (first | refine Tot.pure (by simp (disch := first | omega | (simp only [hn_push, hn_set, hn_more] <;> omega) | fail) [ld1_get, ldN_get, stA_get, boxA, gz, gs, Heap.get_push_ne, Heap.get_push_eq, Heap.get_set_ne, Heap.get_set_eq, get_more, hn_push, hn_set, hn_more, c1.g, c2.g]; try exact rfl) ?_ | refine Tot.chk (by simp (disch := first | omega | (simp only [hn_push, hn_set, hn_more] <;> omega) | fail) [ld1_get, ldN_get, stA_get, boxA, gz, gs, Heap.get_push_ne, Heap.get_push_eq, Heap.get_set_ne, Heap.get_set_eq, get_more, hn_push, hn_set, hn_more, c1.g, c2.g]; done) ?_ | fail)
  generalize lowN n d = x at *
  generalize lowN m e = y at *
  generalize lowD n d = p at *
  generalize lowD m e = q at *
  obtain ⟨_, _, _, e1, j1, r1, f1, -, -⟩ := i1
  simp at e1
  obtain ⟨rfl, rfl, rfl⟩ := e1
  obtain ⟨_, _, _, e2, j2, r2, f2, -, -⟩ := i2
  simp at e2
  obtain ⟨rfl, rfl, rfl⟩ := e2
  refine Tot.bind (whole_Mul_spec (j1.keep (by (repeat (first | exact Keep.refl | refine Keep.call ?_ (by assumption) | refine Keep.push ?_ | refine Keep.more ?_ | refine Keep.set ?_ (by first | omega | (simp only [hn_push, hn_set, hn_more] <;> omega) | fail))))) (j2.keep (by (repeat (first | exact Keep.refl | refine Keep.call ?_ (by assumption) | refine Keep.push ?_ | refine Keep.more ?_ | refine Keep.set ?_ (by first | omega | (simp only [hn_push, hn_set, hn_more] <;> omega) | fail))))) (by omega)) ?_
  rintro v H3 ⟨c3, i3⟩
  have n3 := c3.n; try simp only [hn_push, hn_set, hn_more] at n3
  obtain ⟨b3, s3, rfl, hb3, r3, f3⟩ := i3.shape
  dsimp only
  repeat (first | refine Tot.pure (by simp (disch := first | omega | (simp only [hn_push, hn_set, hn_more] <;> omega) | fail) [ld1_get, ldN_get, stA_get, boxA, gz, gs, Heap.get_push_ne, Heap.get_push_eq, Heap.get_set_ne, Heap.get_set_eq, get_more, hn_push, hn_set, hn_more, c1.g, c2.g, c3.g]; try exact rfl) ?_ | refine Tot.chk (by simp (disch := first | omega | (simp only [hn_push, hn_set, hn_more] <;> omega) | fail) [ld1_get, ldN_get, stA_get, boxA, gz, gs, Heap.get_push_ne, Heap.get_push_eq, Heap.get_set_ne, Heap.get_set_eq, get_more, hn_push, hn_set, hn_more, c1.g, c2.g, c3.g]; done) ?_ | fail)
  refine Tot.bind (nat_Mul_spec (r1.keep f1 (by (repeat (first | exact Keep.refl | refine Keep.call ?_ (by assumption) | refine Keep.push ?_ | refine Keep.more ?_ | refine Keep.set ?_ (by first | omega | (simp only [hn_push, hn_set, hn_more] <;> omega) | fail))))) (r2.keep f2 (by (repeat (first | exact Keep.refl | refine Keep.call ?_ (by assumption) | refine Keep.push ?_ | refine Keep.more ?_ | refine Keep.set ?_ (by first | omega | (simp only [hn_push, hn_set, hn_more] <;> omega) | fail))))) (by omega) (digL _) (digL _)) ?_
  rintro v H4 ⟨c4, s4, rfl, r4, f4⟩
  have n4 := c4.n; try simp only [hn_push, hn_set, hn_more] at n4
  rw [digV, digV] at r4
  dsimp only
  have k3 := sz_mul (x := x.natAbs) (y := y.natAbs)
  have k4 := sz_mul (x := p) (y := q)
  rw [← Int.natAbs_mul] at k3
  refine Tot.bind (rat_lowest_spec (r3.keep f3 (by (repeat (first | exact Keep.refl | refine Keep.call ?_ (by assumption) | refine Keep.push ?_ | refine Keep.more ?_ | refine Keep.set ?_ (by first | omega | (simp only [hn_push, hn_set, hn_more] <;> omega) | fail))))) r4 (by omega) (by omega) (digL _) (digL _)) ?_
  rintro v H5 ⟨c5, i5⟩
  have n5 := c5.n; try simp only [hn_push, hn_set, hn_more] at n5
  obtain ⟨b5, s5, t5, rfl, -⟩ := id i5
  rw [digV, digV, hb3, sgn_of] at i5
  dsimp only
  repeat (first | refine Tot.pure (by simp (disch := first | omega | (simp only [hn_push, hn_set, hn_more] <;> omega) | fail) [ld1_get, ldN_get, stA_get, boxA, gz, gs, Heap.get_push_ne, Heap.get_push_eq, Heap.get_set_ne, Heap.get_set_eq, get_more, hn_push, hn_set, hn_more, c1.g, c2.g, c3.g, c4.g, c5.g]; try exact rfl) ?_ | refine Tot.chk (by simp (disch := first | omega | (simp only [hn_push, hn_set, hn_more] <;> omega) | fail) [ld1_get, ldN_get, stA_get, boxA, gz, gs, Heap.get_push_ne, Heap.get_push_eq, Heap.get_set_ne, Heap.get_set_eq, get_more, hn_push, hn_set, hn_more, c1.g, c2.g, c3.g, c4.g, c5.g]; done) ?_ | fail)
  exact Tot.ret (hQ _ _ ⟨Keep.ext (by (repeat (first | exact Keep.refl | refine Keep.call ?_ (by assumption) | refine Keep.push ?_ | refine Keep.more ?_ | refine Keep.set ?_ (by first | omega | (simp only [hn_push, hn_set, hn_more] <;> omega) | fail)))), i5.out (by (repeat (first | exact Keep.refl | refine Keep.call ?_ (by assumption) | refine Keep.push ?_ | refine Keep.more ?_ | refine Keep.set ?_ (by first | omega | (simp only [hn_push, hn_set, hn_more] <;> omega) | fail)))) (by omega)⟩)

theorem rat_Make_spec {H : Heap} {lo lo' : Nat} {v w : V} {n : Int} {e : Nat} (h : isI H lo v n) (h' : isI H lo' w (e : Int)) (he : 0 < e) (hm : (dig 4294967296 n.natAbs).length < 100000000) (hm' : (dig 4294967296 e).length < 100000000) :
    Tot (fun n => f_rat_Make n [v, w] H) fun v H' => Ext0 H H' ∧ ∃ v1, v = .tuple [v1, .int .i64 0] ∧ isR H' H.n v1 (lowN n e) (lowD n e) := by
  obtain ⟨b, s, rfl, hb, r, f⟩ := h.shape
  obtain ⟨b', s', rfl, hb', r', f'⟩ := h'.shape
  have hbf : b' = false := by rw [hb']; simp
  subst hbf
  simp only [Int.natAbs_natCast] at r'
  refine Tot.of fun Q hQ => ?_
  refine rat_Make_tot ?_
  simp only [rat_Make_b]
  repeat (first | refine Tot.pure (by simp (disch := first | omega | (simp only [hn_push, hn_set, hn_more] <;> omega) | fail) [ld1_get, ldN_get, stA_get, boxA, gz, gs, Heap.get_push_ne, Heap.get_push_eq, Heap.get_set_ne, Heap.get_set_eq, get_more, hn_push, hn_set, hn_more, ]; try exact rfl) ?_ | refine Tot.chk (by simp (disch := first | omega | (simp only [hn_push, hn_set, hn_more] <;> omega) | fail) [ld1_get, ldN_get, stA_get, boxA, gz, gs, Heap.get_push_ne, Heap.get_push_eq, Heap.get_set_ne, Heap.get_set_eq, get_more, hn_push, hn_set, hn_more, ]; done) ?_ | fail)
  refine Tot.bind (whole_Sign_spec ((h'.mono (Nat.zero_le _)).keep (by (repeat (first | exact Keep.refl | refine Keep.call ?_ (by assumption) | refine Keep.push ?_ | refine Keep.more ?_ | refine Keep.set ?_ (by first | omega | (simp only [hn_push, hn_set, hn_more] <;> omega) | fail))))) (by rw [Int.natAbs_natCast]; omega)) ?_
  rintro v H1 ⟨c1, rfl⟩
  have n1 := c1.n; try simp only [hn_push, hn_set, hn_more] at n1
  rw [Int.sign_eq_one_of_pos (show (0 : Int) < e by omega)]
  dsimp only
  repeat (first | refine Tot.pure (by simp (disch := first | omega | (simp only [hn_push, hn_set, hn_more] <;> omega) | fail) [ld1_get, ldN_get, stA_get, boxA, gz, gs, Heap.get_push_ne, Heap.get_push_eq, Heap.get_set_ne, Heap.get_set_eq, get_more, hn_push, hn_set, hn_more, c1.g]; try exact rfl) ?_ | refine Tot.chk (by simp (disch := first | omega | (simp only [hn_push, hn_set, hn_more] <;> omega) | fail) [ld1_get, ldN_get, stA_get, boxA, gz, gs, Heap.get_push_ne, Heap.get_push_eq, Heap.get_set_ne, Heap.get_set_eq, get_more, hn_push, hn_set, hn_more, c1.g]; done) ?_ | fail)
  refine Tot.bind (rat_lowest_spec (r.keep Fr.zero (by (repeat (first | exact Keep.refl | refine Keep.call ?_ (by assumption) | refine Keep.push ?_ | refine Keep.more ?_ | refine Keep.set ?_ (by first | omega | (simp only [hn_push, hn_set, hn_more] <;> omega) | fail))))) (r'.keep Fr.zero (by (repeat (first | exact Keep.refl | refine Keep.call ?_ (by assumption) | refine Keep.push ?_ | refine Keep.more ?_ | refine Keep.set ?_ (by first | omega | (simp only [hn_push, hn_set, hn_more] <;> omega) | fail))))) (by omega) (by omega) (digL _) (digL _)) ?_
  rintro v H2 ⟨c2, i2⟩
  have n2 := c2.n; try simp only [hn_push, hn_set, hn_more] at n2
  obtain ⟨b2, s2, t2, rfl, -⟩ := id i2
  rw [digV, digV, hb, sgn_of] at i2
  dsimp only
  repeat (first | refine Tot.pure (by simp (disch := first | omega | (simp only [hn_push, hn_set, hn_more] <;> omega) | fail) [ld1_get, ldN_get, stA_get, boxA, gz, gs, Heap.get_push_ne, Heap.get_push_eq, Heap.get_set_ne, Heap.get_set_eq, get_more, hn_push, hn_set, hn_more, c1.g, c2.g]; try exact rfl) ?_ | refine Tot.chk (by simp (disch := first | omega | (simp only [hn_push, hn_set, hn_more] <;> omega) | fail) [ld1_get, ldN_get, stA_get, boxA, gz, gs, Heap.get_push_ne, Heap.get_push_eq, Heap.get_set_ne, Heap.get_set_eq, get_more, hn_push, hn_set, hn_more, c1.g, c2.g]; done) ?_ | fail)
  exact Tot.ret (hQ _ _ ⟨Keep.ext (by (repeat (first | exact Keep.refl | refine Keep.call ?_ (by assumption) | refine Keep.push ?_ | refine Keep.more ?_ | refine Keep.set ?_ (by first | omega | (simp only [hn_push, hn_set, hn_more] <;> omega) | fail)))), _, rfl, i2.out (by (repeat (first | exact Keep.refl | refine Keep.call ?_ (by assumption) | refine Keep.push ?_ | refine Keep.more ?_ | refine Keep.set ?_ (by first | omega | (simp only [hn_push, hn_set, hn_more] <;> omega) | fail)))) (by omega)⟩)

set_option maxHeartbeats 2000000 in
theorem rat_Round_spec {H : Heap} {v : V} {n : Int} {d N : Nat} (h : rawR H v n d N) (hm : N < 100000000) :
    Tot (fun n => f_rat_Round n [v] H) fun v H' => Ext0 H H' ∧ isI H' H.n v ((lowN n d + lowN n d + (lowD n d : Int)) / ((lowD n d + lowD n d : Nat) : Int)) := by
  have z1 := low_sz h
  have ha := h
  have hp := lowD_pos (n := n) (d := d)
  obtain ⟨b, s, t, l, lt, rfl, -⟩ := h
  refine Tot.of fun Q hQ => ?_
  refine rat_Round_tot ?_
  simp only [rat_Round_b]
  repeat (first | refine Tot.pure (by simp (disch := first | omega | (simp only [hn_push, hn_set, hn_more] <;> omega) | fail) [ld1_get, ldN_get, stA_get, boxA, gz, gs, Heap.get_push_ne, Heap.get_push_eq, Heap.get_set_ne, Heap.get_set_eq, get_more, hn_push, hn_set, hn_more, ]; try exact rfl) ?_ | refine Tot.chk (by simp (disch := first | omega | (simp only [hn_push, hn_set, hn_more] <;> omega) | fail) [ld1_get, ldN_get, stA_get, boxA, gz, gs, Heap.get_push_ne, Heap.get_push_eq, Heap.get_set_ne, Heap.get_set_eq, get_more, hn_push, hn_set, hn_more, ]; done) ?_ | fail)
  refine Tot.bind (rat_norm_spec (ha.ext (Keep.ext (by (repeat (first | exact Keep.refl | refine Keep.call ?_ (by assumption) | refine Keep.push ?_ | refine Keep.more ?_ | refine Keep.set ?_ (by first | omega | (simp only [hn_push, hn_set, hn_more] <;> omega) | fail)))))) (by omega)) ?_
  rintro v H1 ⟨c1, i1⟩
  have n1 := c1.n; try simp only [hn_push, hn_set, hn_more] at n1
  obtain ⟨b1, s1, t1, rfl, -⟩ := id i1
  dsimp only
  repeat (first | refine Tot.pure (by simp (disch := first | omega | (simp only [hn_push, hn_set, hn_more] <;> omega) | fail) [ld1_get, ldN_get, stA_get, boxA, gz, gs, Heap.get_push_ne, Heap.get_push_eq, Heap.get_set_ne, Heap.get_set_eq, get_more, hn_push, hn_set, hn_more, c1.g]; try exact rfl) ?_ | refine Tot.chk (by simp (disch := first | omega | (simp only [hn_push, hn_set, hn_more] <;> omega) | fail) [ld1_get, ldN_get, stA_get, boxA, gz, gs, Heap.get_push_ne, Heap.get_push_eq, Heap.get_set_ne, Heap.get_set_eq, get_more, hn_push, hn_set, hn_more, c1.g]; done) ?_ | fail)
  generalize lowN n d = x at *
  generalize lowD n d = p at *
  obtain ⟨_, _, _, e1, j1, r1, f1, -, -⟩ := i1
  simp at e1
  obtain ⟨rfl, rfl, rfl⟩ := e1
  have kA : ∀ {a c : Int}, (dig 4294967296 a.natAbs).length ≤ 900000000 → (dig 4294967296 c.natAbs).length ≤ 900000000 → (dig 4294967296 (a + c).natAbs).length ≤ (dig 4294967296 a.natAbs).length + (dig 4294967296 c.natAbs).length + 1 := by
    intro a c _ _
    have h1 := dig_len_lt (b := 4294967296) (x := a.natAbs) (by decide)
    have h2 := dig_len_lt (b := 4294967296) (x := c.natAbs) (by decide)
    apply dig_len_le (by decide)
    have h3 : 4294967296 ^ (dig 4294967296 a.natAbs).length ≤ 4294967296 ^ ((dig 4294967296 a.natAbs).length + (dig 4294967296 c.natAbs).length) := Nat.pow_le_pow_right (by decide) (by omega)
    have h4 : 4294967296 ^ (dig 4294967296 c.natAbs).length ≤ 4294967296 ^ ((dig 4294967296 a.natAbs).length + (dig 4294967296 c.natAbs).length) := Nat.pow_le_pow_right (by decide) (by omega)
    rw [Nat.pow_succ]; omega
  have kp : (dig 4294967296 ((p : Int)).natAbs).length ≤ N + 1 := by rw [Int.natAbs_natCast]; exact z1.2
  have kxx := kA (a := x) (c := x) (by omega) (by omega)
  have kxp := kA (a := x + x) (c := p) (by omega) (by omega)
  have kpp := kA (a := p) (c := p) (by omega) (by omega)
  rw [← Int.natCast_add, Int.natAbs_natCast] at kpp
  refine Tot.bind (whole_Add_spec (j1.keep (by (repeat (first | exact Keep.refl | refine Keep.call ?_ (by assumption) | refine Keep.push ?_ | refine Keep.more ?_ | refine Keep.set ?_ (by first | omega | (simp only [hn_push, hn_set, hn_more] <;> omega) | fail))))) (j1.keep (by (repeat (first | exact Keep.refl | refine Keep.call ?_ (by assumption) | refine Keep.push ?_ | refine Keep.more ?_ | refine Keep.set ?_ (by first | omega | (simp only [hn_push, hn_set, hn_more] <;> omega) | fail))))) (by omega) (by omega)) ?_
  rintro v H2 ⟨c2, i2⟩
  have n2 := c2.n; try simp only [hn_push, hn_set, hn_more] at n2
  obtain ⟨b2, s2, rfl, -⟩ := i2.shape
  dsimp only
  repeat (first | refine Tot.pure (by simp (disch := first | omega | (simp only [hn_push, hn_set, hn_more] <;> omega) | fail) [ld1_get, ldN_get, stA_get, boxA, gz, gs, Heap.get_push_ne, Heap.get_push_eq, Heap.get_set_ne, Heap.get_set_eq, get_more, hn_push, hn_set, hn_more, c1.g, c2.g]; try exact rfl) ?_ | refine Tot.chk (by simp (disch := first | omega | (simp only [hn_push, hn_set, hn_more] <;> omega) | fail) [ld1_get, ldN_get, stA_get, boxA, gz, gs, Heap.get_push_ne, Heap.get_push_eq, Heap.get_set_ne, Heap.get_set_eq, get_more, hn_push, hn_set, hn_more, c1.g, c2.g]; done) ?_ | fail)
  refine Tot.bind (rat_plain_spec (r1.keep f1 (by (repeat (first | exact Keep.refl | refine Keep.call ?_ (by assumption) | refine Keep.push ?_ | refine Keep.more ?_ | refine Keep.set ?_ (by first | omega | (simp only [hn_push, hn_set, hn_more] <;> omega) | fail))))) f1) ?_
  rintro v H3 ⟨c3, i3⟩
  have n3 := c3.n; try simp only [hn_push, hn_set, hn_more] at n3
  obtain ⟨b3, s3, rfl, -⟩ := i3.shape
  dsimp only
  refine Tot.bind (whole_Add_spec (i2.keep (by (repeat (first | exact Keep.refl | refine Keep.call ?_ (by assumption) | refine Keep.push ?_ | refine Keep.more ?_ | refine Keep.set ?_ (by first | omega | (simp only [hn_push, hn_set, hn_more] <;> omega) | fail))))) (i3.keep (by (repeat (first | exact Keep.refl | refine Keep.call ?_ (by assumption) | refine Keep.push ?_ | refine Keep.more ?_ | refine Keep.set ?_ (by first | omega | (simp only [hn_push, hn_set, hn_more] <;> omega) | fail))))) (by omega) (by omega)) ?_
  rintro v H4 ⟨c4, i4⟩
  have n4 := c4.n; try simp only [hn_push, hn_set, hn_more] at n4
  obtain ⟨b4, s4, rfl, -⟩ := i4.shape
  dsimp only
  repeat (first | refine Tot.pure (by simp (disch := first | omega | (simp only [hn_push, hn_set, hn_more] <;> omega) | fail) [ld1_get, ldN_get, stA_get, boxA, gz, gs, Heap.get_push_ne, Heap.get_push_eq, Heap.get_set_ne, Heap.get_set_eq, get_more, hn_push, hn_set, hn_more, c1.g, c2.g, c3.g, c4.g]; try exact rfl) ?_ | refine Tot.chk (by simp (disch := first | omega | (simp only [hn_push, hn_set, hn_more] <;> omega) | fail) [ld1_get, ldN_get, stA_get, boxA, gz, gs, Heap.get_push_ne, Heap.get_push_eq, Heap.get_set_ne, Heap.get_set_eq, get_more, hn_push, hn_set, hn_more, c1.g, c2.g, c3.g, c4.g]; done) ?_ | fail)
  refine Tot.bind (nat_Add_spec (r1.keep f1 (by (repeat (first | exact Keep.refl | refine Keep.call ?_ (by assumption) | refine Keep.push ?_ | refine Keep.more ?_ | refine Keep.set ?_ (by first | omega | (simp only [hn_push, hn_set, hn_more] <;> omega) | fail))))) (r1.keep f1 (by (repeat (first | exact Keep.refl | refine Keep.call ?_ (by assumption) | refine Keep.push ?_ | refine Keep.more ?_ | refine Keep.set ?_ (by first | omega | (simp only [hn_push, hn_set, hn_more] <;> omega) | fail))))) (by omega) (by omega) (digL _) (digL _)) ?_
  rintro v H5 ⟨c5, s5, rfl, r5, f5⟩
  have n5 := c5.n; try simp only [hn_push, hn_set, hn_more] at n5
  rw [digV] at r5
  dsimp only
  refine Tot.bind (rat_plain_spec r5 f5) ?_
  rintro v H6 ⟨c6, i6⟩
  have n6 := c6.n; try simp only [hn_push, hn_set, hn_more] at n6
  obtain ⟨b6, s6, rfl, -⟩ := i6.shape
  dsimp only
  repeat (first | refine Tot.pure (by simp (disch := first | omega | (simp only [hn_push, hn_set, hn_more] <;> omega) | fail) [ld1_get, ldN_get, stA_get, boxA, gz, gs, Heap.get_push_ne, Heap.get_push_eq, Heap.get_set_ne, Heap.get_set_eq, get_more, hn_push, hn_set, hn_more, c1.g, c2.g, c3.g, c4.g, c5.g, c6.g]; try exact rfl) ?_ | refine Tot.chk (by simp (disch := first | omega | (simp only [hn_push, hn_set, hn_more] <;> omega) | fail) [ld1_get, ldN_get, stA_get, boxA, gz, gs, Heap.get_push_ne, Heap.get_push_eq, Heap.get_set_ne, Heap.get_set_eq, get_more, hn_push, hn_set, hn_more, c1.g, c2.g, c3.g, c4.g, c5.g, c6.g]; done) ?_ | fail)
  refine Tot.bind (whole_Floor_spec (i4.keep (by (repeat (first | exact Keep.refl | refine Keep.call ?_ (by assumption) | refine Keep.push ?_ | refine Keep.more ?_ | refine Keep.set ?_ (by first | omega | (simp only [hn_push, hn_set, hn_more] <;> omega) | fail))))) (i6.keep (by (repeat (first | exact Keep.refl | refine Keep.call ?_ (by assumption) | refine Keep.push ?_ | refine Keep.more ?_ | refine Keep.set ?_ (by first | omega | (simp only [hn_push, hn_set, hn_more] <;> omega) | fail))))) (by omega) (by omega) (by omega)) ?_
  rintro v H7 ⟨c7, v1, v2, rfl, i7, i8⟩
  have n7 := c7.n; try simp only [hn_push, hn_set, hn_more] at n7
  obtain ⟨b7, s7, rfl, -⟩ := i7.shape
  obtain ⟨b8, s8, rfl, -⟩ := i8.shape
  dsimp only
  repeat (first | refine Tot.pure (by simp (disch := first | omega | (simp only [hn_push, hn_set, hn_more] <;> omega) | fail) [ld1_get, ldN_get, stA_get, boxA, gz, gs, Heap.get_push_ne, Heap.get_push_eq, Heap.get_set_ne, Heap.get_set_eq, get_more, hn_push, hn_set, hn_more, c1.g, c2.g, c3.g, c4.g, c5.g, c6.g, c7.g]; try exact rfl) ?_ | refine Tot.chk (by simp (disch := first | omega | (simp only [hn_push, hn_set, hn_more] <;> omega) | fail) [ld1_get, ldN_get, stA_get, boxA, gz, gs, Heap.get_push_ne, Heap.get_push_eq, Heap.get_set_ne, Heap.get_set_eq, get_more, hn_push, hn_set, hn_more, c1.g, c2.g, c3.g, c4.g, c5.g, c6.g, c7.g]; done) ?_ | fail)
  exact Tot.ret (hQ _ _ ⟨Keep.ext (by (repeat (first | exact Keep.refl | refine Keep.call ?_ (by assumption) | refine Keep.push ?_ | refine Keep.more ?_ | refine Keep.set ?_ (by first | omega | (simp only [hn_push, hn_set, hn_more] <;> omega) | fail)))), i7.out (by (repeat (first | exact Keep.refl | refine Keep.call ?_ (by assumption) | refine Keep.push ?_ | refine Keep.more ?_ | refine Keep.set ?_ (by first | omega | (simp only [hn_push, hn_set, hn_more] <;> omega) | fail)))) (by omega)⟩)
end Go.AM
end
