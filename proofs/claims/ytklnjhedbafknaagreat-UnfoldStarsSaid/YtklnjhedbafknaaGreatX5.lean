/- Merged by program from: UsK UsL UvLC AmStr UvLR0 UvLR1 UvLR2 UvLR3. -/
import Derived.Test.YtklnjhedbafknaaGreatX4
section
set_option linter.unusedVariables false
set_option linter.unusedSimpArgs false
set_option linter.unusedSimpArgs false
set_option linter.unusedVariables false
set_option maxRecDepth 100000
namespace Go.AM
namespace N
open U
variable {H : Heap}
theorem row_rd {L : List U.Tr} {k : Nat} (hk : k < L.length) : ∃ c : List V, idxS 9 (rowT L) (iv (k : Int)) = some (.lptr c) ∧ faA 0 (.lptr c) = some (.lptr c) ∧ faA 3 (.lptr c) = some (.lptr (c.drop 3)) ∧
    idxP 3 1 (.lptr c) (iv 1) = some (.lptr (c.drop 1)) ∧ idxP 3 1 (.lptr c) (iv 2) = some (.lptr (c.drop 2)) ∧ idxP 3 2 (.lptr (c.drop 3)) (iv 1) = some (.lptr (c.drop 5)) ∧ idxP 3 2 (.lptr (c.drop 3)) (iv 2) = some (.lptr (c.drop 7)) ∧
    ∀ H : Heap, ldN 9 (.lptr c) H = some (.agg L[k].cells) ∧ ld1 (.lptr (c.drop 1)) H = some (iv L[k].v1) ∧ ld1 (.lptr (c.drop 2)) H = some (iv L[k].v2) ∧ ldN 2 (.lptr (c.drop 5)) H = some (.agg [iv L[k].x1, iv L[k].y1]) ∧ ldN 2 (.lptr (c.drop 7)) H = some (.agg [iv L[k].x2, iv L[k].y2]) := by
  obtain ⟨q1, q2⟩ := flat_at (f := Tr.cells) (z := 9) c9 hk
  refine ⟨(L.flatMap Tr.cells).drop (k * 9), rowG_idx hk, ?_⟩
  generalize (L.flatMap Tr.cells).drop (k * 9) = c at *
  have l3 : (c.drop 3).length = c.length - 3 := List.length_drop
  have g : ∀ j, j < 9 → c[j]? = L[k].cells[j]? := fun j hj => by rw [← q1, List.getElem?_take, if_pos hj]
  have t : ∀ a b, a + b ≤ 9 → (c.drop a).take b = (L[k].cells.drop a).take b := fun a b hab => by
    rw [← q1, List.drop_take, List.take_take, Nat.min_eq_left (by omega)]
  have l5 : ∀ a, (c.drop a).length = c.length - a := fun a => List.length_drop
  refine ⟨?_, ?_, ?_, ?_, ?_, ?_, fun H => ⟨?_, ?_, ?_, ?_, ?_⟩⟩
  · simp only [faA]; rw [if_pos (by omega), List.drop_zero]
  · simp only [faA]; rw [if_pos (by omega)]
  · simp only [idxP]; rw [if_pos ⟨by omega, by omega, by show 1 * 1 < _; omega⟩]; rfl
  · simp only [idxP]; rw [if_pos ⟨by omega, by omega, by show 2 * 1 < _; omega⟩]; rfl
  · simp only [idxP]; rw [if_pos ⟨by omega, by omega, by show 1 * 2 < _; omega⟩, List.drop_drop]; rfl
  · simp only [idxP]; rw [if_pos ⟨by omega, by omega, by show 2 * 2 < _; omega⟩, List.drop_drop]; rfl
  · simp only [ldN]; rw [if_pos (by omega), q1]
  · simp only [ld1]
    have := g 1 (by omega)
    rw [show (c.drop 1)[0]? = c[1]? by rw [List.getElem?_drop], this]; rfl
  · simp only [ld1]
    have := g 2 (by omega)
    rw [show (c.drop 2)[0]? = c[2]? by rw [List.getElem?_drop], this]; rfl
  · simp only [ldN]; rw [if_pos (by rw [l5]; omega), t 5 2 (by omega)]; rfl
  · simp only [ldN]; rw [if_pos (by rw [l5]; omega), t 7 2 (by omega)]; rfl
theorem rs_l0 {all : List U.Tr} {v7 : V} (hb : all.length < 100000) {Q : V → Heap → Prop} (ih : ∀ H : Heap, ∀ at_, at_ = minI all 0 1 (all.drop 1) → True) : ∀ (j k at_ : Nat) (H : Heap) (m : Nat → Nat), k + j = all.length → at_ < k → Big m →
    Tot (fun n => ref18_Star.p1 n (rowT all) v7 (iv ((minI all at_ k (all.drop k) : Nat) : Int)) H) Q →
    Tot (fun n => ref18_Star.l0 n (m n) (rowT all) v7 (iv (at_ : Int)) (iv (k : Int)) H) Q := by
  intro j
  induction j with
  | zero =>
    intro k at_ H m hk ha hm q
    refine ref18_Star.l0_tot hm fun m hm => ?_
    simp only [ref18_Star.l0_b]
    refine Tot.pure rowG_len ?_
    refine Tot.pure lssN ?_
    rw [decide_eq_false (by omega)]
    refine Tot.pure bF ?_
    simp only [Bool.false_eq_true, if_false]
    rw [List.drop_of_length_le (by omega)] at q
    exact q
  | succ j hj =>
    intro k at_ H m hk ha hm q
    have hl : k < all.length := by omega
    have hl2 : at_ < all.length := by omega
    refine ref18_Star.l0_tot hm fun m hm => ?_
    simp only [ref18_Star.l0_b]
    simp only [show ∀ H : Heap, H.more 0 = H from fun _ => rfl]
    refine Tot.pure rowG_len ?_
    refine Tot.pure lssN ?_
    rw [decide_eq_true (by omega)]
    refine Tot.pure bT ?_
    simp only [if_true]
    refine Tot.pure (rowG_idx hl) ?_
    refine Tot.pure (rowG_ld c9 hl) ?_
    refine Tot.pure (rowG_idx hl2) ?_
    refine Tot.pure (rowG_ld c9 hl2) ?_
    refine Gv.bind rcmp_P ?_
    dsimp only
    refine Tot.pure (show arA .lss (iv (cmpT all[k] all[at_])) (iv 0) = some (.bool (decide (cmpT all[k] all[at_] < 0))) from rfl) ?_
    rw [List.drop_eq_getElem_cons hl] at q
    simp only [minI, List.getElem?_eq_getElem hl2, Option.getD_some] at q
    by_cases h : cmpT all[k] all[at_] < 0
    · rw [decide_eq_true h]
      rw [if_pos h] at q
      refine Tot.pure bT ?_
      simp only [if_true]
      refine Tot.pure (incN (by omega)) ?_
      exact hj (k + 1) k H m (by omega) (by omega) hm q
    · rw [decide_eq_false h]
      rw [if_neg h] at q
      refine Tot.pure bF ?_
      simp only [Bool.false_eq_true, if_false]
      refine Tot.pure (incN (by omega)) ?_
      exact hj (k + 1) at_ H m (by omega) (by omega) hm q
def nI (o : Option Nat) : Int := match o with
  | some j => (j : Int)
  | none => -1
theorem rs_l3 {all : List U.Tr} {v7 v10 v11 : V} {at_ : Nat} (hat : at_ < all.length) (hb : all.length < 100000) {m0 : Nat → Nat} {Q : V → Heap → Prop} : ∀ (j k : Nat) (H : Heap) (m : Nat → Nat), k + j = all.length → Big m →
    Tot (fun n => ref18_Star.p4 n (m0 n) (rowT all) v7 v10 v11 (iv (nI (((all.drop k).findIdx? fun s => decide (s.v1 = all[at_].v2) && (decide (s.x1 = all[at_].x2) && decide (s.y1 = all[at_].y2))).map fun q => q + k))) H) Q →
    Tot (fun n => ref18_Star.l3 n (m0 n) (m n) (rowT all) v7 (iv (at_ : Int)) v10 v11 (iv (-1)) (iv (k : Int)) H) Q := by
  intro j
  induction j with
  | zero =>
    intro k H m hk hm q
    refine ref18_Star.l3_tot hm fun m hm => ?_
    simp only [ref18_Star.l3_b]
    refine Tot.pure rowG_len ?_
    refine Tot.pure lssN ?_
    rw [decide_eq_false (by omega)]
    refine Tot.pure bF ?_
    simp only [Bool.false_eq_true, if_false]
    rw [List.drop_of_length_le (by omega)] at q
    exact q
  | succ j hj =>
    intro k H m hk hm q
    have hl : k < all.length := by omega
    refine ref18_Star.l3_tot hm fun m hm => ?_
    simp only [ref18_Star.l3_b]
    simp only [show ∀ H : Heap, H.more 0 = H from fun _ => rfl]
    refine Tot.pure rowG_len ?_
    refine Tot.pure lssN ?_
    rw [decide_eq_true (by omega)]
    refine Tot.pure bT ?_
    simp only [if_true]
    refine Tot.pure (show arA .lss (iv (-1)) (iv 0) = some (.bool true) from rfl) ?_
    refine Tot.pure bT ?_
    simp only [if_true]
    obtain ⟨c, r1, r2, r3, r4, r5, r6, r7, r8⟩ := row_rd hl
    obtain ⟨d, s1, s2, s3, s4, s5, s6, s7, s8⟩ := row_rd hat
    refine Tot.pure r1 ?_
    refine Tot.pure r2 ?_
    refine Tot.pure r4 ?_
    refine Tot.pure (r8 H).2.1 ?_
    refine Tot.pure s1 ?_
    refine Tot.pure s2 ?_
    refine Tot.pure s5 ?_
    refine Tot.pure (s8 H).2.2.1 ?_
    refine Tot.pure eql_P ?_
    rw [List.drop_eq_getElem_cons hl, List.findIdx?_cons] at q
    have go : ∀ (b : Bool), (decide (all[k].v1 = all[at_].v2) && (decide (all[k].x1 = all[at_].x2) && decide (all[k].y1 = all[at_].y2))) = b → b = false → Tot (fun n => ref18_Star.l3 n (m0 n) (m n) (rowT all) v7 (iv (at_ : Int)) v10 v11 (iv (-1)) (iv ((k + 1 : Nat) : Int)) H) Q := by
      intro b h1 h2
      rw [h1, h2] at q
      refine hj (k + 1) H m (by omega) hm ?_
      have e : ∀ o : Option Nat, (Option.map (fun i => i + 1) o).map (fun q => q + k) = o.map fun q => q + (k + 1) := by
        intro o; cases o with
        | none => rfl
        | some x => simp only [Option.map_some]; congr 1; omega
      simp only [Bool.false_eq_true, if_false] at q
      rw [e] at q
      exact q
    by_cases h : all[k].v1 = all[at_].v2
    case neg =>
      rw [decide_eq_false h]
      refine Tot.pure bF ?_
      simp only [Bool.false_eq_true, if_false]
      refine Tot.pure (incN (by omega)) ?_
      exact go _ rfl (by rw [decide_eq_false h]; rfl)
    rw [decide_eq_true h]
    refine Tot.pure bT ?_
    simp only [if_true]
    refine Tot.pure r1 ?_
    refine Tot.pure r3 ?_
    refine Tot.pure r6 ?_
    refine Tot.pure (r8 H).2.2.2.1 ?_
    refine Tot.pure s1 ?_
    refine Tot.pure s3 ?_
    refine Tot.pure s7 ?_
    refine Tot.pure (s8 H).2.2.2.2 ?_
    refine Tot.pure eq_off ?_
    cases h2 : (decide (all[k].x1 = all[at_].x2) && decide (all[k].y1 = all[at_].y2)) with
    | false =>
      refine Tot.pure bF ?_
      simp only [Bool.false_eq_true, if_false]
      refine Tot.pure (incN (by omega)) ?_
      exact go _ rfl (by rw [h2, Bool.and_false])
    | true =>
      refine Tot.pure bT ?_
      simp only [if_true]
      refine Tot.pure (incN (by omega)) ?_
      rw [h2, decide_eq_true h] at q
      simp only [Bool.and_self, if_true, Option.map_some, Nat.zero_add, nI] at q
      refine ref18_Star.l3_tot hm fun m hm => ?_
      simp only [ref18_Star.l3_b]
      refine Tot.pure rowG_len ?_
      refine Tot.pure lssN ?_
      by_cases h3 : k + 1 < all.length
      · rw [decide_eq_true h3]
        refine Tot.pure bT ?_
        simp only [if_true]
        refine Tot.pure lss_P ?_
        rw [decide_eq_false (by omega)]
        refine Tot.pure bF ?_
        simp only [Bool.false_eq_true, if_false]
        exact q
      · rw [decide_eq_false h3]
        refine Tot.pure bF ?_
        simp only [Bool.false_eq_true, if_false]
        exact q
theorem empty_out {H : Heap} {i : Nat} {Q : V → Heap → Prop} (q : ∀ H', Q (outT none) H') : Tot (fun _ => frzR (.tuple [.slice ⟨some (i, 0), 0, 9, false⟩, .bool false]) H) Q := Tot.frz (show frzR (.tuple [.slice ⟨some (i, 0), 0, 9, false⟩, .bool false]) H = some (outT none, H) from rfl) (q H)
theorem rs_l2 {all : List U.Tr} {f : Nat} (hb : all.length < 100000) : ∀ (r n at_ : Nat) (H : Heap) (v7 : V) (out : List U.Tr) (i : Option Nat) (m : Nat → Nat), n + r = all.length → out.length = n → Big m → gT H v7 out i → (0 < r → at_ < all.length) →
    Tot (fun k => ref18_Star.l2 k (m k) (rowT all) v7 (iv (at_ : Int)) (iv (f : Int)) (iv (n : Int)) H) fun u _ => u = outT (chR all all.length f r n at_ out) := by
  intro r
  induction r with
  | zero =>
    intro n at_ H v7 out i m hn ho hm g hat
    refine ref18_Star.l2_tot hm fun m hm => ?_
    simp only [ref18_Star.l2_b]
    refine Tot.pure rowG_len ?_
    refine Tot.pure lssN ?_
    rw [decide_eq_false (by omega)]
    refine Tot.pure bF ?_
    simp only [Bool.false_eq_true, if_false]
    obtain ⟨H', e⟩ := g.frzT (b := true)
    exact Tot.frz e rfl
  | succ r ih =>
    intro n at_ H v7 out i m hn ho hm g hat
    have hat := hat (by omega)
    refine ref18_Star.l2_tot hm fun m hm => ?_
    simp only [ref18_Star.l2_b]
    refine Tot.pure rowG_len ?_
    refine Tot.pure lssN ?_
    rw [decide_eq_true (by omega)]
    refine Tot.pure bT ?_
    simp only [if_true]
    refine Tot.pure (rowG_idx hat) ?_
    refine Tot.pure (rowG_ld c9 hat) ?_
    refine Tot.pure bsl_one ?_
    obtain ⟨v', H', j, h1, h2, -, -, -⟩ := GT.app (t := all[at_]) g (by omega)
    refine Tot.pure h1 ?_
    dsimp only
    refine rs_l3 hat hb all.length 0 H' _ (by omega) Big.id ?_
    simp only [chR, List.getElem?_eq_getElem hat]
    have e : (((all.drop 0).findIdx? fun s => decide (s.v1 = all[at_].v2) && (decide (s.x1 = all[at_].x2) && decide (s.y1 = all[at_].y2))).map fun q => q + 0) = nxt all all[at_] := by
      rw [List.drop_zero]; unfold nxt; simp
    rw [e]
    refine ref18_Star.p4_tot ?_
    simp only [ref18_Star.p4_b]
    cases hf : nxt all all[at_] with
    | none =>
      simp only [nI]
      refine Tot.pure (show arA .lss (iv (-1)) (iv 0) = some (.bool true) from rfl) ?_
      refine Tot.pure bT ?_
      simp only [if_true]
      refine Tot.pure (show bSl 9 ty_api_Tri z9 0 [] = some (.cells [] ty_api_Tri false) from rfl) ?_
      exact empty_out fun _ => rfl
    | some jn =>
      simp only [nI]
      refine Tot.pure lss_P ?_
      rw [decide_eq_false (by omega)]
      refine Tot.pure bF ?_
      simp only [Bool.false_eq_true, if_false]
      refine Tot.pure eql_P ?_
      refine Tot.pure rowG_len ?_
      refine Tot.pure (show arA .sub (iv (all.length : Int)) (iv 1) = some (iv ((all.length - 1 : Nat) : Int)) by simp (disch := omega) []; omega) ?_
      refine Tot.pure eql_P ?_
      have nb : ∀ a b : Bool, neqA P ty_bool (.bool a) (.bool b) = some (.bool (!(a == b))) := fun a b => by kernel_rfl
      refine Tot.pure (nb _ _) ?_
      have c1 : decide ((jn : Int) = (f : Int)) = decide (jn = f) := decide_eq_decide.2 (by omega)
      have c2 : decide ((n : Int) = ((all.length - 1 : Nat) : Int)) = decide (n + 1 = all.length) := decide_eq_decide.2 (by omega)
      rw [c1, c2]
      by_cases h : decide (jn = f) = decide (n + 1 = all.length)
      · rw [if_pos h, h]
        simp only [BEq.rfl, Bool.not_true]
        refine Tot.pure bF ?_
        simp only [Bool.false_eq_true, if_false]
        refine Tot.pure (incN (by omega)) ?_
        exact ih (n + 1) jn H' v' (out ++ [all[at_]]) (some j) m (by omega) (by simp [ho]) hm h2 fun _ => nxt_lt hf
      · rw [if_neg h]
        have : (decide (jn = f) == decide (n + 1 = all.length)) = false := by simpa using h
        rw [this]
        refine Tot.pure bT ?_
        simp only [if_true]
        refine Tot.pure (show bSl 9 ty_api_Tri z9 0 [] = some (.cells [] ty_api_Tri false) from rfl) ?_
        exact empty_out fun _ => rfl
theorem rstar_P {L : List U.Tr} {id : Int} (hb : L.length < 1000) : Gv (fun n => f_ref18_Star n [rowT L, iv id] H) (outT (starW (allT id L))) H := by
  refine ref18_Star_tot (by simp only [List.all_cons, rowG_fro]; rfl) (by simp [V.frees, V.free, rowG_free cfree]) ?_
  simp only [ref18_Star_b]
  have fr : ∀ o, (outT o).free = true := by
    intro o; cases o <;> simp [outT, V.free, V.frees, rowG_free cfree]
  refine Tot.mono (Q := fun u _ => u = outT (starW (allT id L))) ?_ fun u _ h => ⟨by rw [h]; exact fr _, trivial, h⟩
  refine Gv.bind (at_P hb) ?_
  dsimp only
  have hle := allT_le id L
  generalize allT id L = all at *
  refine Tot.pure (show bSl 9 ty_api_Tri z9 0 [] = some (.cells [] ty_api_Tri false) from rfl) ?_
  refine Tot.pure rowG_len ?_
  refine Tot.pure eql_P ?_
  match all with
  | [] =>
    rw [decide_eq_true (by simp)]
    refine Tot.pure bT ?_
    simp only [if_true]
    exact empty_out fun _ => rfl
  | a :: xs =>
    rw [decide_eq_false (by simp; omega)]
    refine Tot.pure bF ?_
    simp only [Bool.false_eq_true, if_false]
    refine rs_l0 (by omega) (fun _ _ _ => trivial) xs.length 1 0 _ _ (by simp; omega) (by omega) Big.id ?_
    refine ref18_Star.p1_tot ?_
    simp only [ref18_Star.p1_b]
    obtain ⟨q1, q2⟩ := least_at a xs
    have hlt : minI (a :: xs) 0 1 xs < (a :: xs).length := by
      rcases Nat.lt_or_ge (minI (a :: xs) 0 1 xs) (a :: xs).length with h | h
      · exact h
      · rw [List.getElem?_eq_none h] at q1; cases q1
    exact rs_l2 (by omega) (a :: xs).length 0 (minI (a :: xs) 0 1 xs) _ _ [] (some 0) _ (by omega) rfl Big.id (.inr ⟨0, rfl, rfl, by simp, Heap.gpz rfl⟩) fun _ => hlt
end N
end Go.AM
end
section
set_option linter.unusedVariables false
set_option linter.unusedSimpArgs false
set_option linter.unusedSimpArgs false
set_option linter.unusedVariables false
set_option maxRecDepth 100000
namespace Go.AM
theorem Gv.pcall {f : Nat → List V → Heap → Option R} {k : Nat → List V → Option R} (he : ∀ n a H, f (n + 1) a H = pureA a H (k n)) {args args' : List V} {H H' : Heap} {u : V}
    (h1 : frzAs args H = some (args', H')) (h2 : args'.all V.fro = true) (h : Gv (fun n => f n args' H') u H') : Gv (fun n => f n args H) u H' := by
  obtain ⟨v, G, q, n0, hn⟩ := h
  refine ⟨v, G, q, n0 + 1, fun n hle => ?_⟩
  obtain ⟨m, rfl⟩ : ∃ m, n = m + 1 := ⟨n - 1, by omega⟩
  have := hn (m + 1) (by omega)
  simp only [he] at this ⊢
  unfold pureA at this ⊢
  rw [frzAs_fro h2] at this
  rw [h1]
  exact this
theorem Gv.pbind {f : Nat → List V → Heap → Option R} {k : Nat → List V → Option R} (he : ∀ n a H, f (n + 1) a H = pureA a H (k n)) {args args' : List V} {H H' : Heap} {u : V} {kk : Nat → R → Option R} {Q : V → Heap → Prop}
    (h1 : frzAs args H = some (args', H')) (h2 : args'.all V.fro = true) (h : Gv (fun n => f n args' H') u H') (hk : Tot (fun n => kk n (u, H')) Q) : Tot (fun n => bnd (f n args H) (kk n)) Q :=
  Tot.bind (Gv.pcall he h1 h2 h) fun v G ⟨e1, e2⟩ => by subst e1 e2; exact hk
namespace U
theorem chR_len {all : List Tr} {N f : Nat} : ∀ {r n at_ : Nat} {out o : List Tr}, chR all N f r n at_ out = some o → o.length = out.length + r
  | 0, n, at_, out, o, h => by simp only [chR] at h; cases h; rfl
  | r + 1, n, at_, out, o, h => by
    simp only [chR] at h
    split at h
    · cases h
    · split at h
      · cases h
      · split at h
        · have := chR_len h; rw [this]; simp; omega
        · cases h
theorem starW_len {all o : List Tr} (h : starW all = some o) : o.length = all.length := by
  match all with
  | [] => cases h
  | a :: L =>
    unfold starW at h
    have := chR_len h
    simpa using this
theorem rows_of : ∀ (n : Nat) (xs : List V), xs.length = n * 9 → (∀ j, j < n → ∃ t : Tr, (xs.drop (j * 9)).take 9 = t.cells) → ∃ L : List Tr, L.length = n ∧ xs = L.flatMap Tr.cells
  | 0, xs, h, _ => ⟨[], rfl, List.eq_nil_of_length_eq_zero (by omega)⟩
  | n + 1, xs, h, hj => by
    obtain ⟨t, ht⟩ := hj 0 (by omega)
    obtain ⟨L, h1, h2⟩ := rows_of n (xs.drop 9) (by rw [List.length_drop]; omega) fun j hj2 => by
      obtain ⟨t, ht⟩ := hj (j + 1) (by omega)
      exact ⟨t, by rw [List.drop_drop, ← ht]; congr 2; omega⟩
    refine ⟨t :: L, by simp [h1], ?_⟩
    rw [List.flatMap_cons, ← h2, ← ht, Nat.zero_mul, List.drop_zero, List.take_append_drop]
end U
def isIntK3 (P : Program) (k : IntKind) (t : TypeId) : Bool := match P.underlying t with
  | some (.int q) => q == k
  | _ => false
def isPt2 (P : Program) (t : TypeId) : Bool := match P.underlying t with
  | some (.struct fs) => match fs.toList with
    | [f, g] => (f.offset == 0) && (g.offset == 1) && (P.cellsOf f.type == 1) && (P.cellsOf g.type == 1) && (P.cellsOf t == 2) && isIntK3 P .i64 f.type && isIntK3 P .i64 g.type
    | _ => false
  | _ => false
section
variable {P : Program} {k : Nat} {t : TypeId} {cs : List V}
theorem FT.int3 {q : IntKind} (ht : isIntK3 P q t = true) (h : FT P (k + 1) t cs) : ∃ z, cs = [.int q z] ∧ (Lit.int q z).wf = true := by
  unfold isIntK3 at ht
  unfold FT at h
  split at ht
  · rename_i hu
    simp only [hu] at h
    simp only [beq_iff_eq] at ht
    subst ht; exact h
  · cases ht
theorem isIntK3.one {v : V} {q : IntKind} (ht : isIntK3 P q t = true) : argV P t [v] = v := by
  unfold isIntK3 at ht
  unfold argV
  split at ht
  · rename_i e hu; simp only [hu]; rfl
  · cases ht
theorem FT.pt2 (ht : isPt2 P t = true) (h : FT P (k + 2) t cs) : ∃ x y, cs = [.int .i64 x, .int .i64 y] := by
  unfold isPt2 at ht
  unfold FT at h
  split at ht
  · rename_i fs hu
    simp only [hu] at h
    split at ht
    · rename_i f g hfs
      simp only [Bool.and_eq_true, beq_iff_eq] at ht
      obtain ⟨⟨⟨⟨⟨⟨a1, a2⟩, a3⟩, a4⟩, a5⟩, a6⟩, a7⟩ := ht
      rw [hfs] at h
      obtain ⟨hl, hf⟩ := h
      have w1 := hf f (by simp)
      have w2 := hf g (by simp)
      rw [a1, a3] at w1
      rw [a2, a4] at w2
      obtain ⟨x, e1, -⟩ := FT.int3 a6 w1
      obtain ⟨y, e2, -⟩ := FT.int3 a7 w2
      rw [a5] at hl
      match cs, hl with
      | [a, b], _ =>
        simp at e1 e2
        exact ⟨x, y, by rw [e1, e2]⟩
    · cases ht
  · cases ht
def isI3 (P : Program) (t : TypeId) : Bool := match P.underlying t with
  | some (.array 3 e) => (P.cellsOf e == 1) && (P.cellsOf t == 3) && isIntK3 P .i64 e
  | _ => false
def isP3 (P : Program) (t : TypeId) : Bool := match P.underlying t with
  | some (.array 3 e) => (P.cellsOf e == 2) && (P.cellsOf t == 6) && isPt2 P e
  | _ => false
def isTriT (P : Program) (t : TypeId) : Bool := match P.underlying t with
  | some (.struct fs) => match fs.toList with
    | [f, g] => (f.offset == 0) && (g.offset == 3) && (P.cellsOf f.type == 3) && (P.cellsOf g.type == 6) && (P.cellsOf t == 9) && isI3 P f.type && isP3 P g.type
    | _ => false
  | _ => false
def isTrisT (P : Program) (t : TypeId) : Bool := match P.underlying t with
  | some (.slice e) => isTriT P e && (P.cellsOf e == 9)
  | _ => false
theorem FT.i3 (ht : isI3 P t = true) (h : FT P (k + 2) t cs) : ∃ x y z, cs = [.int .i64 x, .int .i64 y, .int .i64 z] := by
  unfold isI3 at ht
  unfold FT at h
  split at ht
  · rename_i e hu
    simp only [hu] at h
    simp only [Bool.and_eq_true, beq_iff_eq] at ht
    obtain ⟨⟨a1, a2⟩, a3⟩ := ht
    obtain ⟨hl, hf⟩ := h
    rw [a1] at hf
    rw [a2] at hl
    obtain ⟨x, e1, -⟩ := FT.int3 a3 (hf 0 (by omega))
    obtain ⟨y, e2, -⟩ := FT.int3 a3 (hf 1 (by omega))
    obtain ⟨z, e3, -⟩ := FT.int3 a3 (hf 2 (by omega))
    match cs, hl with
    | [a, b, c], _ =>
      simp at e1 e2 e3
      exact ⟨x, y, z, by rw [e1, e2, e3]⟩
  · cases ht
theorem FT.p3 (ht : isP3 P t = true) (h : FT P (k + 3) t cs) : ∃ a b c d e f, cs = [.int .i64 a, .int .i64 b, .int .i64 c, .int .i64 d, .int .i64 e, .int .i64 f] := by
  unfold isP3 at ht
  unfold FT at h
  split at ht
  · rename_i e hu
    simp only [hu] at h
    simp only [Bool.and_eq_true, beq_iff_eq] at ht
    obtain ⟨⟨a1, a2⟩, a3⟩ := ht
    obtain ⟨hl, hf⟩ := h
    rw [a1] at hf
    rw [a2] at hl
    obtain ⟨x0, y0, e1⟩ := FT.pt2 a3 (hf 0 (by omega))
    obtain ⟨x1, y1, e2⟩ := FT.pt2 a3 (hf 1 (by omega))
    obtain ⟨x2, y2, e3⟩ := FT.pt2 a3 (hf 2 (by omega))
    match cs, hl with
    | [a, b, c, d, e, f], _ =>
      simp at e1 e2 e3
      exact ⟨x0, y0, x1, y1, x2, y2, by rw [e1.1, e1.2, e2.1, e2.2, e3.1, e3.2]⟩
  · cases ht
theorem FT.tri (ht : isTriT P t = true) (h : FT P (k + 4) t cs) : ∃ r : U.Tr, cs = r.cells := by
  unfold isTriT at ht
  unfold FT at h
  split at ht
  · rename_i fs hu
    simp only [hu] at h
    split at ht
    · rename_i f g hfs
      simp only [Bool.and_eq_true, beq_iff_eq] at ht
      obtain ⟨⟨⟨⟨⟨⟨a1, a2⟩, a3⟩, a4⟩, a5⟩, a6⟩, a7⟩ := ht
      rw [hfs] at h
      obtain ⟨hl, hf⟩ := h
      have w1 := hf f (by simp)
      have w2 := hf g (by simp)
      rw [a1, a3] at w1
      rw [a2, a4] at w2
      obtain ⟨x, y, z, e1⟩ := FT.i3 a6 w1
      obtain ⟨b0, b1, b2, b3, b4, b5, e2⟩ := FT.p3 a7 w2
      rw [a5] at hl
      refine ⟨⟨x, y, z, b0, b1, b2, b3, b4, b5⟩, ?_⟩
      match cs, hl with
      | [c0, c1, c2, c3, c4, c5, c6, c7, c8], _ =>
        simp at e1 e2
        obtain ⟨rfl, rfl, rfl⟩ := e1
        obtain ⟨rfl, rfl, rfl, rfl, rfl, rfl⟩ := e2
        rfl
    · cases ht
  · cases ht
theorem FT.tris (ht : isTrisT P t = true) (h : FT P (k + 5) t cs) : ∃ L : List U.Tr, cs = [rowG U.Tr.cells 9 L] := by
  unfold isTrisT at ht
  unfold FT at h
  split at ht
  · rename_i e hu
    simp only [hu] at h
    simp only [Bool.and_eq_true, beq_iff_eq] at ht
    obtain ⟨a1, a2⟩ := ht
    rw [a2] at h
    obtain ⟨len, z, xs, rfl, -, h1, h2, h3, h4⟩ := h
    obtain ⟨L, rfl, rfl⟩ := U.rows_of len xs h3 fun j hj => FT.tri a1 (h4 j hj)
    refine ⟨L, ?_⟩
    unfold rowG
    by_cases h0 : L.length = 0
    · rw [if_pos h0]
      obtain ⟨q1, q2⟩ := h1 h0
      rw [q1, q2, h0]
    · rw [if_neg h0, h2 h0]
  · cases ht
theorem isTrisT.one {v : V} (ht : isTrisT P t = true) : argV P t [v] = v := by
  unfold isTrisT at ht
  unfold argV
  split at ht
  · rename_i e hu; simp only [hu]; rfl
  · cases ht
end
namespace N
open U
variable {H : Heap}
theorem lives_P : Gv (fun n => f_law18_lives n [] H) (.bool true) H := law18_lives_ext ⟨_, _, ⟨rfl, rfl⟩, 0, fun n _ => rfl⟩
theorem app_row {v : V} {i : Option Nat} {L : List U.Tr} {j : Nat} (hb : L.length < 1000) : ∃ v' H' i', appA 9 72 ty_api_Tri (.slice ⟨some (H.n, 0), 0, 9, false⟩) (rowT L) (H.push (.cells [] ty_api_Tri false)) = some (v', H') ∧ gT H' v' L i' := by
  by_cases h : L.length = 0
  · have h0 : L = [] := List.eq_nil_of_length_eq_zero h
    subst h0
    exact ⟨_, _, some H.n, rfl, .inr ⟨_, rfl, rfl, by simp, Heap.gpz rfl⟩⟩
  · have s1 : srcA 9 (rowT L) (H.push (.cells [] ty_api_Tri false)) = some (L.length, L.flatMap Tr.cells) := by
      show srcA 9 (rowG Tr.cells 9 L) _ = _
      unfold rowG; rw [if_neg h]; simp [srcA]
    unfold appA
    simp only [s1, Option.bind_some]
    rw [if_neg h, if_pos ⟨by omega, by decide, .inr trivial⟩]
    have g1 : (H.push (.cells [] ty_api_Tri false)).get H.n = .cells [] ty_api_Tri false := Heap.gpz rfl
    simp only [rdS, if_true, Option.bind_some, killA, g1, Bool.false_eq_true, if_false, List.nil_append, Nat.zero_add]
    exact ⟨_, _, some _, rfl, .inr ⟨_, rfl, rfl, by simp, Heap.gpz (by simp)⟩⟩
theorem frz_args {v : V} {L : List U.Tr} {i : Option Nat} {id : Int} (g : gT H v L i) : ∃ H', frzAs [v, iv id] H = some ([rowT L, iv id], H') := by
  obtain ⟨ids, h⟩ := GT.frzV g 4
  refine ⟨killL (ids ++ ([] ++ [])) H, ?_⟩
  have e : frzL (frzV H 6) [v, iv id] = some ([rowT L, iv id], ids ++ ([] ++ [])) := by
    simp only [frzL, h]
    rfl
  simp only [frzAs, e]
theorem outT_fro : ∀ o : Option (List U.Tr), ∃ x b, outT o = .tuple [rowT x, .bool b] ∧ (∀ y, o = some y → x = y) ∧ (o = none → x = [])
  | none => ⟨[], false, rfl, (fun y h => by cases h), (fun _ => rfl)⟩
  | some y => ⟨y, true, rfl, (fun z h => by cases h; rfl), (fun h => by cases h)⟩
theorem Star_P {L : List U.Tr} {id : Int} (hb : L.length < 1000) : Gv (fun n => f_unfold_Star n [rowT L, iv id] H) (outT (starW (allT id L))) H := by
  refine unfold_Star_tot (by simp only [List.all_cons, rowG_fro]; rfl) (by simp [V.frees, V.free, rowG_free cfree]) ?_
  simp only [unfold_Star_b]
  refine Gv.bind (star_P hb) ?_
  dsimp only
  obtain ⟨x, b, e, -, -⟩ := outT_fro (starW (allT id L))
  rw [e]
  refine Tot.pure (show extA (.tuple [rowT x, .bool b]) 0 = some (rowT x) from rfl) ?_
  refine Tot.pure (show extA (.tuple [rowT x, .bool b]) 1 = some (.bool b) from rfl) ?_
  refine Tot.rt (by simp only [List.all_cons, rowG_fro]; rfl) ⟨by simp [V.free, V.frees, rowG_free cfree], trivial, rfl⟩
theorem law_p2 {L : List U.Tr} {id : Int} (hb : L.length ≤ 12) : Tot (fun n => law18_UnfoldStars.p2 n (rowT L) (iv id) H) fun v _ => v = .bool true := by
  refine law18_UnfoldStars.p2_tot ?_
  simp only [law18_UnfoldStars.p2_b]
  refine Tot.pure (show bSl 9 ty_api_Tri z9 0 [] = some (.cells [] ty_api_Tri false) from rfl) ?_
  obtain ⟨v', H', i', h1, h2⟩ := app_row (H := H) (v := nilS) (i := none) (j := 0) (L := L) (by omega)
  refine Tot.pure h1 ?_
  dsimp only
  obtain ⟨H2, h3⟩ := frz_args (id := id) h2
  refine Gv.pbind unfold_Star_in h3 (by simp only [List.all_cons, rowG_fro]; rfl) (Star_P (by omega)) ?_
  dsimp only
  have hle := allT_le id L
  obtain ⟨x, b, e, e1, e2⟩ := outT_fro (starW (allT id L))
  have hx : x.length < 2000000000 := by
    cases h : starW (allT id L) with
    | none => rw [e2 h]; simp
    | some y => rw [e1 y h, starW_len h]; omega
  rw [e]
  refine Tot.pure (show extA (.tuple [rowT x, .bool b]) 0 = some (rowT x) from rfl) ?_
  refine Tot.pure (show extA (.tuple [rowT x, .bool b]) 1 = some (.bool b) from rfl) ?_
  refine Gv.bind (rstar_P (by omega)) ?_
  dsimp only
  rw [e]
  refine Tot.pure (show extA (.tuple [rowT x, .bool b]) 0 = some (rowT x) from rfl) ?_
  refine Tot.pure (show extA (.tuple [rowT x, .bool b]) 1 = some (.bool b) from rfl) ?_
  refine Gv.bind (same_P hx hx) ?_
  rw [decide_eq_true rfl]
  refine Tot.pure bT ?_
  simp only [if_true]
  have nb : eqlA P ty_bool (.bool b) (.bool b) = some (.bool true) := by
    have : ∀ a c : Bool, eqlA P ty_bool (.bool a) (.bool c) = some (.bool (a == c)) := fun a c => by kernel_rfl
    rw [this]; simp
  refine Tot.pure nb ?_
  refine Tot.pure bT ?_
  simp only [if_true]
  refine Gv.bind lives_P ?_
  exact Tot.ret rfl
theorem law_l1 {L : List U.Tr} {id : Int} (hb : L.length ≤ 12) : ∀ (j k : Nat) (H : Heap) (m : Nat → Nat), k + j = L.length → Big m →
    Tot (fun n => law18_UnfoldStars.l1 n (m n) (rowT L) (iv id) (iv (k : Int)) H) fun v _ => v = .bool true := by
  intro j
  induction j with
  | zero =>
    intro k H m hk hm
    refine law18_UnfoldStars.l1_tot hm fun m hm => ?_
    simp only [law18_UnfoldStars.l1_b]
    refine Tot.pure rowG_len ?_
    refine Tot.pure lssN ?_
    rw [decide_eq_false (by omega)]
    refine Tot.pure bF ?_
    simp only [Bool.false_eq_true, if_false]
    exact law_p2 hb
  | succ j ih =>
    intro k H m hk hm
    have hl : k < L.length := by omega
    refine law18_UnfoldStars.l1_tot hm fun m hm => ?_
    simp only [law18_UnfoldStars.l1_b]
    refine Tot.pure rowG_len ?_
    refine Tot.pure lssN ?_
    rw [decide_eq_true (by omega)]
    refine Tot.pure bT ?_
    simp only [if_true]
    refine Tot.pure (rowG_idx hl) ?_
    refine Tot.pure (rowG_ld c9 hl) ?_
    refine Tot.bind near_P ?_
    rintro u K ⟨rfl, b, rfl⟩
    dsimp only
    refine Tot.pure (show unA .not (.bool b) = some (.bool (!b)) from rfl) ?_
    cases b with
    | false =>
      refine Tot.pure bT ?_
      simp only [if_true]
      refine Gv.bind lives_P ?_
      exact Tot.ret rfl
    | true =>
      refine Tot.pure bF ?_
      simp only [Bool.false_eq_true, if_false]
      refine Tot.pure (incN (by omega)) ?_
      exact ih (k + 1) K m (by omega) hm
theorem law_p0 {L : List U.Tr} {id : Int} (hb : L.length ≤ 12) : Tot (fun n => law18_UnfoldStars.p0 n (rowT L) (iv id) H) fun v _ => v = .bool true := by
  refine law18_UnfoldStars.p0_tot ?_
  simp only [law18_UnfoldStars.p0_b]
  exact law_l1 hb L.length 0 H _ (by omega) Big.id
theorem law_P {L : List U.Tr} {id : Int} : Tot (fun n => f_law18_UnfoldStars n [rowT L, iv id] H) fun v _ => v = .bool true := by
  refine law18_UnfoldStars_tot (by simp only [List.all_cons, rowG_fro]; rfl) (by simp [V.frees, V.free, rowG_free cfree]) ?_
  simp only [law18_UnfoldStars_b]
  refine Tot.mono (Q := fun v _ => v = .bool true) ?_ fun v _ h => ⟨by rw [h]; rfl, h⟩
  refine Tot.pure rowG_len ?_
  refine Tot.pure gtr_P ?_
  by_cases h : 12 < L.length
  · rw [decide_eq_true (by omega)]
    refine Tot.pure bT ?_
    simp only [if_true]
    refine Tot.pure (rowG_cut (n := 12) c9 (by omega) h) ?_
    exact law_p0 (by rw [List.length_take]; omega)
  · rw [decide_eq_false (by omega)]
    refine Tot.pure bF ?_
    simp only [Bool.false_eq_true, if_false]
    exact law_p0 (by omega)
theorem stars_all {t u : TypeId} (ht : isTrisT P t = true) (hu : isIntK3 P .i64 u = true) {H : Heap} {us : List V} (h : FTs P 8 [t, u] us) : Tot (fun n => f_law18_UnfoldStars n us H) fun v _ => v = .bool true := by
  obtain ⟨cs, us', rfl, w1, cs2, us2, rfl, w2, rfl⟩ := h
  obtain ⟨L, rfl⟩ := FT.tris (k := 3) ht w1
  obtain ⟨m, rfl, -⟩ := FT.int3 (k := 7) hu w2
  rw [isTrisT.one ht, isIntK3.one hu]
  exact law_P
end N
end Go.AM
end
section
set_option linter.unusedVariables false
set_option linter.unusedSimpArgs false
namespace Go.AM.L
abbrev ty_int : Nat := 3
abbrev ty_bool : Nat := 4
abbrev ty_string : Nat := 9
abbrev ty_interface : Nat := 20
abbrev ty_api_Off : Nat := 26
abbrev ty_api_Tri : Nat := 29
abbrev ty_p_pdt_Engine : Nat := 35
abbrev ty_api_Point : Nat := 40
abbrev ty_law17_Act : Nat := 43
abbrev ty_api_Dump : Nat := 49
abbrev ty_ref17_Engine : Nat := 61
abbrev ty_api_Vert : Nat := 65
abbrev ty_api_Cell : Nat := 67
abbrev ty_pdt_Engine : Nat := 78
abbrev ty_p_mesh_Mesh : Nat := 79
abbrev ty_p_bucket_Grid : Nat := 80
abbrev ty_pdt_sheet : Nat := 84
abbrev ty_api_Wide : Nat := 89
abbrev ty_unfold_judge : Nat := 91
abbrev ty_api_Place : Nat := 96
abbrev ty_api_Knot : Nat := 102
abbrev ty_p_arena_Arena : Nat := 115
abbrev ty_mesh_Mesh : Nat := 118
abbrev ty_sl_int : Nat := 119
abbrev ty_3_api_Point : Nat := 123
abbrev ty_unfold_edge : Nat := 129
abbrev ty_uint32 : Nat := 152
abbrev ty_arena_Arena : Nat := 158
abbrev ty_bucket_Grid : Nat := 189
abbrev ty_api_Quad : Nat := 223
abbrev ty_api_Nat : Nat := 237
abbrev ty_api_Int : Nat := 239
abbrev ty_mesh_half : Nat := 250
abbrev ty_mesh_edge : Nat := 253
abbrev ty_2_uint64 : Nat := 288
@[simp] theorem eqlA_ty_api_Nat (s : Sl) : eqlA P ty_api_Nat (.slice s) (.slice ⟨none, 0, 0, false⟩) = some (.bool s.ad.isNone) := by rcases s with ⟨_ | a, l, z, f⟩ <;> kernel_rfl
@[simp] theorem neqA_ty_bool (a b : Bool) : neqA P ty_bool (.bool a) (.bool b) = some (.bool (!(a == b))) := by kernel_rfl
def tabList0 : List (Nat × List (Nat × List Nat)) := [(5, []),
 (6, []),
 (9, [(7, [2, 9, 11, 12]), (11, [9, 11])]),
 (10, [(5, [1, 2, 6, 40, 41, 42]), (9, [1, 2, 6]), (11, [1, 2, 6, 9, 52, 53, 54]), (15, [1, 2, 6, 9, 11, 12, 52, 53, 54, 60, 61]), (22, [1, 2, 6, 9, 12, 52, 53, 54]), (24, [9])]),
 (11, []),
 (12, [(6, [0, 1, 2, 7, 8, 41, 42, 43]), (11, [0, 1, 2, 7]), (14, [7, 87, 88, 89]), (17, [7, 12, 87, 88, 89, 93])]),
 (13, [(5, [3, 12]), (8, [3])]),
 (14, [(4, [1, 6, 7, 22, 23, 24]), (7, [1, 6, 7, 9, 22, 23, 24, 28]), (18, [6, 7]), (23, [6, 7, 15, 16, 17]), (29, [7, 15, 16])]),
 (17, []),
 (18, []),
 (19, []),
 (20, [])]
def tabList1 : List (Nat × List (Nat × List Nat)) := [(21, []),
 (22, []),
 (23, []),
 (24, []),
 (25, [(4, [0, 3]), (9, [0, 3, 4, 5]), (14, [0, 3])]),
 (26, [(5, [0, 2, 3, 20, 21, 22]), (9, [0, 2, 3]), (10, [0, 2, 3, 43, 44, 45])]),
 (27, [(3, [0, 5, 11, 12, 13])]),
 (28, [(3, [0, 3, 5, 18, 19]), (11, [0, 3, 5]), (15, [0, 3, 76])]),
 (29, [(4, [0, 1, 4, 5, 6])]),
 (30, [(8, [0, 4, 8, 10, 46]), (12, [0, 8, 10])]),
 (31, []),
 (33, [(3, [1, 2, 4, 5, 8])])]
def tabList2 : List (Nat × List (Nat × List Nat)) := [(34, [(2, [0, 3, 7, 8])]),
 (35, [(3, [0, 1, 4]), (5, [0, 1, 4, 5, 6])]),
 (37, []),
 (46, [(12, [0, 3, 8, 9, 10]), (17, [0, 3, 8])]),
 (47, [(8, [0, 3, 6]), (10, [0, 3, 6])]),
 (48, [(3, [1, 2, 3, 4])]),
 (49, [(2, [0, 1, 2, 3, 4, 10, 11]), (10, [0, 1, 2, 3, 4, 10, 11, 12]), (15, [0, 1, 2, 3, 4, 10, 11, 12, 13, 14]), (17, [0, 1, 2, 3, 4, 10, 11, 12, 13])]),
 (50, []),
 (51, [(2, [2, 3, 7])]),
 (52, [(5, [0, 3, 11, 12])]),
 (53, []),
 (54, [])]
def tabList3 : List (Nat × List (Nat × List Nat)) := [(55, []),
 (56, []),
 (57, []),
 (58, []),
 (59, []),
 (60, []),
 (61, []),
 (62, [(2, [0, 1, 2, 3, 4, 10, 11]), (10, [0, 1, 2, 3, 4, 10, 11, 12]), (15, [0, 1, 2, 3, 4, 10, 11, 12, 13, 14]), (17, [0, 1, 2, 3, 4, 10, 11, 12, 13])]),
 (63, [(4, [5, 6, 23, 24, 25]), (9, [5, 6]), (10, [5, 57, 58, 59])]),
 (64, []),
 (66, [(2, [0, 1, 5])]),
 (67, [])]
def tabList4 : List (Nat × List (Nat × List Nat)) := [(68, [(4, [0, 1, 5, 30]), (7, [0, 1, 5, 6, 30, 33])]),
 (69, []),
 (70, [(2, [0, 3, 5])]),
 (72, [(3, [0, 3, 5, 6, 7]), (7, [0, 3, 5, 6, 7]), (8, [3, 5, 6])]),
 (73, [(3, [1, 2, 4, 5, 8])]),
 (74, [(1, [0, 1, 2, 3, 8]), (4, [0, 1, 2, 3, 8, 9])]),
 (77, [(11, [0, 3, 11, 12, 13, 14]), (12, [11, 13])]),
 (81, [(3, [0, 1, 4, 12, 13]), (5, [0, 1, 4, 12, 13]), (7, [0, 1, 4, 12, 13]), (13, [0, 1, 4, 12, 13]), (15, [0, 1, 4, 12, 13]), (17, [0, 1, 4, 12, 13]), (21, [0, 1, 13])]),
 (82, [(4, [0, 2]), (7, [0, 2])]),
 (83, [(4, [0, 2]), (7, [0, 2]), (10, [0, 2])]),
 (84, [(3, [3, 6, 7, 8])]),
 (85, [])]
def tabList5 : List (Nat × List (Nat × List Nat)) := [(86, []),
 (87, []),
 (88, [(2, [5, 6, 7])]),
 (89, []),
 (90, []),
 (91, []),
 (92, []),
 (93, []),
 (94, []),
 (95, [(1, [0, 1, 2, 3, 8]), (4, [0, 1, 2, 3, 8, 9])]),
 (103, []),
 (104, [])]
def tabList6 : List (Nat × List (Nat × List Nat)) := [(105, []),
 (106, [(1, [0, 6, 7, 8])]),
 (107, []),
 (109, []),
 (111, []),
 (113, []),
 (118, []),
 (119, []),
 (120, []),
 (121, []),
 (123, []),
 (124, [])]
def tabList7 : List (Nat × List (Nat × List Nat)) := [(125, []),
 (126, [(3, [0, 3, 6, 7])]),
 (130, []),
 (131, []),
 (132, []),
 (135, []),
 (136, [(1, [0, 4]), (4, [0, 2, 4, 7])]),
 (137, []),
 (138, []),
 (139, [(6, [0, 3, 42]), (12, [0, 3]), (15, [0, 3, 9, 74, 75])]),
 (149, []),
 (150, [])]
def tabList8 : List (Nat × List (Nat × List Nat)) := [(151, []),
 (152, []),
 (153, []),
 (154, []),
 (155, [(5, [4, 5, 6, 7, 8, 9, 27]), (9, [4, 5, 6, 7, 8, 9, 10, 11, 27, 30]), (17, [4, 5, 6, 7, 8, 9, 10, 11, 27]), (19, [4, 6, 8, 9])]),
 (156, []),
 (157, []),
 (158, []),
 (159, []),
 (161, []),
 (162, []),
 (164, [])]
def tabList9 : List (Nat × List (Nat × List Nat)) := [(165, []),
 (166, []),
 (167, []),
 (168, []),
 (169, []),
 (170, []),
 (171, []),
 (172, []),
 (173, []),
 (174, []),
 (175, []),
 (176, [])]
def tabList10 : List (Nat × List (Nat × List Nat)) := [(177, []),
 (178, []),
 (182, [(2, [0, 1, 7, 8])]),
 (199, [(4, [1, 2, 4])]),
 (200, [(3, [2, 3, 4, 5, 7])]),
 (201, [(3, [2, 3, 4, 5, 7])]),
 (202, []),
 (203, []),
 (204, []),
 (205, []),
 (206, []),
 (207, [])]
def tabList11 : List (Nat × List (Nat × List Nat)) := [(211, []),
 (212, []),
 (213, [(3, [1, 5, 17, 18, 19]), (7, [1, 5, 6, 7, 8, 17, 18, 19, 24, 25, 26]), (13, [1, 5, 6, 8, 17, 18, 19])]),
 (214, []),
 (215, []),
 (216, []),
 (217, []),
 (218, [(4, [1, 2, 3]), (6, [2, 3, 4, 13, 14]), (10, [2, 3, 4])]),
 (219, []),
 (237, []),
 (238, []),
 (243, [])]
def tabList12 : List (Nat × List (Nat × List Nat)) := [(244, [(1, [0])]),
 (245, []),
 (246, []),
 (247, [(7, [0, 1, 5])]),
 (249, []),
 (266, [])]
def tabList : List (Nat × List (Nat × List Nat)) := tabList0 ++ (tabList1 ++ (tabList2 ++ (tabList3 ++ (tabList4 ++ (tabList5 ++ (tabList6 ++ (tabList7 ++ (tabList8 ++ (tabList9 ++ (tabList10 ++ (tabList11 ++ (tabList12))))))))))))
def tabs (f : FuncId) : Option (List (Nat × List Nat)) := tabList.lookup f
noncomputable def extList : List (Nat × (List V → Heap → Option R)) := [((122 : Nat), (extAdd64 : List V → Heap → Option R)),
 ((198 : Nat), (extSub64 : List V → Heap → Option R))]
noncomputable def ext (f : FuncId) : Option (List V → Heap → Option R) := extList.lookup f
def faL : List Nat := [9, 10, 20, 27, 106]
def frL : List Nat := [6, 10, 11, 13, 14, 26, 52, 72, 166, 167, 168, 170, 171, 212, 213, 214, 218, 243, 244]
def puL : List Nat := [5, 6, 12, 14, 17, 18, 21, 22, 24, 29, 33, 48, 51, 54, 55, 56, 57, 58, 60, 61, 72, 73, 87, 88, 89, 90, 91, 92, 93, 94, 120, 121, 123, 124, 125, 126, 135, 138, 150, 151, 152, 153, 154, 155, 156, 157, 158, 159, 161, 165, 166, 167, 168, 169, 170, 171, 174, 176, 199, 200, 201, 202, 204, 207, 212, 213, 214, 215, 216, 217, 218, 219, 237, 243, 244, 246, 247, 249, 266]
def pu (f : FuncId) : Bool := puL.contains f
def fa (f : FuncId) : Bool := faL.contains f
def fr (f : FuncId) : Bool := frL.contains f
noncomputable def C : Cfg := { P, tabs, ext, fa, fr, pu, okc := fun N c => okC P N c }
abbrev i_law18_lives : Nat := 5
abbrev i_unfold_Star : Nat := 6
abbrev i_unfold_star : Nat := 14
abbrev i_cover_Cmp : Nat := 24
abbrev i_unfold_from : Nat := 33
abbrev i_slices_Index_api_Tri_api_Tri : Nat := 34
abbrev i_slices_MinFunc_api_Tri_api_Tri : Nat := 35
abbrev i_cover_order : Nat := 51
abbrev i_lift_Less : Nat := 58
abbrev i_cmp_Or_int : Nat := 84
abbrev i_cmp_Compare_int : Nat := 85
abbrev i_cmp_isNaN_int : Nat := 119
@[irreducible] noncomputable def f_law18_lives (n : Nat) (args : List V) (H : Heap) : Option R := callA C n 5 args H
@[irreducible] noncomputable def f_unfold_Star (n : Nat) (args : List V) (H : Heap) : Option R := callA C n 6 args H
@[irreducible] noncomputable def f_unfold_star (n : Nat) (args : List V) (H : Heap) : Option R := callA C n 14 args H
@[irreducible] noncomputable def f_cover_Cmp (n : Nat) (args : List V) (H : Heap) : Option R := callA C n 24 args H
@[irreducible] noncomputable def f_unfold_from (n : Nat) (args : List V) (H : Heap) : Option R := callA C n 33 args H
@[irreducible] noncomputable def f_slices_Index_api_Tri_api_Tri (n : Nat) (args : List V) (H : Heap) : Option R := callA C n 34 args H
@[irreducible] noncomputable def f_slices_MinFunc_api_Tri_api_Tri (n : Nat) (args : List V) (H : Heap) : Option R := callA C n 35 args H
@[irreducible] noncomputable def f_cover_order (n : Nat) (args : List V) (H : Heap) : Option R := callA C n 51 args H
@[irreducible] noncomputable def f_lift_Less (n : Nat) (args : List V) (H : Heap) : Option R := callA C n 58 args H
@[irreducible] noncomputable def f_cmp_Or_int (n : Nat) (args : List V) (H : Heap) : Option R := callA C n 84 args H
@[irreducible] noncomputable def f_cmp_Compare_int (n : Nat) (args : List V) (H : Heap) : Option R := callA C n 85 args H
@[irreducible] noncomputable def f_cmp_isNaN_int (n : Nat) (args : List V) (H : Heap) : Option R := callA C n 119 args H
end Go.AM.L
end
section
set_option linter.unusedVariables false
set_option linter.unusedSimpArgs false
set_option linter.unusedVariables false
namespace Go.AM
universe u
section
variable {α : Type u}
def fcN (n : Nat) (k : Nat → α) : α := Nat.casesOn (motive := fun _ => α) n (k 0) fun m => k (Nat.succ m)
theorem fcN_eq (n : Nat) (k : Nat → α) : fcN n k = k n := by cases n <;> rfl
def fcI (i : Int) (k : Int → α) : α := Int.casesOn (motive := fun _ => α) i (fun n => fcN n fun n => k (Int.ofNat n)) (fun n => fcN n fun n => k (Int.negSucc n))
theorem fcI_eq (n : Int) (k : Int → α) : fcI n k = k n := by cases n <;> simp [fcI, fcN_eq]
def fcB (b : Bool) (k : Bool → α) : α := Bool.casesOn (motive := fun _ => α) b (k false) (k true)
theorem fcB_eq (b : Bool) (k : Bool → α) : fcB b k = k b := by cases b <;> rfl
def fcK (b : IntKind) (k : IntKind → α) : α := match b with
  | .i8 => k .i8 | .i16 => k .i16 | .i32 => k .i32 | .i64 => k .i64 | .u8 => k .u8 | .u16 => k .u16 | .u32 => k .u32 | .u64 => k .u64
theorem fcK_eq (b : IntKind) (k : IntKind → α) : fcK b k = k b := by cases b <;> rfl
def fcO {β : Type} (fb : β → (β → α) → α) (o : Option β) (k : Option β → α) : α := match o with
  | none => k none
  | some x => fb x fun x => k (some x)
theorem fcO_eq {β : Type} {fb : β → (β → α) → α} (h : ∀ x k, fb x k = k x) (o : Option β) (k : Option β → α) : fcO fb o k = k o := by cases o <;> simp [fcO, h]
def fcP (o : Nat × Nat) (k : Nat × Nat → α) : α := match o with
  | (a, b) => fcN a fun a => fcN b fun b => k (a, b)
theorem fcP_eq (o : Nat × Nat) (k : Nat × Nat → α) : fcP o k = k o := by cases o; simp [fcP, fcN_eq]
def fcS (o : Sl) (k : Sl → α) : α := match o with
  | ⟨a, l, z, f⟩ => fcO fcP a fun a => fcN l fun l => fcN z fun z => fcB f fun f => k ⟨a, l, z, f⟩
theorem fcS_eq (o : Sl) (k : Sl → α) : fcS o k = k o := by cases o; simp [fcS, fcN_eq, fcB_eq, fcO_eq fcP_eq]
mutual
def fcV : V → (V → α) → α
  | .bool b, k => fcB b fun b => k (.bool b)
  | .int d n, k => fcK d fun d => fcI n fun n => k (.int d n)
  | .ptr a, k => fcO fcP a fun a => k (.ptr a)
  | .slice s, k => fcS s fun s => k (.slice s)
  | .map r, k => fcO fcN r fun r => k (.map r)
  | .agg cs, k => fcVs cs fun cs => k (.agg cs)
  | .tuple cs, k => fcVs cs fun cs => k (.tuple cs)
  | .list n z cs, k => fcN n fun n => fcN z fun z => fcVs cs fun cs => k (.list n z cs)
  | .lptr cs, k => fcVs cs fun cs => k (.lptr cs)
  | .dead, k => k .dead
  | .str s, k => k (.str s)
  | .func f a b, k => k (.func f a b)
  | .nilFunc, k => k .nilFunc
  | .iface t v, k => k (.iface t v)
  | .nilIface, k => k .nilIface
  | .yld j, k => k (.yld j)
def fcVs : List V → (List V → α) → α
  | [], k => k []
  | v :: vs, k => fcV v fun v => fcVs vs fun vs => k (v :: vs)
end
mutual
theorem fcV_eq : ∀ (v : V) (k : V → α), fcV v k = k v
  | .bool b, k => by simp [fcV, fcB_eq]
  | .int d n, k => by simp [fcV, fcK_eq, fcI_eq]
  | .ptr a, k => by simp [fcV, fcO_eq fcP_eq]
  | .slice s, k => by simp [fcV, fcS_eq]
  | .map r, k => by simp [fcV, fcO_eq fcN_eq]
  | .agg cs, k => by rw [fcV, fcVs_eq]
  | .tuple cs, k => by rw [fcV, fcVs_eq]
  | .list n z cs, k => by rw [fcV, fcN_eq, fcN_eq, fcVs_eq]
  | .lptr cs, k => by rw [fcV, fcVs_eq]
  | .dead, k => rfl
  | .str s, k => rfl
  | .func f a b, k => rfl
  | .nilFunc, k => rfl
  | .iface t v, k => rfl
  | .nilIface, k => rfl
  | .yld j, k => rfl
theorem fcVs_eq : ∀ (v : List V) (k : List V → α), fcVs v k = k v
  | [], k => rfl
  | v :: vs, k => by rw [fcVs, fcV_eq, fcVs_eq]
end
end
def fcall (call : FuncId → List V → Heap → Option R) (f : FuncId) (args : List V) (H : Heap) : Option R := fcN f fun f => fcVs args fun args => call f args H
theorem fcall_eq (call : FuncId → List V → Heap → Option R) : fcall call = call := by
  funext f args H; rw [fcall, fcN_eq, fcVs_eq]
def bodyA (C : Cfg) (call : FuncId → List V → Heap → Option R) (n : Nat) (f : FuncId) (args : List V) (H : Heap) : Option R :=
  if yB ≤ f then yieldA C (fun tab N c => exec C.P call tab N (some (f - yB)) n c) (f - yB) args H else
  match C.ext f with
  | some g => g args H
  | none => match C.tabs f with
    | some tab => match C.P.funcs[f]? with
      | some fn => match fn.body with
        | some c => if C.pu f = true then pureA args H fun args => exec C.P call tab fn.ntmps none n c (argsA 0 args) ⟨0, .nil⟩ (kRet C.P (C.fr f) fn.results.toList)
          else inA (C.fa f) args H fun args H => exec C.P call tab fn.ntmps none n c (argsA 0 args) H (kRet C.P (C.fr f) fn.results.toList)
        | none => none
      | none => none
    | none => none
theorem bodyA_e {C : Cfg} {n : Nat} {f : FuncId} {a : List V} {H : Heap} : bodyA C (fcall (callA C n)) n f a H = callA C (n + 1) f a H := by
  rw [fcall_eq]; unfold callA; rfl
class Fc (α : Type) where
  fc : {ρ : Type} → α → (α → ρ) → ρ
  eq : ∀ {ρ : Type} (x : α) (k : α → ρ), fc x k = k x
instance : Fc V := ⟨fcV, fcV_eq⟩
instance : Fc Bool := ⟨fcB, fcB_eq⟩
instance : Fc Nat := ⟨fcN, fcN_eq⟩
instance : Fc Heap := ⟨fun x k => k x, fun _ _ => rfl⟩
instance : Fc O := ⟨fun x k => k x, fun _ _ => rfl⟩
instance : Fc Unit := ⟨fun x k => k x, fun _ _ => rfl⟩
instance {α β : Type} [Fc α] [Fc β] : Fc (α × β) := ⟨fun x k => match x with | (a, b) => Fc.fc a fun a => Fc.fc b fun b => k (a, b), fun x k => by cases x; simp [Fc.eq]⟩
abbrev B3 := {α β : Type} → [Fc α] → Option α → (α → Option β) → Option β
def bf {α β : Type} [Fc α] (x : Option α) (f : α → Option β) : Option β := match x with
  | some a => Fc.fc a f
  | none => none
def bdI {α β : Type} [Fc α] (x : Option α) (f : α → Option β) : Option β := bd x f
theorem bf_is : (@bf : B3) = @bdI := by
  funext α β _ x f
  cases x with
  | none => rfl
  | some a => exact Fc.eq a f
end Go.AM
end
section
set_option linter.unusedVariables false
set_option linter.unusedSimpArgs false
set_option maxRecDepth 1000000
set_option linter.unusedVariables false
namespace Go.AM.L
noncomputable def law18_lives.r (bd : B3) (call : FuncId → List V → Heap → Option R) (n : Nat) (H : Heap) : Option R :=
 (bd (flA [(0, 1), (1, 1)] [(.int .i64 0), (.int .i64 0)] [(0, (.int .i64 3)), (1, (.int .i64 4))]) fun t9_1 =>
 (bd (flA [(0, 1), (1, 1), (2, 2), (4, 1)] [(.int .i64 0), (.int .i64 0), (.int .i64 0), (.int .i64 0), (.slice ⟨none, 0, 0, false⟩)] [(2, t9_1)]) fun t10_2 =>
 (bd (bSl 5 ty_law17_Act [(.int .i64 0), (.int .i64 0), (.int .i64 0), (.int .i64 0), (.slice ⟨none, 0, 0, false⟩)] 1 [(0, t10_2)]) fun o3 =>
 (bd (call 9 [(.int .i64 10), (.int .i64 5), (.slice ⟨some (H.n, 0), 1, 5, false⟩)] (H.push o3)) fun r4 =>
 (bd (extA r4.1 0) fun t13_5 =>
 (bd (extA r4.1 1) fun t14_6 =>
 (bd (extA r4.1 2) fun t15_7 =>
 (bd (call 11 [t13_5] r4.2) fun r8 =>
 (bd (call 10 [r8.1, (.int .i64 10)] r8.2) fun r9 =>
 (bd (extA r9.1 0) fun t20_10 =>
 (bd (extA r9.1 1) fun t21_11 =>
 (bd (call 6 [t20_10, (.int .i64 0)] r9.2) fun r12 =>
 (bd (extA r12.1 0) fun t25_13 =>
 (bd (extA r12.1 1) fun t26_14 =>
 (bd (asB t15_7) fun b15 =>
 if b15 = true then
 (bd (asB t21_11) fun b16 =>
 if b16 = true then
 (bd (asB t26_14) fun b17 =>
 if b17 = true then
 (bd (lenSl t20_10) fun t36_18 =>
 (bd (arA .eql t36_18 (.int .i64 2)) fun t37_19 =>
 (bd (asB t37_19) fun b20 =>
 if b20 = true then
 (bd (lenSl t25_13) fun t41_21 =>
 (bd (arA .eql t41_21 (.int .i64 6)) fun t42_22 =>
 (bd (asB t42_22) fun b23 =>
 if b23 = true then
 (bd (call 13 [t13_5] r12.2) fun r24 =>
 (bd (call 12 [r24.1, t20_10, (.int .i64 10)] r24.2) fun r25 =>
 (some (r25.1, r25.2))))
 else
 (some ((.bool false), r12.2)))))
 else
 (some ((.bool false), r12.2)))))
 else
 (some ((.bool false), r12.2)))
 else
 (some ((.bool false), r12.2)))
 else
 (some ((.bool false), r12.2)))))))))))))))))
theorem law18_lives.r_e (n : Nat) (H : Heap) : law18_lives.r @bdI (callA C n) n H = E C n 5 [] (argsA 0 []) H (kR C 5) := by
  unfold law18_lives.r
  kernel_rfl
noncomputable def law18_lives.rf (bd : B3) (call : FuncId → List V → Heap → Option R) (n : Nat) (a : List V) (H : Heap) : Option R := pureA a H fun a => (match a with | [] => law18_lives.r bd call n ⟨0, .nil⟩ | a => E C n 5 [] (argsA 0 a) ⟨0, .nil⟩ (kR C 5))
theorem law18_lives.rf_b (n : Nat) (a : List V) (H : Heap) : (match a with | [] => law18_lives.r @bdI (callA C n) n H | a => E C n 5 [] (argsA 0 a) H (kR C 5)) = E C n 5 [] (argsA 0 a) H (kR C 5) := by
  split
  · exact law18_lives.r_e n H
  · rfl
theorem law18_lives.rf_e (n : Nat) (a : List V) (H : Heap) : law18_lives.rf @bdI (callA C n) n a H = callA C (n + 1) 5 a H := by
  unfold law18_lives.rf
  refine (congrArg (pureA a H) (funext fun a => law18_lives.rf_b n a ⟨0, .nil⟩)).trans ?_
  kernel_rfl
noncomputable def unfold_Star.r (bd : B3) (call : FuncId → List V → Heap → Option R) (n : Nat) (v0 v1 : V) (H : Heap) : Option R :=
 (bd (call 14 [v0, v1] H) fun r1 =>
 (bd (extA r1.1 0) fun t9_2 =>
 (bd (extA r1.1 1) fun t10_3 =>
 (frzR (.tuple [t9_2, t10_3]) r1.2))))
theorem unfold_Star.r_e (n : Nat) (v0 v1 : V) (H : Heap) : unfold_Star.r @bdI (callA C n) n v0 v1 H = E C n 6 [] (argsA 0 [v0, v1]) H (kR C 6) := by
  unfold unfold_Star.r
  kernel_rfl
noncomputable def unfold_Star.rf (bd : B3) (call : FuncId → List V → Heap → Option R) (n : Nat) (a : List V) (H : Heap) : Option R := pureA a H fun a => (match a with | [v0, v1] => unfold_Star.r bd call n v0 v1 ⟨0, .nil⟩ | a => E C n 6 [] (argsA 0 a) ⟨0, .nil⟩ (kR C 6))
theorem unfold_Star.rf_b (n : Nat) (a : List V) (H : Heap) : (match a with | [v0, v1] => unfold_Star.r @bdI (callA C n) n v0 v1 H | a => E C n 6 [] (argsA 0 a) H (kR C 6)) = E C n 6 [] (argsA 0 a) H (kR C 6) := by
  split
  · exact unfold_Star.r_e n _ _ H
  · rfl
theorem unfold_Star.rf_e (n : Nat) (a : List V) (H : Heap) : unfold_Star.rf @bdI (callA C n) n a H = callA C (n + 1) 6 a H := by
  unfold unfold_Star.rf
  refine (congrArg (pureA a H) (funext fun a => unfold_Star.rf_b n a ⟨0, .nil⟩)).trans ?_
  kernel_rfl
@[irreducible] noncomputable def law17_Plays.l0 (n m0 : Nat) (v2 v9 v11 v12 : V) (H : Heap) : Option R := Lp C n 9 [1, 1, 1, 1, 1, 0, 1, 0, 0] m0 [(2, v2), (9, v9), (11, v11), (12, v12)] H (kB 0 (kC C n 9 [1, 1, 1, 1, 1, 1] (kR C 9)))
@[irreducible] noncomputable def law17_Plays.p1 (n : Nat) (v9 v11 : V) (H : Heap) : Option R := E C n 9 [1, 1, 1, 1, 1, 1] [(9, v9), (11, v11)] H (kR C 9)
noncomputable def law17_Plays.r_p1 (bd : B3) (call : FuncId → List V → Heap → Option R) (n : Nat) (v9 v11 : V) (H : Heap) : Option R :=
 (some (.tuple [v9, v11, (.bool true)], H))
theorem law17_Plays.r_p1_e (n : Nat) : law17_Plays.r_p1 @bdI (callA C n) n = law17_Plays.p1 n := by
  funext v9 v11 H
  unfold law17_Plays.r_p1
  kernel_rfl
noncomputable def law17_Plays.r_l0 (bd : B3) (call : FuncId → List V → Heap → Option R) (n : Nat) (s0 : V → V → V → V → Heap → Option R) (v2 v9 v11 v12 : V) (H : Heap) : Option R :=
 (bd (lenSl v2) fun t37_1 =>
 (bd (arA .lss v12 t37_1) fun t38_2 =>
 (bd (asB t38_2) fun b3 =>
 if b3 = true then
 (bd (arA .lss v12 (.int .i64 16)) fun t41_4 =>
 (bd (asB t41_4) fun b5 =>
 if b5 = true then
 (bd (idxS 5 v2 v12) fun t49_6 =>
 (bd (ldN 5 t49_6 H) fun t50_7 =>
 (bd (call 20 [v9, v11, t50_7] H) fun r8 =>
 (bd (unA .not r8.1) fun t52_9 =>
 (bd (asB t52_9) fun b10 =>
 if b10 = true then
 (some (.tuple [v9, v11, (.bool false)], r8.2))
 else
 (bd (arA .add v12 (.int .i64 1)) fun t44_11 =>
 (s0 v2 v9 v11 t44_11 r8.2)))))))
 else
 (law17_Plays.r_p1 bd call n v9 v11 H)))
 else
 (law17_Plays.r_p1 bd call n v9 v11 H))))
theorem law17_Plays.r_l0_e (n m0 : Nat) : law17_Plays.r_l0 @bdI (callA C n) n (law17_Plays.l0 n m0) = law17_Plays.l0 n (m0 + 1) := by
  funext v2 v9 v11 v12 H
  unfold law17_Plays.r_l0
  rewrite [law17_Plays.r_p1_e]
  kernel_rfl
noncomputable def law17_Plays.r_l0_lp (bd : B3) (call : FuncId → List V → Heap → Option R) (n : Nat) (m : Nat) : V → V → V → V → Heap → Option R := Nat.rec (motive := fun _ => V → V → V → V → Heap → Option R) (fun _ _ _ _ _ => none) (fun _ self => law17_Plays.r_l0 bd call n self) m
theorem law17_Plays.r_l0_lp_e (n : Nat) : law17_Plays.r_l0_lp @bdI (callA C n) n = law17_Plays.l0 n := by
  funext m
  induction m with
  | zero => funext v2 v9 v11 v12 H; kernel_rfl
  | succ k ih => exact (congrArg (law17_Plays.r_l0 @bdI (callA C n) n) ih).trans (law17_Plays.r_l0_e n k)
noncomputable def law17_Plays.r (bd : B3) (call : FuncId → List V → Heap → Option R) (n : Nat) (v0 v1 v2 : V) (H : Heap) : Option R :=
 (bd (call 17 [v0] H) fun r1 =>
 (bd (call 18 [v1] r1.2) fun r2 =>
 (bd (call 19 [r1.1, r2.1] r2.2) fun r3 =>
 (bd (extA r3.1 0) fun t21_4 =>
 (bd (extA r3.1 1) fun t22_5 =>
 (bd (flA [(0, 1), (1, 1), (2, 1)] [(.int .i64 0), (.int .i64 0), (.slice ⟨none, 0, 0, false⟩)] [(0, r1.1), (1, r2.1)]) fun t25_6 =>
 (bd (boxA ty_ref17_Engine t25_6) fun o7 =>
 (bd (eqlA P ty_p_pdt_Engine t21_4 (.ptr none)) fun t28_8 =>
 (bd (asB t28_8) fun b9 =>
 if b9 = true then
 (some (.tuple [t21_4, (.ptr (some (r3.2.n, 0))), (.bool false)], (r3.2.push o7)))
 else
 (bd (arA .neq t22_5 (.int .i64 0)) fun t31_10 =>
 (bd (asB t31_10) fun b11 =>
 if b11 = true then
 (some (.tuple [t21_4, (.ptr (some (r3.2.n, 0))), (.bool false)], (r3.2.push o7)))
 else
 (law17_Plays.r_l0_lp bd call n n v2 t21_4 (.ptr (some (r3.2.n, 0))) (.int .i64 0) (r3.2.push o7)))))))))))))
theorem law17_Plays.r_e (n : Nat) (v0 v1 v2 : V) (H : Heap) : law17_Plays.r @bdI (callA C n) n v0 v1 v2 H = E C n 9 [] (argsA 0 [v0, v1, v2]) H (kR C 9) := by
  unfold law17_Plays.r
  rewrite [law17_Plays.r_l0_lp_e]
  kernel_rfl
noncomputable def law17_Plays.rf (bd : B3) (call : FuncId → List V → Heap → Option R) (n : Nat) (a : List V) (H : Heap) : Option R := inA true a H fun a H => (match a with | [v0, v1, v2] => law17_Plays.r bd call n v0 v1 v2 H | a => E C n 9 [] (argsA 0 a) H (kR C 9))
theorem law17_Plays.rf_b (n : Nat) (a : List V) (H : Heap) : (match a with | [v0, v1, v2] => law17_Plays.r @bdI (callA C n) n v0 v1 v2 H | a => E C n 9 [] (argsA 0 a) H (kR C 9)) = E C n 9 [] (argsA 0 a) H (kR C 9) := by
  split
  · exact law17_Plays.r_e n _ _ _ H
  · rfl
theorem law17_Plays.rf_e (n : Nat) (a : List V) (H : Heap) : law17_Plays.rf @bdI (callA C n) n a H = callA C (n + 1) 9 a H := by
  unfold law17_Plays.rf
  refine (congrArg (inA true a H) (funext fun a => funext fun H => law17_Plays.rf_b n a H)).trans ?_
  kernel_rfl
@[irreducible] noncomputable def unfold_Faces.l0 (n m0 : Nat) (v1 v2 v6 v40 v41 v42 : V) (H : Heap) : Option R := Lp C n 10 [1, 1, 1, 0, 1, 0, 0] m0 [(1, v1), (2, v2), (6, v6), (40, v40), (41, v41), (42, v42)] H (kB 0 (kC C n 10 [1, 1, 1, 1] (kR C 10)))
@[irreducible] noncomputable def unfold_Faces.p1 (n : Nat) (v1 v2 v6 : V) (H : Heap) : Option R := E C n 10 [1, 1, 1, 1] [(1, v1), (2, v2), (6, v6)] H (kR C 10)
@[irreducible] noncomputable def unfold_Faces.l2 (n m0 : Nat) (v1 v2 v6 v9 v52 v53 v54 : V) (H : Heap) : Option R := Lp C n 10 [1, 1, 1, 1, 1, 0, 1, 0, 0] m0 [(1, v1), (2, v2), (6, v6), (9, v9), (52, v52), (53, v53), (54, v54)] H (kB 2 (kC C n 10 [1, 1, 1, 1, 1, 1] (kR C 10)))
@[irreducible] noncomputable def unfold_Faces.l3 (n m0 m1 : Nat) (v1 v2 v6 v9 v11 v12 v52 v53 v54 v60 v61 : V) (H : Heap) : Option R := Lp C n 10 [1, 1, 1, 1, 1, 0, 1, 0, 0, 1, 1, 0, 0, 1, 1, 0, 1, 0, 0] m1 [(1, v1), (2, v2), (6, v6), (9, v9), (11, v11), (12, v12), (52, v52), (53, v53), (54, v54), (60, v60), (61, v61)] H (kB 4 (kC C n 10 [1, 1, 1, 1, 1, 0, 1, 0, 0, 1, 1, 0, 0, 1, 1, 1] (kB 3 (kC C n 10 [1, 1, 1, 1, 1, 0, 1, 0, 0, 1, 1, 1] (kL C n 10 [1, 1, 1, 1, 1, 0, 1, 0, 0] m0 (kB 2 (kC C n 10 [1, 1, 1, 1, 1, 1] (kR C 10))))))))
@[irreducible] noncomputable def unfold_Faces.p4 (n : Nat) (v9 : V) (H : Heap) : Option R := E C n 10 [1, 1, 1, 1, 1, 1] [(9, v9)] H (kR C 10)
@[irreducible] noncomputable def unfold_Faces.p5 (n m0 : Nat) (v1 v2 v6 v9 v12 v52 v53 v54 : V) (H : Heap) : Option R := E C n 10 [1, 1, 1, 1, 1, 0, 1, 0, 0, 1, 1, 0, 0, 1, 1, 1] [(1, v1), (2, v2), (6, v6), (9, v9), (12, v12), (52, v52), (53, v53), (54, v54)] H (kB 3 (kC C n 10 [1, 1, 1, 1, 1, 0, 1, 0, 0, 1, 1, 1] (kL C n 10 [1, 1, 1, 1, 1, 0, 1, 0, 0] m0 (kB 2 (kC C n 10 [1, 1, 1, 1, 1, 1] (kR C 10))))))
noncomputable def unfold_Faces.r_p5 (bd : B3) (call : FuncId → List V → Heap → Option R) (n : Nat) (s0 : V → V → V → V → V → V → V → Heap → Option R) (v1 v2 v6 v9 v12 v52 v53 v54 : V) (H : Heap) : Option R :=
 (bd (ldN 9 v12 H) fun t96_1 =>
 (bd (call 22 [t96_1] H) fun r2 =>
 (bd (bSl 9 ty_api_Tri [(.int .i64 0), (.int .i64 0), (.int .i64 0), (.int .i64 0), (.int .i64 0), (.int .i64 0), (.int .i64 0), (.int .i64 0), (.int .i64 0)] 1 [(0, r2.1)]) fun o3 =>
 (bd (appA 9 72 ty_api_Tri v9 (.slice ⟨some (r2.2.n, 0), 1, 9, false⟩) (r2.2.push o3)) fun p4 =>
 (bd (arA .add v54 (.int .i64 1)) fun t100_5 =>
 (s0 v1 v2 v6 p4.1 v52 v53 t100_5 p4.2))))))
theorem unfold_Faces.r_p5_e (n : Nat) (m0 : Nat) : unfold_Faces.r_p5 @bdI (callA C n) n (unfold_Faces.l2 n m0) = unfold_Faces.p5 n m0 := by
  funext v1 v2 v6 v9 v12 v52 v53 v54 H
  unfold unfold_Faces.r_p5
  kernel_rfl
noncomputable def unfold_Faces.r_l3 (bd : B3) (call : FuncId → List V → Heap → Option R) (n : Nat) (s0 : V → V → V → V → V → V → V → Heap → Option R) (s1 : V → V → V → V → V → V → V → V → V → V → V → Heap → Option R) (v1 v2 v6 v9 v11 v12 v52 v53 v54 v60 v61 : V) (H : Heap) : Option R :=
 (bd (arA .lss v61 (.int .i64 3)) fun t62_1 =>
 (bd (asB t62_1) fun b2 =>
 if b2 = true then
 (bd (ix1 3 v60 v61) fun t64_3 =>
 (bd (lookM P ty_int (.agg [(.int .i64 0), (.int .i64 0), (.int .i64 0), (.int .i64 0)]) v6 t64_3 true H) fun t68_4 =>
 (bd (extA t68_4 0) fun t69_5 =>
 (bd (extA t68_4 1) fun t70_6 =>
 (bd (stA 4 (.ptr (some (H.n, 0))) t69_5 (H.push (.cells [(.int .i64 0), (.int .i64 0), (.int .i64 0), (.int .i64 0)] ty_api_Vert false))) fun H7 =>
 (bd (unA .not t70_6) fun t72_8 =>
 (bd (asB t72_8) fun b9 =>
 if b9 = true then
 (frzR (.tuple [(.slice ⟨none, 0, 0, false⟩), (.bool false)]) H7)
 else
 (bd (ldN 4 (.ptr (some (H.n, 0))) (H7.more 0)) fun t76_10 =>
 (bd (faA 1 v11) fun t78_11 =>
 (bd (faA 3 t78_11) fun t79_12 =>
 (bd (idxP 3 2 t79_12 v61) fun t80_13 =>
 (bd (ldN 2 t80_13 (H7.more 0)) fun t81_14 =>
 (bd (faA 0 v2) fun t82_15 =>
 (bd (ld1 t82_15 (H7.more 0)) fun t83_16 =>
 (bd (arA .quo t83_16 v1) fun t85_17 =>
 (bd (call 21 [t76_10, t81_14, t85_17, v1] (H7.more 0)) fun r18 =>
 (bd (extA r18.1 0) fun t88_19 =>
 (bd (faA 0 v12) fun t90_20 =>
 (bd (idxP 3 1 t90_20 v61) fun t91_21 =>
 (bd (stA 1 t91_21 t88_19 r18.2) fun H22 =>
 (bd (extA r18.1 1) fun t89_23 =>
 (bd (faA 3 v12) fun t92_24 =>
 (bd (idxP 3 2 t92_24 v61) fun t93_25 =>
 (bd (stA 2 t93_25 t89_23 H22) fun H26 =>
 (bd (arA .add v61 (.int .i64 1)) fun t94_27 =>
 (s1 v1 v2 v6 v9 v11 v12 v52 v53 v54 v60 t94_27 H26))))))))))))))))))))))))))
 else
 (unfold_Faces.r_p5 bd call n s0 v1 v2 v6 v9 v12 v52 v53 v54 H)))
theorem unfold_Faces.r_l3_e (n m0 m1 : Nat) : unfold_Faces.r_l3 @bdI (callA C n) n (unfold_Faces.l2 n m0) (unfold_Faces.l3 n m0 m1) = unfold_Faces.l3 n m0 (m1 + 1) := by
  funext v1 v2 v6 v9 v11 v12 v52 v53 v54 v60 v61 H
  unfold unfold_Faces.r_l3
  rewrite [unfold_Faces.r_p5_e]
  kernel_rfl
noncomputable def unfold_Faces.r_l3_lp (bd : B3) (call : FuncId → List V → Heap → Option R) (n : Nat) (s0 : V → V → V → V → V → V → V → Heap → Option R) (m : Nat) : V → V → V → V → V → V → V → V → V → V → V → Heap → Option R := Nat.rec (motive := fun _ => V → V → V → V → V → V → V → V → V → V → V → Heap → Option R) (fun _ _ _ _ _ _ _ _ _ _ _ _ => none) (fun _ self => unfold_Faces.r_l3 bd call n s0 self) m
theorem unfold_Faces.r_l3_lp_e (n m0 : Nat) : unfold_Faces.r_l3_lp @bdI (callA C n) n (unfold_Faces.l2 n m0) = unfold_Faces.l3 n m0 := by
  funext m
  induction m with
  | zero => funext v1 v2 v6 v9 v11 v12 v52 v53 v54 v60 v61 H; kernel_rfl
  | succ k ih => exact (congrArg (unfold_Faces.r_l3 @bdI (callA C n) n (unfold_Faces.l2 n m0)) ih).trans (unfold_Faces.r_l3_e n m0 k)
noncomputable def unfold_Faces.r_p4 (bd : B3) (call : FuncId → List V → Heap → Option R) (n : Nat) (v9 : V) (H : Heap) : Option R :=
 (bd (call 23 [v9, (.func (.func 24) [] [])] H) fun r1 =>
 (bd (call 25 [v9] r1.2) fun r2 =>
 (frzR (.tuple [r2.1, (.bool true)]) r2.2)))
theorem unfold_Faces.r_p4_e (n : Nat) : unfold_Faces.r_p4 @bdI (callA C n) n = unfold_Faces.p4 n := by
  funext v9 H
  unfold unfold_Faces.r_p4
  kernel_rfl
noncomputable def unfold_Faces.r_l2 (bd : B3) (call : FuncId → List V → Heap → Option R) (n : Nat) (s0 : V → V → V → V → V → V → V → Heap → Option R) (v1 v2 v6 v9 v52 v53 v54 : V) (H : Heap) : Option R :=
 (bd (arA .lss v54 v53) fun t55_1 =>
 (bd (asB t55_1) fun b2 =>
 if b2 = true then
 (bd (idxS 10 v52 v54) fun t56_3 =>
 (bd (ldN 10 t56_3 H) fun t57_4 =>
 (bd (stA 10 (.ptr (some (H.n, 0))) t57_4 (H.push (.cells [(.int .i64 0), (.int .i64 0), (.int .i64 0), (.int .i64 0), (.int .i64 0), (.int .i64 0), (.int .i64 0), (.int .i64 0), (.int .i64 0), (.int .i64 0)] ty_api_Cell false))) fun H5 =>
 (bd (faA 1 (.ptr (some (H.n, 0)))) fun t58_6 =>
 (bd (faA 0 t58_6) fun t59_7 =>
 (bd (ldN 3 t59_7 (H5.push (.cells [(.int .i64 0), (.int .i64 0), (.int .i64 0), (.int .i64 0), (.int .i64 0), (.int .i64 0), (.int .i64 0), (.int .i64 0), (.int .i64 0)] ty_api_Tri false))) fun t60_8 =>
 (unfold_Faces.r_l3_lp bd call n s0 n v1 v2 v6 v9 (.ptr (some (H.n, 0))) (.ptr (some (H5.n, 0))) v52 v53 v54 t60_8 (.int .i64 0) (H5.push (.cells [(.int .i64 0), (.int .i64 0), (.int .i64 0), (.int .i64 0), (.int .i64 0), (.int .i64 0), (.int .i64 0), (.int .i64 0), (.int .i64 0)] ty_api_Tri false)))))))))
 else
 (unfold_Faces.r_p4 bd call n v9 H)))
theorem unfold_Faces.r_l2_e (n m0 : Nat) : unfold_Faces.r_l2 @bdI (callA C n) n (unfold_Faces.l2 n m0) = unfold_Faces.l2 n (m0 + 1) := by
  funext v1 v2 v6 v9 v52 v53 v54 H
  unfold unfold_Faces.r_l2
  rewrite [unfold_Faces.r_l3_lp_e]
  rewrite [unfold_Faces.r_p4_e]
  kernel_rfl
noncomputable def unfold_Faces.r_l2_lp (bd : B3) (call : FuncId → List V → Heap → Option R) (n : Nat) (m : Nat) : V → V → V → V → V → V → V → Heap → Option R := Nat.rec (motive := fun _ => V → V → V → V → V → V → V → Heap → Option R) (fun _ _ _ _ _ _ _ _ => none) (fun _ self => unfold_Faces.r_l2 bd call n self) m
theorem unfold_Faces.r_l2_lp_e (n : Nat) : unfold_Faces.r_l2_lp @bdI (callA C n) n = unfold_Faces.l2 n := by
  funext m
  induction m with
  | zero => funext v1 v2 v6 v9 v52 v53 v54 H; kernel_rfl
  | succ k ih => exact (congrArg (unfold_Faces.r_l2 @bdI (callA C n) n) ih).trans (unfold_Faces.r_l2_e n k)
noncomputable def unfold_Faces.r_p1 (bd : B3) (call : FuncId → List V → Heap → Option R) (n : Nat) (v1 v2 v6 : V) (H : Heap) : Option R :=
 (bd (faA 2 v2) fun t51_1 =>
 (bd (ld1 t51_1 H) fun t52_2 =>
 (bd (lenSl t52_2) fun t53_3 =>
 (unfold_Faces.r_l2_lp bd call n n v1 v2 v6 (.slice ⟨none, 0, 0, false⟩) t52_2 t53_3 (.int .i64 0) H))))
theorem unfold_Faces.r_p1_e (n : Nat) : unfold_Faces.r_p1 @bdI (callA C n) n = unfold_Faces.p1 n := by
  funext v1 v2 v6 H
  unfold unfold_Faces.r_p1
  rewrite [unfold_Faces.r_l2_lp_e]
  kernel_rfl
noncomputable def unfold_Faces.r_l0 (bd : B3) (call : FuncId → List V → Heap → Option R) (n : Nat) (s0 : V → V → V → V → V → V → Heap → Option R) (v1 v2 v6 v40 v41 v42 : V) (H : Heap) : Option R :=
 (bd (arA .lss v42 v41) fun t43_1 =>
 (bd (asB t43_1) fun b2 =>
 if b2 = true then
 (bd (idxS 4 v40 v42) fun t44_3 =>
 (bd (ldN 4 t44_3 H) fun t45_4 =>
 (bd (stA 4 (.ptr (some (H.n, 0))) t45_4 (H.push (.cells [(.int .i64 0), (.int .i64 0), (.int .i64 0), (.int .i64 0)] ty_api_Vert false))) fun H5 =>
 (bd (faA 0 (.ptr (some (H.n, 0)))) fun t47_6 =>
 (bd (ld1 t47_6 H5) fun t48_7 =>
 (bd (ldN 4 (.ptr (some (H.n, 0))) H5) fun t49_8 =>
 (bd (updM P ty_int v6 t48_7 t49_8 H5) fun H9 =>
 (bd (arA .add v42 (.int .i64 1)) fun t50_10 =>
 (s0 v1 v2 v6 v40 v41 t50_10 H9)))))))))
 else
 (unfold_Faces.r_p1 bd call n v1 v2 v6 H)))
theorem unfold_Faces.r_l0_e (n m0 : Nat) : unfold_Faces.r_l0 @bdI (callA C n) n (unfold_Faces.l0 n m0) = unfold_Faces.l0 n (m0 + 1) := by
  funext v1 v2 v6 v40 v41 v42 H
  unfold unfold_Faces.r_l0
  rewrite [unfold_Faces.r_p1_e]
  kernel_rfl
noncomputable def unfold_Faces.r_l0_lp (bd : B3) (call : FuncId → List V → Heap → Option R) (n : Nat) (m : Nat) : V → V → V → V → V → V → Heap → Option R := Nat.rec (motive := fun _ => V → V → V → V → V → V → Heap → Option R) (fun _ _ _ _ _ _ _ => none) (fun _ self => unfold_Faces.r_l0 bd call n self) m
theorem unfold_Faces.r_l0_lp_e (n : Nat) : unfold_Faces.r_l0_lp @bdI (callA C n) n = unfold_Faces.l0 n := by
  funext m
  induction m with
  | zero => funext v1 v2 v6 v40 v41 v42 H; kernel_rfl
  | succ k ih => exact (congrArg (unfold_Faces.r_l0 @bdI (callA C n) n) ih).trans (unfold_Faces.r_l0_e n k)
noncomputable def unfold_Faces.r (bd : B3) (call : FuncId → List V → Heap → Option R) (n : Nat) (v0 v1 : V) (H : Heap) : Option R :=
 (bd (boxA ty_api_Dump v0) fun o1 =>
 (bd (arA .lss v1 (.int .i64 1)) fun t18_2 =>
 (bd (asB t18_2) fun b3 =>
 if b3 = true then
 (frzR (.tuple [(.slice ⟨none, 0, 0, false⟩), (.bool false)]) (H.push o1))
 else
 (bd (faA 0 (.ptr (some (H.n, 0)))) fun t20_4 =>
 (bd (ld1 t20_4 (H.push o1)) fun t21_5 =>
 (bd (arA .neq t21_5 v1) fun t23_6 =>
 (bd (asB t23_6) fun b7 =>
 if b7 = true then
 (bd (faA 0 (.ptr (some (H.n, 0)))) fun t25_8 =>
 (bd (ld1 t25_8 (H.push o1)) fun t26_9 =>
 (bd (arA .rem t26_9 (.int .i64 3)) fun t27_10 =>
 (bd (arA .neq t27_10 (.int .i64 0)) fun t28_11 =>
 (bd (asB t28_11) fun b12 =>
 if b12 = true then
 (frzR (.tuple [(.slice ⟨none, 0, 0, false⟩), (.bool false)]) (H.push o1))
 else
 (bd (faA 0 (.ptr (some (H.n, 0)))) fun t30_13 =>
 (bd (ld1 t30_13 (H.push o1)) fun t31_14 =>
 (bd (arA .quo t31_14 (.int .i64 3)) fun t32_15 =>
 (bd (arA .neq t32_15 v1) fun t34_16 =>
 (bd (asB t34_16) fun b17 =>
 if b17 = true then
 (frzR (.tuple [(.slice ⟨none, 0, 0, false⟩), (.bool false)]) (H.push o1))
 else
 (bd (faA 1 (.ptr (some (H.n, 0)))) fun t39_18 =>
 (bd (ld1 t39_18 ((H.push o1).push (.map [] 0))) fun t40_19 =>
 (bd (lenSl t40_19) fun t41_20 =>
 (unfold_Faces.r_l0_lp bd call n n v1 (.ptr (some (H.n, 0))) (.map (some (H.push o1).n)) t40_19 t41_20 (.int .i64 0) ((H.push o1).push (.map [] 0))))))))))))))))
 else
 (bd (faA 1 (.ptr (some (H.n, 0)))) fun t39_21 =>
 (bd (ld1 t39_21 ((H.push o1).push (.map [] 0))) fun t40_22 =>
 (bd (lenSl t40_22) fun t41_23 =>
 (unfold_Faces.r_l0_lp bd call n n v1 (.ptr (some (H.n, 0))) (.map (some (H.push o1).n)) t40_22 t41_23 (.int .i64 0) ((H.push o1).push (.map [] 0)))))))))))))
theorem unfold_Faces.r_e (n : Nat) (v0 v1 : V) (H : Heap) : unfold_Faces.r @bdI (callA C n) n v0 v1 H = E C n 10 [] (argsA 0 [v0, v1]) H (kR C 10) := by
  unfold unfold_Faces.r
  rewrite [unfold_Faces.r_l0_lp_e]
  kernel_rfl
noncomputable def unfold_Faces.rf (bd : B3) (call : FuncId → List V → Heap → Option R) (n : Nat) (a : List V) (H : Heap) : Option R := inA true a H fun a H => (match a with | [v0, v1] => unfold_Faces.r bd call n v0 v1 H | a => E C n 10 [] (argsA 0 a) H (kR C 10))
theorem unfold_Faces.rf_b (n : Nat) (a : List V) (H : Heap) : (match a with | [v0, v1] => unfold_Faces.r @bdI (callA C n) n v0 v1 H | a => E C n 10 [] (argsA 0 a) H (kR C 10)) = E C n 10 [] (argsA 0 a) H (kR C 10) := by
  split
  · exact unfold_Faces.r_e n _ _ H
  · rfl
theorem unfold_Faces.rf_e (n : Nat) (a : List V) (H : Heap) : unfold_Faces.rf @bdI (callA C n) n a H = callA C (n + 1) 10 a H := by
  unfold unfold_Faces.rf
  refine (congrArg (inA true a H) (funext fun a => funext fun H => unfold_Faces.rf_b n a H)).trans ?_
  kernel_rfl
noncomputable def pdt_Engine_Dump.r (bd : B3) (call : FuncId → List V → Heap → Option R) (n : Nat) (v0 : V) (H : Heap) : Option R :=
 (bd (eqlA P ty_p_pdt_Engine v0 (.ptr none)) fun t4_1 =>
 (bd (asB t4_1) fun b2 =>
 if b2 = true then
 (bd (flA [(0, 1), (1, 1), (2, 1)] [(.int .i64 0), (.slice ⟨none, 0, 0, false⟩), (.slice ⟨none, 0, 0, false⟩)] []) fun t5_3 =>
 (bd (stA 3 (.ptr (some (H.n, 0))) t5_3 (H.push (.cells [(.int .i64 0), (.slice ⟨none, 0, 0, false⟩), (.slice ⟨none, 0, 0, false⟩)] ty_api_Dump false))) fun H4 =>
 (bd (ldN 3 (.ptr (some (H.n, 0))) H4) fun t5 =>
 (frzR t5 H4))))
 else
 (bd (nilC v0) fun t7_6 =>
 (bd (faA 6 t7_6) fun t8_7 =>
 (bd (ld1 t8_7 (H.push (.cells [(.int .i64 0), (.slice ⟨none, 0, 0, false⟩), (.slice ⟨none, 0, 0, false⟩)] ty_api_Dump false))) fun t9_8 =>
 (bd (nilC t9_8) fun t10_9 =>
 (bd (faA 0 t10_9) fun t11_10 =>
 (bd (ld1 t11_10 (H.push (.cells [(.int .i64 0), (.slice ⟨none, 0, 0, false⟩), (.slice ⟨none, 0, 0, false⟩)] ty_api_Dump false))) fun t12_11 =>
 (bd (call 26 [t12_11] (H.push (.cells [(.int .i64 0), (.slice ⟨none, 0, 0, false⟩), (.slice ⟨none, 0, 0, false⟩)] ty_api_Dump false))) fun r12 =>
 (bd (stA 3 (.ptr (some (H.n, 0))) r12.1 r12.2) fun H13 =>
 (bd (ldN 3 (.ptr (some (H.n, 0))) H13) fun t14 =>
 (frzR t14 H13))))))))))))
theorem pdt_Engine_Dump.r_e (n : Nat) (v0 : V) (H : Heap) : pdt_Engine_Dump.r @bdI (callA C n) n v0 H = E C n 11 [] (argsA 0 [v0]) H (kR C 11) := by
  unfold pdt_Engine_Dump.r
  kernel_rfl
noncomputable def pdt_Engine_Dump.rf (bd : B3) (call : FuncId → List V → Heap → Option R) (n : Nat) (a : List V) (H : Heap) : Option R := (match a with | [v0] => pdt_Engine_Dump.r bd call n v0 H | a => E C n 11 [] (argsA 0 a) H (kR C 11))
theorem pdt_Engine_Dump.rf_b (n : Nat) (a : List V) (H : Heap) : (match a with | [v0] => pdt_Engine_Dump.r @bdI (callA C n) n v0 H | a => E C n 11 [] (argsA 0 a) H (kR C 11)) = E C n 11 [] (argsA 0 a) H (kR C 11) := by
  split
  · exact pdt_Engine_Dump.r_e n _ H
  · rfl
theorem pdt_Engine_Dump.rf_e (n : Nat) (a : List V) (H : Heap) : pdt_Engine_Dump.rf @bdI (callA C n) n a H = callA C (n + 1) 11 a H := by
  unfold pdt_Engine_Dump.rf
  refine (pdt_Engine_Dump.rf_b n a H).trans ?_
  kernel_rfl
@[irreducible] noncomputable def unfold_Holds.l0 (n m0 : Nat) (v0 v1 v2 v7 v8 v41 v42 v43 : V) (H : Heap) : Option R := Lp C n 12 [1, 1, 1, 1, 0, 1, 0, 0] m0 [(0, v0), (1, v1), (2, v2), (7, v7), (8, v8), (41, v41), (42, v42), (43, v43)] H (kB 0 (kC C n 12 [1, 1, 1, 1, 1] (kR C 12)))
@[irreducible] noncomputable def unfold_Holds.p1 (n : Nat) (v0 v1 v2 v7 : V) (H : Heap) : Option R := E C n 12 [1, 1, 1, 1, 1] [(0, v0), (1, v1), (2, v2), (7, v7)] H (kR C 12)
@[irreducible] noncomputable def unfold_Holds.l2 (n m0 : Nat) (v7 v87 v88 v89 : V) (H : Heap) : Option R := Lp C n 12 [1, 1, 1, 1, 1, 1, 0, 1, 0, 0] m0 [(7, v7), (87, v87), (88, v88), (89, v89)] H (kB 2 (kC C n 12 [1, 1, 1, 1, 1, 1, 1] (kR C 12)))
@[irreducible] noncomputable def unfold_Holds.l3 (n m0 m1 : Nat) (v7 v12 v87 v88 v89 v93 : V) (H : Heap) : Option R := Lp C n 12 [1, 1, 1, 1, 1, 1, 0, 1, 0, 0, 1, 1, 0, 0, 1, 1, 0, 0] m1 [(7, v7), (12, v12), (87, v87), (88, v88), (89, v89), (93, v93)] H (kB 4 (kB 3 (kC C n 12 [1, 1, 1, 1, 1, 1, 0, 1, 0, 0, 1, 1, 1] (kL C n 12 [1, 1, 1, 1, 1, 1, 0, 1, 0, 0] m0 (kB 2 (kC C n 12 [1, 1, 1, 1, 1, 1, 1] (kR C 12)))))))
noncomputable def unfold_Holds.r_l3 (bd : B3) (call : FuncId → List V → Heap → Option R) (n : Nat) (s0 : V → V → V → V → Heap → Option R) (s1 : V → V → V → V → V → V → Heap → Option R) (v7 v12 v87 v88 v89 v93 : V) (H : Heap) : Option R :=
 (bd (arA .lss v93 (.int .i64 3)) fun t94_1 =>
 (bd (asB t94_1) fun b2 =>
 if b2 = true then
 (bd (ldN 9 v12 H) fun t97_3 =>
 (bd (call 30 [v7, t97_3, v93] H) fun r4 =>
 (bd (unA .not r4.1) fun t100_5 =>
 (bd (asB t100_5) fun b6 =>
 if b6 = true then
 (some ((.bool false), r4.2))
 else
 (bd (arA .add v93 (.int .i64 1)) fun t101_7 =>
 (s1 v7 v12 v87 v88 v89 t101_7 r4.2))))))
 else
 (bd (arA .add v89 (.int .i64 1)) fun t102_8 =>
 (s0 v7 v87 v88 t102_8 H))))
theorem unfold_Holds.r_l3_e (n m0 m1 : Nat) : unfold_Holds.r_l3 @bdI (callA C n) n (unfold_Holds.l2 n m0) (unfold_Holds.l3 n m0 m1) = unfold_Holds.l3 n m0 (m1 + 1) := by
  funext v7 v12 v87 v88 v89 v93 H
  unfold unfold_Holds.r_l3
  kernel_rfl
noncomputable def unfold_Holds.r_l3_lp (bd : B3) (call : FuncId → List V → Heap → Option R) (n : Nat) (s0 : V → V → V → V → Heap → Option R) (m : Nat) : V → V → V → V → V → V → Heap → Option R := Nat.rec (motive := fun _ => V → V → V → V → V → V → Heap → Option R) (fun _ _ _ _ _ _ _ => none) (fun _ self => unfold_Holds.r_l3 bd call n s0 self) m
theorem unfold_Holds.r_l3_lp_e (n m0 : Nat) : unfold_Holds.r_l3_lp @bdI (callA C n) n (unfold_Holds.l2 n m0) = unfold_Holds.l3 n m0 := by
  funext m
  induction m with
  | zero => funext v7 v12 v87 v88 v89 v93 H; kernel_rfl
  | succ k ih => exact (congrArg (unfold_Holds.r_l3 @bdI (callA C n) n (unfold_Holds.l2 n m0)) ih).trans (unfold_Holds.r_l3_e n m0 k)
noncomputable def unfold_Holds.r_l2 (bd : B3) (call : FuncId → List V → Heap → Option R) (n : Nat) (s0 : V → V → V → V → Heap → Option R) (v7 v87 v88 v89 : V) (H : Heap) : Option R :=
 (bd (arA .lss v89 v88) fun t90_1 =>
 (bd (asB t90_1) fun b2 =>
 if b2 = true then
 (bd (idxS 9 v87 v89) fun t91_3 =>
 (bd (ldN 9 t91_3 H) fun t92_4 =>
 (bd (stA 9 (.ptr (some (H.n, 0))) t92_4 (H.push (.cells [(.int .i64 0), (.int .i64 0), (.int .i64 0), (.int .i64 0), (.int .i64 0), (.int .i64 0), (.int .i64 0), (.int .i64 0), (.int .i64 0)] ty_api_Tri false))) fun H5 =>
 (unfold_Holds.r_l3_lp bd call n s0 n v7 (.ptr (some (H.n, 0))) v87 v88 v89 (.int .i64 0) H5))))
 else
 (some ((.bool true), H))))
theorem unfold_Holds.r_l2_e (n m0 : Nat) : unfold_Holds.r_l2 @bdI (callA C n) n (unfold_Holds.l2 n m0) = unfold_Holds.l2 n (m0 + 1) := by
  funext v7 v87 v88 v89 H
  unfold unfold_Holds.r_l2
  rewrite [unfold_Holds.r_l3_lp_e]
  kernel_rfl
noncomputable def unfold_Holds.r_l2_lp (bd : B3) (call : FuncId → List V → Heap → Option R) (n : Nat) (m : Nat) : V → V → V → V → Heap → Option R := Nat.rec (motive := fun _ => V → V → V → V → Heap → Option R) (fun _ _ _ _ _ => none) (fun _ self => unfold_Holds.r_l2 bd call n self) m
theorem unfold_Holds.r_l2_lp_e (n : Nat) : unfold_Holds.r_l2_lp @bdI (callA C n) n = unfold_Holds.l2 n := by
  funext m
  induction m with
  | zero => funext v7 v87 v88 v89 H; kernel_rfl
  | succ k ih => exact (congrArg (unfold_Holds.r_l2 @bdI (callA C n) n) ih).trans (unfold_Holds.r_l2_e n k)
noncomputable def unfold_Holds.r_p1 (bd : B3) (call : FuncId → List V → Heap → Option R) (n : Nat) (v0 v1 v2 v7 : V) (H : Heap) : Option R :=
 (bd (lenSl v0) fun t74_1 =>
 (bd (arA .gtr t74_1 (.int .i64 0)) fun t75_2 =>
 (bd (asB t75_2) fun b3 =>
 if b3 = true then
 (bd (arA .mul (.int .i64 2) v2) fun t83_4 =>
 (bd (call 29 [v2, t83_4] (H.more 0)) fun r5 =>
 (bd (nilC v7) fun t78_6 =>
 (bd (faA 3 t78_6) fun t79_7 =>
 (bd (ldN 2 t79_7 r5.2) fun t80_8 =>
 (bd (chk (ldN 2 t79_7 (H.more 0)) t80_8) fun _ =>
 (bd (neqA P ty_api_Wide t80_8 r5.1) fun t85_9 =>
 (bd (asB t85_9) fun b10 =>
 if b10 = true then
 (some ((.bool false), r5.2))
 else
 (bd (lenSl v1) fun t88_11 =>
 (unfold_Holds.r_l2_lp bd call n n v7 v1 t88_11 (.int .i64 0) r5.2))))))))))
 else
 (bd (lenSl v1) fun t88_12 =>
 (unfold_Holds.r_l2_lp bd call n n v7 v1 t88_12 (.int .i64 0) (H.more 0))))))
theorem unfold_Holds.r_p1_e (n : Nat) : unfold_Holds.r_p1 @bdI (callA C n) n = unfold_Holds.p1 n := by
  funext v0 v1 v2 v7 H
  unfold unfold_Holds.r_p1
  rewrite [unfold_Holds.r_l2_lp_e]
  kernel_rfl
noncomputable def unfold_Holds.r_l0 (bd : B3) (call : FuncId → List V → Heap → Option R) (n : Nat) (s0 : V → V → V → V → V → V → V → V → Heap → Option R) (v0 v1 v2 v7 v8 v41 v42 v43 : V) (H : Heap) : Option R :=
 (bd (arA .lss v43 v42) fun t44_1 =>
 (bd (asB t44_1) fun b2 =>
 if b2 = true then
 (bd (idxS 9 v41 v43) fun t46_3 =>
 (bd (ldN 9 t46_3 H) fun t47_4 =>
 (bd (stA 9 (.ptr (some (H.n, 0))) t47_4 (H.push (.cells [(.int .i64 0), (.int .i64 0), (.int .i64 0), (.int .i64 0), (.int .i64 0), (.int .i64 0), (.int .i64 0), (.int .i64 0), (.int .i64 0)] ty_api_Tri false))) fun H5 =>
 (bd (ldN 9 (.ptr (some (H.n, 0))) (H5.more 0)) fun t48_6 =>
 (bd (call 22 [t48_6] (H5.more 0)) fun r7 =>
 (bd (ldN 9 (.ptr (some (H.n, 0))) r7.2) fun t50_8 =>
 (bd (chk (ldN 9 (.ptr (some (H.n, 0))) (H5.more 0)) t50_8) fun _ =>
 (bd (neqA P ty_api_Tri r7.1 t50_8) fun t51_9 =>
 (bd (asB t51_9) fun b10 =>
 if b10 = true then
 (some ((.bool false), r7.2))
 else
 (bd (arA .gtr v43 (.int .i64 0)) fun t54_11 =>
 (bd (asB t54_11) fun b12 =>
 if b12 = true then
 (bd (arA .sub v43 (.int .i64 1)) fun t58_13 =>
 (bd (idxS 9 v1 t58_13) fun t59_14 =>
 (bd (ldN 9 t59_14 r7.2) fun t60_15 =>
 (bd (ldN 9 (.ptr (some (H.n, 0))) r7.2) fun t61_16 =>
 (bd (call 24 [t60_15, t61_16] r7.2) fun r17 =>
 (bd (arA .geq r17.1 (.int .i64 0)) fun t63_18 =>
 (bd (asB t63_18) fun b19 =>
 if b19 = true then
 (some ((.bool false), r17.2))
 else
 (bd (ldN 9 (.ptr (some (H.n, 0))) r17.2) fun t68_20 =>
 (bd (callV call v8 [t68_20] r17.2) fun r21 =>
 (bd (unA .not r21.1) fun t70_22 =>
 (bd (asB t70_22) fun b23 =>
 if b23 = true then
 (some ((.bool false), r21.2))
 else
 (bd (arA .add v43 (.int .i64 1)) fun t72_24 =>
 (s0 v0 v1 v2 v7 v8 v41 v42 t72_24 r21.2)))))))))))))
 else
 (bd (ldN 9 (.ptr (some (H.n, 0))) r7.2) fun t68_25 =>
 (bd (callV call v8 [t68_25] r7.2) fun r26 =>
 (bd (unA .not r26.1) fun t70_27 =>
 (bd (asB t70_27) fun b28 =>
 if b28 = true then
 (some ((.bool false), r26.2))
 else
 (bd (arA .add v43 (.int .i64 1)) fun t72_29 =>
 (s0 v0 v1 v2 v7 v8 v41 v42 t72_29 r26.2)))))))))))))))))
 else
 (unfold_Holds.r_p1 bd call n v0 v1 v2 v7 H)))
theorem unfold_Holds.r_l0_e (n m0 : Nat) : unfold_Holds.r_l0 @bdI (callA C n) n (unfold_Holds.l0 n m0) = unfold_Holds.l0 n (m0 + 1) := by
  funext v0 v1 v2 v7 v8 v41 v42 v43 H
  unfold unfold_Holds.r_l0
  rewrite [unfold_Holds.r_p1_e]
  kernel_rfl
noncomputable def unfold_Holds.r_l0_lp (bd : B3) (call : FuncId → List V → Heap → Option R) (n : Nat) (m : Nat) : V → V → V → V → V → V → V → V → Heap → Option R := Nat.rec (motive := fun _ => V → V → V → V → V → V → V → V → Heap → Option R) (fun _ _ _ _ _ _ _ _ _ => none) (fun _ self => unfold_Holds.r_l0 bd call n self) m
theorem unfold_Holds.r_l0_lp_e (n : Nat) : unfold_Holds.r_l0_lp @bdI (callA C n) n = unfold_Holds.l0 n := by
  funext m
  induction m with
  | zero => funext v0 v1 v2 v7 v8 v41 v42 v43 H; kernel_rfl
  | succ k ih => exact (congrArg (unfold_Holds.r_l0 @bdI (callA C n) n) ih).trans (unfold_Holds.r_l0_e n k)
noncomputable def unfold_Holds.r (bd : B3) (call : FuncId → List V → Heap → Option R) (n : Nat) (v0 v1 v2 : V) (H : Heap) : Option R :=
 (bd (flA [(0, 1), (1, 1), (2, 1), (3, 2)] [(.int .i64 0), (.map none), (.map none), (.int .i64 0), (.int .u64 0)] [(0, v2), (1, (.map (some H.n))), (2, (.map (some (H.push (.map [] 0)).n)))]) fun t17_1 =>
 (bd (boxA ty_unfold_judge t17_1) fun o2 =>
 (bd (arA .lss v2 (.int .i64 1)) fun t20_3 =>
 (bd (asB t20_3) fun b4 =>
 if b4 = true then
 (some ((.bool false), (((H.push (.map [] 0)).push (.map [] 0)).push o2)))
 else
 (bd (arA .gtr v2 (.int .i64 1073741824)) fun t23_5 =>
 (bd (asB t23_5) fun b6 =>
 if b6 = true then
 (some ((.bool false), (((H.push (.map [] 0)).push (.map [] 0)).push o2)))
 else
 (bd (call 27 [(.ptr (some (((H.push (.map [] 0)).push (.map [] 0)).n, 0))), v0] (((H.push (.map [] 0)).push (.map [] 0)).push o2)) fun r7 =>
 (bd (unA .not r7.1) fun t29_8 =>
 (bd (asB t29_8) fun b9 =>
 if b9 = true then
 (some ((.bool false), r7.2))
 else
 (bd (lenSl v1) fun t33_10 =>
 (bd (lenSl v0) fun t35_11 =>
 (bd (arA .mul (.int .i64 2) t35_11) fun t36_12 =>
 (bd (arA .neq t33_10 t36_12) fun t37_13 =>
 (bd (asB t37_13) fun b14 =>
 if b14 = true then
 (some ((.bool false), r7.2))
 else
 (bd (lenSl v1) fun t42_15 =>
 (unfold_Holds.r_l0_lp bd call n n v0 v1 v2 (.ptr (some (((H.push (.map [] 0)).push (.map [] 0)).n, 0))) (.func (.func 28) [(.ptr (some (((H.push (.map [] 0)).push (.map [] 0)).n, 0)))] []) v1 t42_15 (.int .i64 0) r7.2))))))))))))))))
theorem unfold_Holds.r_e (n : Nat) (v0 v1 v2 : V) (H : Heap) : unfold_Holds.r @bdI (callA C n) n v0 v1 v2 H = E C n 12 [] (argsA 0 [v0, v1, v2]) H (kR C 12) := by
  unfold unfold_Holds.r
  rewrite [unfold_Holds.r_l0_lp_e]
  kernel_rfl
noncomputable def unfold_Holds.rf (bd : B3) (call : FuncId → List V → Heap → Option R) (n : Nat) (a : List V) (H : Heap) : Option R := pureA a H fun a => (match a with | [v0, v1, v2] => unfold_Holds.r bd call n v0 v1 v2 ⟨0, .nil⟩ | a => E C n 12 [] (argsA 0 a) ⟨0, .nil⟩ (kR C 12))
theorem unfold_Holds.rf_b (n : Nat) (a : List V) (H : Heap) : (match a with | [v0, v1, v2] => unfold_Holds.r @bdI (callA C n) n v0 v1 v2 H | a => E C n 12 [] (argsA 0 a) H (kR C 12)) = E C n 12 [] (argsA 0 a) H (kR C 12) := by
  split
  · exact unfold_Holds.r_e n _ _ _ H
  · rfl
theorem unfold_Holds.rf_e (n : Nat) (a : List V) (H : Heap) : unfold_Holds.rf @bdI (callA C n) n a H = callA C (n + 1) 12 a H := by
  unfold unfold_Holds.rf
  refine (congrArg (pureA a H) (funext fun a => unfold_Holds.rf_b n a ⟨0, .nil⟩)).trans ?_
  kernel_rfl
@[irreducible] noncomputable def pdt_Engine_Sites.l0 (n m0 : Nat) (v3 v12 : V) (H : Heap) : Option R := Lp C n 13 [1, 1, 1, 0, 1, 0, 0] m0 [(3, v3), (12, v12)] H (kB 0 (kC C n 13 [1, 1, 1, 1] (kR C 13)))
@[irreducible] noncomputable def pdt_Engine_Sites.p1 (n : Nat) (v3 : V) (H : Heap) : Option R := E C n 13 [1, 1, 1, 1] [(3, v3)] H (kR C 13)
noncomputable def pdt_Engine_Sites.r_p1 (bd : B3) (call : FuncId → List V → Heap → Option R) (n : Nat) (v3 : V) (H : Heap) : Option R :=
 (bd (call 31 [v3, (.func (.func 32) [] [])] H) fun r1 =>
 (frzR v3 r1.2))
theorem pdt_Engine_Sites.r_p1_e (n : Nat) : pdt_Engine_Sites.r_p1 @bdI (callA C n) n = pdt_Engine_Sites.p1 n := by
  funext v3 H
  unfold pdt_Engine_Sites.r_p1
  kernel_rfl
noncomputable def pdt_Engine_Sites.r_l0 (bd : B3) (call : FuncId → List V → Heap → Option R) (n : Nat) (s0 : V → V → Heap → Option R) (v3 v12 : V) (H : Heap) : Option R :=
 (bd (nextA v12 false H) fun p1 =>
 (bd (extA p1.1 0) fun t14_2 =>
 (bd (asB t14_2) fun b3 =>
 if b3 = true then
 (bd (entryA v12 p1.2) fun t15_4 =>
 (bd (extA t15_4 0) fun t16_5 =>
 (bd (extA t15_4 1) fun t17_6 =>
 (bd (stA 2 (.ptr (some (p1.2.n, 0))) t17_6 (p1.2.push (.cells [(.int .i64 0), (.int .i64 0)] ty_api_Point false))) fun H7 =>
 (bd (ldN 2 (.ptr (some (p1.2.n, 0))) H7) fun t20_8 =>
 (bd (flA [(0, 1), (1, 2)] [(.int .i64 0), (.int .i64 0), (.int .i64 0)] [(0, t16_5), (1, t20_8)]) fun t21_9 =>
 (bd (bSl 3 ty_api_Place [(.int .i64 0), (.int .i64 0), (.int .i64 0)] 1 [(0, t21_9)]) fun o10 =>
 (bd (appA 3 24 ty_api_Place v3 (.slice ⟨some (H7.n, 0), 1, 3, false⟩) (H7.push o10)) fun p11 =>
 (s0 p11.1 v12 p11.2)))))))))
 else
 (pdt_Engine_Sites.r_p1 bd call n v3 p1.2))))
theorem pdt_Engine_Sites.r_l0_e (n m0 : Nat) : pdt_Engine_Sites.r_l0 @bdI (callA C n) n (pdt_Engine_Sites.l0 n m0) = pdt_Engine_Sites.l0 n (m0 + 1) := by
  funext v3 v12 H
  unfold pdt_Engine_Sites.r_l0
  rewrite [pdt_Engine_Sites.r_p1_e]
  kernel_rfl
noncomputable def pdt_Engine_Sites.r_l0_lp (bd : B3) (call : FuncId → List V → Heap → Option R) (n : Nat) (m : Nat) : V → V → Heap → Option R := Nat.rec (motive := fun _ => V → V → Heap → Option R) (fun _ _ _ => none) (fun _ self => pdt_Engine_Sites.r_l0 bd call n self) m
theorem pdt_Engine_Sites.r_l0_lp_e (n : Nat) : pdt_Engine_Sites.r_l0_lp @bdI (callA C n) n = pdt_Engine_Sites.l0 n := by
  funext m
  induction m with
  | zero => funext v3 v12 H; kernel_rfl
  | succ k ih => exact (congrArg (pdt_Engine_Sites.r_l0 @bdI (callA C n) n) ih).trans (pdt_Engine_Sites.r_l0_e n k)
noncomputable def pdt_Engine_Sites.r (bd : B3) (call : FuncId → List V → Heap → Option R) (n : Nat) (v0 : V) (H : Heap) : Option R :=
 (bd (eqlA P ty_p_pdt_Engine v0 (.ptr none)) fun t7_1 =>
 (bd (asB t7_1) fun b2 =>
 if b2 = true then
 (frzR (.slice ⟨none, 0, 0, false⟩) H)
 else
 (bd (nilC v0) fun t9_3 =>
 (bd (faA 2 t9_3) fun t10_4 =>
 (bd (ld1 t10_4 H) fun t11_5 =>
 (bd (rgMap t11_5 H) fun o6 =>
 (pdt_Engine_Sites.r_l0_lp bd call n n (.slice ⟨none, 0, 0, false⟩) (.ptr (some (H.n, 0))) (H.push o6))))))))
theorem pdt_Engine_Sites.r_e (n : Nat) (v0 : V) (H : Heap) : pdt_Engine_Sites.r @bdI (callA C n) n v0 H = E C n 13 [] (argsA 0 [v0]) H (kR C 13) := by
  unfold pdt_Engine_Sites.r
  rewrite [pdt_Engine_Sites.r_l0_lp_e]
  kernel_rfl
noncomputable def pdt_Engine_Sites.rf (bd : B3) (call : FuncId → List V → Heap → Option R) (n : Nat) (a : List V) (H : Heap) : Option R := (match a with | [v0] => pdt_Engine_Sites.r bd call n v0 H | a => E C n 13 [] (argsA 0 a) H (kR C 13))
theorem pdt_Engine_Sites.rf_b (n : Nat) (a : List V) (H : Heap) : (match a with | [v0] => pdt_Engine_Sites.r @bdI (callA C n) n v0 H | a => E C n 13 [] (argsA 0 a) H (kR C 13)) = E C n 13 [] (argsA 0 a) H (kR C 13) := by
  split
  · exact pdt_Engine_Sites.r_e n _ H
  · rfl
theorem pdt_Engine_Sites.rf_e (n : Nat) (a : List V) (H : Heap) : pdt_Engine_Sites.rf @bdI (callA C n) n a H = callA C (n + 1) 13 a H := by
  unfold pdt_Engine_Sites.rf
  refine (pdt_Engine_Sites.rf_b n a H).trans ?_
  kernel_rfl
end Go.AM.L
end
section
set_option linter.unusedVariables false
set_option linter.unusedSimpArgs false
set_option maxRecDepth 1000000
set_option linter.unusedVariables false
namespace Go.AM.L
@[irreducible] noncomputable def unfold_star.l0 (n m0 : Nat) (v1 v6 v7 v22 v23 v24 : V) (H : Heap) : Option R := Lp C n 14 [1, 1, 1, 0, 1, 0, 0] m0 [(1, v1), (6, v6), (7, v7), (22, v22), (23, v23), (24, v24)] H (kB 0 (kC C n 14 [1, 1, 1, 1] (kR C 14)))
@[irreducible] noncomputable def unfold_star.l1 (n m0 m1 : Nat) (v1 v6 v7 v9 v22 v23 v24 v28 : V) (H : Heap) : Option R := Lp C n 14 [1, 1, 1, 0, 1, 0, 0, 1, 1, 0, 0, 1, 1, 0, 0] m1 [(1, v1), (6, v6), (7, v7), (9, v9), (22, v22), (23, v23), (24, v24), (28, v28)] H (kB 2 (kB 1 (kC C n 14 [1, 1, 1, 0, 1, 0, 0, 1, 1, 1] (kL C n 14 [1, 1, 1, 0, 1, 0, 0] m0 (kB 0 (kC C n 14 [1, 1, 1, 1] (kR C 14)))))))
@[irreducible] noncomputable def unfold_star.p2 (n : Nat) (v6 v7 : V) (H : Heap) : Option R := E C n 14 [1, 1, 1, 1] [(6, v6), (7, v7)] H (kR C 14)
@[irreducible] noncomputable def unfold_star.l3 (n m0 : Nat) (v6 v7 v15 v16 v17 : V) (H : Heap) : Option R := Lp C n 14 [1, 1, 1, 1, 1, 1, 1, 0, 1, 0, 0] m0 [(6, v6), (7, v7), (15, v15), (16, v16), (17, v17)] H (kB 4 (kC C n 14 [1, 1, 1, 1, 1, 1, 1, 1] (kR C 14)))
@[irreducible] noncomputable def unfold_star.p4 (n : Nat) (v7 v15 v16 : V) (H : Heap) : Option R := E C n 14 [1, 1, 1, 1, 1, 1, 1, 1] [(7, v7), (15, v15), (16, v16)] H (kR C 14)
noncomputable def unfold_star.r_l1 (bd : B3) (call : FuncId → List V → Heap → Option R) (n : Nat) (s0 : V → V → V → V → V → V → Heap → Option R) (s1 : V → V → V → V → V → V → V → V → Heap → Option R) (v1 v6 v7 v9 v22 v23 v24 v28 : V) (H : Heap) : Option R :=
 (bd (arA .lss v28 (.int .i64 3)) fun t29_1 =>
 (bd (asB t29_1) fun b2 =>
 if b2 = true then
 (bd (faA 0 v9) fun t32_3 =>
 (bd (idxP 3 1 t32_3 v28) fun t33_4 =>
 (bd (ld1 t33_4 H) fun t34_5 =>
 (bd (arA .neq t34_5 v1) fun t36_6 =>
 (bd (asB t36_6) fun b7 =>
 if b7 = true then
 (bd (arA .add v28 (.int .i64 1)) fun t63_8 =>
 (s1 v1 v6 v7 v9 v22 v23 v24 t63_8 H))
 else
 (bd (ldN 9 v9 H) fun t37_9 =>
 (bd (call 33 [t37_9, v28] H) fun r10 =>
 (bd (stA 9 (.ptr (some (r10.2.n, 0))) r10.1 (r10.2.push (.cells [(.int .i64 0), (.int .i64 0), (.int .i64 0), (.int .i64 0), (.int .i64 0), (.int .i64 0), (.int .i64 0), (.int .i64 0), (.int .i64 0)] ty_api_Tri false))) fun H11 =>
 (bd (faA 0 (.ptr (some (r10.2.n, 0)))) fun t40_12 =>
 (bd (idxP 3 1 t40_12 (.int .i64 1)) fun t41_13 =>
 (bd (ld1 t41_13 H11) fun t42_14 =>
 (bd (faA 3 (.ptr (some (r10.2.n, 0)))) fun t43_15 =>
 (bd (idxP 3 2 t43_15 (.int .i64 1)) fun t44_16 =>
 (bd (ldN 2 t44_16 H11) fun t45_17 =>
 (bd (flA [(0, 1), (1, 2)] [(.int .i64 0), (.int .i64 0), (.int .i64 0)] [(0, t42_14), (1, t45_17)]) fun t46_18 =>
 (bd (stA 3 (.ptr (some (H11.n, 0))) t46_18 (H11.push (.cells [(.int .i64 0), (.int .i64 0), (.int .i64 0)] ty_api_Knot false))) fun H19 =>
 (bd (ldN 3 (.ptr (some (H11.n, 0))) H19) fun t49_20 =>
 (bd (lookM P ty_api_Knot (.int .i64 0) v7 t49_20 true H19) fun t50_21 =>
 (bd (extA t50_21 0) fun t51_22 =>
 (bd (extA t50_21 1) fun t52_23 =>
 (bd (unA .not t52_23) fun t54_24 =>
 (bd (asB t54_24) fun b25 =>
 if b25 = true then
 (bd (ldN 3 (.ptr (some (H11.n, 0))) H19) fun t56_26 =>
 (bd (lenSl v6) fun t58_27 =>
 (bd (updM P ty_api_Knot v7 t56_26 t58_27 H19) fun H28 =>
 (bd (ldN 9 (.ptr (some (r10.2.n, 0))) H28) fun t60_29 =>
 (bd (bSl 9 ty_api_Tri [(.int .i64 0), (.int .i64 0), (.int .i64 0), (.int .i64 0), (.int .i64 0), (.int .i64 0), (.int .i64 0), (.int .i64 0), (.int .i64 0)] 1 [(0, t60_29)]) fun o30 =>
 (bd (appA 9 72 ty_api_Tri v6 (.slice ⟨some (H28.n, 0), 1, 9, false⟩) (H28.push o30)) fun p31 =>
 (bd (arA .add v28 (.int .i64 1)) fun t63_32 =>
 (s1 v1 p31.1 v7 v9 v22 v23 v24 t63_32 p31.2))))))))
 else
 (bd (ldN 9 (.ptr (some (r10.2.n, 0))) H19) fun t60_33 =>
 (bd (bSl 9 ty_api_Tri [(.int .i64 0), (.int .i64 0), (.int .i64 0), (.int .i64 0), (.int .i64 0), (.int .i64 0), (.int .i64 0), (.int .i64 0), (.int .i64 0)] 1 [(0, t60_33)]) fun o34 =>
 (bd (appA 9 72 ty_api_Tri v6 (.slice ⟨some (H19.n, 0), 1, 9, false⟩) (H19.push o34)) fun p35 =>
 (bd (arA .add v28 (.int .i64 1)) fun t63_36 =>
 (s1 v1 p35.1 v7 v9 v22 v23 v24 t63_36 p35.2)))))))))))))))))))))))))))
 else
 (bd (arA .add v24 (.int .i64 1)) fun t64_37 =>
 (s0 v1 v6 v7 v22 v23 t64_37 H))))
theorem unfold_star.r_l1_e (n m0 m1 : Nat) : unfold_star.r_l1 @bdI (callA C n) n (unfold_star.l0 n m0) (unfold_star.l1 n m0 m1) = unfold_star.l1 n m0 (m1 + 1) := by
  funext v1 v6 v7 v9 v22 v23 v24 v28 H
  unfold unfold_star.r_l1
  kernel_rfl
noncomputable def unfold_star.r_l1_lp (bd : B3) (call : FuncId → List V → Heap → Option R) (n : Nat) (s0 : V → V → V → V → V → V → Heap → Option R) (m : Nat) : V → V → V → V → V → V → V → V → Heap → Option R := Nat.rec (motive := fun _ => V → V → V → V → V → V → V → V → Heap → Option R) (fun _ _ _ _ _ _ _ _ _ => none) (fun _ self => unfold_star.r_l1 bd call n s0 self) m
theorem unfold_star.r_l1_lp_e (n m0 : Nat) : unfold_star.r_l1_lp @bdI (callA C n) n (unfold_star.l0 n m0) = unfold_star.l1 n m0 := by
  funext m
  induction m with
  | zero => funext v1 v6 v7 v9 v22 v23 v24 v28 H; kernel_rfl
  | succ k ih => exact (congrArg (unfold_star.r_l1 @bdI (callA C n) n (unfold_star.l0 n m0)) ih).trans (unfold_star.r_l1_e n m0 k)
noncomputable def unfold_star.r_p4 (bd : B3) (call : FuncId → List V → Heap → Option R) (n : Nat) (v7 v15 v16 : V) (H : Heap) : Option R :=
 (bd (lenSl v16) fun t120_1 =>
 (bd (arA .sub t120_1 (.int .i64 1)) fun t121_2 =>
 (bd (idxS 9 v16 t121_2) fun t122_3 =>
 (bd (ldN 9 t122_3 H) fun t123_4 =>
 (bd (stA 9 (.ptr (some (H.n, 0))) t123_4 (H.push (.cells [(.int .i64 0), (.int .i64 0), (.int .i64 0), (.int .i64 0), (.int .i64 0), (.int .i64 0), (.int .i64 0), (.int .i64 0), (.int .i64 0)] ty_api_Tri false))) fun H5 =>
 (bd (faA 0 (.ptr (some (H.n, 0)))) fun t125_6 =>
 (bd (idxP 3 1 t125_6 (.int .i64 2)) fun t126_7 =>
 (bd (ld1 t126_7 H5) fun t127_8 =>
 (bd (faA 3 (.ptr (some (H.n, 0)))) fun t128_9 =>
 (bd (idxP 3 2 t128_9 (.int .i64 2)) fun t129_10 =>
 (bd (ldN 2 t129_10 H5) fun t130_11 =>
 (bd (flA [(0, 1), (1, 2)] [(.int .i64 0), (.int .i64 0), (.int .i64 0)] [(0, t127_8), (1, t130_11)]) fun t131_12 =>
 (bd (lookM P ty_api_Knot (.int .i64 0) v7 t131_12 false H5) fun t132_13 =>
 (bd (arA .neq t132_13 v15) fun t134_14 =>
 (bd (asB t134_14) fun b15 =>
 if b15 = true then
 (frzR (.tuple [(.slice ⟨none, 0, 0, false⟩), (.bool false)]) H5)
 else
 (frzR (.tuple [v16, (.bool true)]) H5))))))))))))))))
theorem unfold_star.r_p4_e (n : Nat) : unfold_star.r_p4 @bdI (callA C n) n = unfold_star.p4 n := by
  funext v7 v15 v16 H
  unfold unfold_star.r_p4
  kernel_rfl
noncomputable def unfold_star.r_l3 (bd : B3) (call : FuncId → List V → Heap → Option R) (n : Nat) (s0 : V → V → V → V → V → Heap → Option R) (v6 v7 v15 v16 v17 : V) (H : Heap) : Option R :=
 (bd (lenSl v16) fun t74_1 =>
 (bd (lenSl v6) fun t76_2 =>
 (bd (arA .lss t74_1 t76_2) fun t77_3 =>
 (bd (asB t77_3) fun b4 =>
 if b4 = true then
 (bd (idxS 9 v6 v17) fun t81_5 =>
 (bd (ldN 9 t81_5 H) fun t82_6 =>
 (bd (bSl 9 ty_api_Tri [(.int .i64 0), (.int .i64 0), (.int .i64 0), (.int .i64 0), (.int .i64 0), (.int .i64 0), (.int .i64 0), (.int .i64 0), (.int .i64 0)] 1 [(0, t82_6)]) fun o7 =>
 (bd (appA 9 72 ty_api_Tri v16 (.slice ⟨some (H.n, 0), 1, 9, false⟩) (H.push o7)) fun p8 =>
 (bd (idxS 9 v6 v17) fun t89_9 =>
 (bd (faA 0 t89_9) fun t90_10 =>
 (bd (idxP 3 1 t90_10 (.int .i64 2)) fun t91_11 =>
 (bd (ld1 t91_11 (p8.2.more 0)) fun t92_12 =>
 (bd (idxS 9 v6 v17) fun t95_13 =>
 (bd (faA 3 t95_13) fun t96_14 =>
 (bd (idxP 3 2 t96_14 (.int .i64 2)) fun t97_15 =>
 (bd (ldN 2 t97_15 (p8.2.more 0)) fun t98_16 =>
 (bd (flA [(0, 1), (1, 2)] [(.int .i64 0), (.int .i64 0), (.int .i64 0)] [(0, t92_12), (1, t98_16)]) fun t99_17 =>
 (bd (lookM P ty_api_Knot (.int .i64 0) v7 t99_17 true (p8.2.more 0)) fun t100_18 =>
 (bd (extA t100_18 0) fun t101_19 =>
 (bd (extA t100_18 1) fun t102_20 =>
 (bd (unA .not t102_20) fun t104_21 =>
 (bd (asB t104_21) fun b22 =>
 if b22 = true then
 (frzR (.tuple [(.slice ⟨none, 0, 0, false⟩), (.bool false)]) (p8.2.more 0))
 else
 (bd (arA .eql t101_19 v15) fun t108_23 =>
 (bd (asB t108_23) fun b24 =>
 if b24 = true then
 (bd (lenSl p8.1) fun t111_25 =>
 (bd (lenSl v6) fun t113_26 =>
 (bd (arA .lss t111_25 t113_26) fun t114_27 =>
 (bd (asB t114_27) fun b28 =>
 if b28 = true then
 (frzR (.tuple [(.slice ⟨none, 0, 0, false⟩), (.bool false)]) (p8.2.more 0))
 else
 (s0 v6 v7 v15 p8.1 t101_19 (p8.2.more 0))))))
 else
 (s0 v6 v7 v15 p8.1 t101_19 (p8.2.more 0))))))))))))))))))))))
 else
 (unfold_star.r_p4 bd call n v7 v15 v16 H)))))
theorem unfold_star.r_l3_e (n m0 : Nat) : unfold_star.r_l3 @bdI (callA C n) n (unfold_star.l3 n m0) = unfold_star.l3 n (m0 + 1) := by
  funext v6 v7 v15 v16 v17 H
  unfold unfold_star.r_l3
  rewrite [unfold_star.r_p4_e]
  kernel_rfl
noncomputable def unfold_star.r_l3_lp (bd : B3) (call : FuncId → List V → Heap → Option R) (n : Nat) (m : Nat) : V → V → V → V → V → Heap → Option R := Nat.rec (motive := fun _ => V → V → V → V → V → Heap → Option R) (fun _ _ _ _ _ _ => none) (fun _ self => unfold_star.r_l3 bd call n self) m
theorem unfold_star.r_l3_lp_e (n : Nat) : unfold_star.r_l3_lp @bdI (callA C n) n = unfold_star.l3 n := by
  funext m
  induction m with
  | zero => funext v6 v7 v15 v16 v17 H; kernel_rfl
  | succ k ih => exact (congrArg (unfold_star.r_l3 @bdI (callA C n) n) ih).trans (unfold_star.r_l3_e n k)
noncomputable def unfold_star.r_p2 (bd : B3) (call : FuncId → List V → Heap → Option R) (n : Nat) (v6 v7 : V) (H : Heap) : Option R :=
 (bd (lenSl v6) fun t66_1 =>
 (bd (arA .eql t66_1 (.int .i64 0)) fun t67_2 =>
 (bd (asB t67_2) fun b3 =>
 if b3 = true then
 (frzR (.tuple [(.slice ⟨none, 0, 0, false⟩), (.bool false)]) H)
 else
 (bd (call 35 [v6, (.func (.func 24) [] [])] H) fun r4 =>
 (bd (call 34 [v6, r4.1] r4.2) fun r5 =>
 (unfold_star.r_l3_lp bd call n n v6 v7 r5.1 (.slice ⟨none, 0, 0, false⟩) r5.1 r5.2))))))
theorem unfold_star.r_p2_e (n : Nat) : unfold_star.r_p2 @bdI (callA C n) n = unfold_star.p2 n := by
  funext v6 v7 H
  unfold unfold_star.r_p2
  rewrite [unfold_star.r_l3_lp_e]
  kernel_rfl
noncomputable def unfold_star.r_l0 (bd : B3) (call : FuncId → List V → Heap → Option R) (n : Nat) (s0 : V → V → V → V → V → V → Heap → Option R) (v1 v6 v7 v22 v23 v24 : V) (H : Heap) : Option R :=
 (bd (arA .lss v24 v23) fun t25_1 =>
 (bd (asB t25_1) fun b2 =>
 if b2 = true then
 (bd (idxS 9 v22 v24) fun t26_3 =>
 (bd (ldN 9 t26_3 H) fun t27_4 =>
 (bd (stA 9 (.ptr (some (H.n, 0))) t27_4 (H.push (.cells [(.int .i64 0), (.int .i64 0), (.int .i64 0), (.int .i64 0), (.int .i64 0), (.int .i64 0), (.int .i64 0), (.int .i64 0), (.int .i64 0)] ty_api_Tri false))) fun H5 =>
 (unfold_star.r_l1_lp bd call n s0 n v1 v6 v7 (.ptr (some (H.n, 0))) v22 v23 v24 (.int .i64 0) H5))))
 else
 (unfold_star.r_p2 bd call n v6 v7 H)))
theorem unfold_star.r_l0_e (n m0 : Nat) : unfold_star.r_l0 @bdI (callA C n) n (unfold_star.l0 n m0) = unfold_star.l0 n (m0 + 1) := by
  funext v1 v6 v7 v22 v23 v24 H
  unfold unfold_star.r_l0
  rewrite [unfold_star.r_l1_lp_e]
  rewrite [unfold_star.r_p2_e]
  kernel_rfl
noncomputable def unfold_star.r_l0_lp (bd : B3) (call : FuncId → List V → Heap → Option R) (n : Nat) (m : Nat) : V → V → V → V → V → V → Heap → Option R := Nat.rec (motive := fun _ => V → V → V → V → V → V → Heap → Option R) (fun _ _ _ _ _ _ _ => none) (fun _ self => unfold_star.r_l0 bd call n self) m
theorem unfold_star.r_l0_lp_e (n : Nat) : unfold_star.r_l0_lp @bdI (callA C n) n = unfold_star.l0 n := by
  funext m
  induction m with
  | zero => funext v1 v6 v7 v22 v23 v24 H; kernel_rfl
  | succ k ih => exact (congrArg (unfold_star.r_l0 @bdI (callA C n) n) ih).trans (unfold_star.r_l0_e n k)
noncomputable def unfold_star.r (bd : B3) (call : FuncId → List V → Heap → Option R) (n : Nat) (v0 v1 : V) (H : Heap) : Option R :=
 (bd (lenSl v0) fun t23_1 =>
 (unfold_star.r_l0_lp bd call n n v1 (.slice ⟨none, 0, 0, false⟩) (.map (some H.n)) v0 t23_1 (.int .i64 0) (H.push (.map [] 0))))
theorem unfold_star.r_e (n : Nat) (v0 v1 : V) (H : Heap) : unfold_star.r @bdI (callA C n) n v0 v1 H = E C n 14 [] (argsA 0 [v0, v1]) H (kR C 14) := by
  unfold unfold_star.r
  rewrite [unfold_star.r_l0_lp_e]
  kernel_rfl
noncomputable def unfold_star.rf (bd : B3) (call : FuncId → List V → Heap → Option R) (n : Nat) (a : List V) (H : Heap) : Option R := pureA a H fun a => (match a with | [v0, v1] => unfold_star.r bd call n v0 v1 ⟨0, .nil⟩ | a => E C n 14 [] (argsA 0 a) ⟨0, .nil⟩ (kR C 14))
theorem unfold_star.rf_b (n : Nat) (a : List V) (H : Heap) : (match a with | [v0, v1] => unfold_star.r @bdI (callA C n) n v0 v1 H | a => E C n 14 [] (argsA 0 a) H (kR C 14)) = E C n 14 [] (argsA 0 a) H (kR C 14) := by
  split
  · exact unfold_star.r_e n _ _ H
  · rfl
theorem unfold_star.rf_e (n : Nat) (a : List V) (H : Heap) : unfold_star.rf @bdI (callA C n) n a H = callA C (n + 1) 14 a H := by
  unfold unfold_star.rf
  refine (congrArg (pureA a H) (funext fun a => unfold_star.rf_b n a ⟨0, .nil⟩)).trans ?_
  kernel_rfl
noncomputable def law17_Side.r (bd : B3) (call : FuncId → List V → Heap → Option R) (n : Nat) (v0 : V) (H : Heap) : Option R :=
 (bd (arA .lss v0 (.int .i64 1)) fun t4_1 =>
 (bd (asB t4_1) fun b2 =>
 if b2 = true then
 (some ((.int .i64 12), H))
 else
 (bd (arA .gtr v0 (.int .i64 1073741824)) fun t7_3 =>
 (bd (asB t7_3) fun b4 =>
 if b4 = true then
 (some ((.int .i64 12), H))
 else
 (some (v0, H))))))
theorem law17_Side.r_e (n : Nat) (v0 : V) (H : Heap) : law17_Side.r @bdI (callA C n) n v0 H = E C n 17 [] (argsA 0 [v0]) H (kR C 17) := by
  unfold law17_Side.r
  kernel_rfl
noncomputable def law17_Side.rf (bd : B3) (call : FuncId → List V → Heap → Option R) (n : Nat) (a : List V) (H : Heap) : Option R := pureA a H fun a => (match a with | [v0] => law17_Side.r bd call n v0 ⟨0, .nil⟩ | a => E C n 17 [] (argsA 0 a) ⟨0, .nil⟩ (kR C 17))
theorem law17_Side.rf_b (n : Nat) (a : List V) (H : Heap) : (match a with | [v0] => law17_Side.r @bdI (callA C n) n v0 H | a => E C n 17 [] (argsA 0 a) H (kR C 17)) = E C n 17 [] (argsA 0 a) H (kR C 17) := by
  split
  · exact law17_Side.r_e n _ H
  · rfl
theorem law17_Side.rf_e (n : Nat) (a : List V) (H : Heap) : law17_Side.rf @bdI (callA C n) n a H = callA C (n + 1) 17 a H := by
  unfold law17_Side.rf
  refine (congrArg (pureA a H) (funext fun a => law17_Side.rf_b n a ⟨0, .nil⟩)).trans ?_
  kernel_rfl
noncomputable def law17_Room.r (bd : B3) (call : FuncId → List V → Heap → Option R) (n : Nat) (v0 : V) (H : Heap) : Option R :=
 (bd (arA .lss v0 (.int .i64 1)) fun t4_1 =>
 (bd (asB t4_1) fun b2 =>
 if b2 = true then
 (some ((.int .i64 6), H))
 else
 (bd (arA .gtr v0 (.int .i64 16777216)) fun t7_3 =>
 (bd (asB t7_3) fun b4 =>
 if b4 = true then
 (some ((.int .i64 6), H))
 else
 (some (v0, H))))))
theorem law17_Room.r_e (n : Nat) (v0 : V) (H : Heap) : law17_Room.r @bdI (callA C n) n v0 H = E C n 18 [] (argsA 0 [v0]) H (kR C 18) := by
  unfold law17_Room.r
  kernel_rfl
noncomputable def law17_Room.rf (bd : B3) (call : FuncId → List V → Heap → Option R) (n : Nat) (a : List V) (H : Heap) : Option R := pureA a H fun a => (match a with | [v0] => law17_Room.r bd call n v0 ⟨0, .nil⟩ | a => E C n 18 [] (argsA 0 a) ⟨0, .nil⟩ (kR C 18))
theorem law17_Room.rf_b (n : Nat) (a : List V) (H : Heap) : (match a with | [v0] => law17_Room.r @bdI (callA C n) n v0 H | a => E C n 18 [] (argsA 0 a) H (kR C 18)) = E C n 18 [] (argsA 0 a) H (kR C 18) := by
  split
  · exact law17_Room.r_e n _ H
  · rfl
theorem law17_Room.rf_e (n : Nat) (a : List V) (H : Heap) : law17_Room.rf @bdI (callA C n) n a H = callA C (n + 1) 18 a H := by
  unfold law17_Room.rf
  refine (congrArg (pureA a H) (funext fun a => law17_Room.rf_b n a ⟨0, .nil⟩)).trans ?_
  kernel_rfl
noncomputable def pdt_Open.r (bd : B3) (call : FuncId → List V → Heap → Option R) (n : Nat) (v0 v1 : V) (H : Heap) : Option R :=
 (bd (arA .lss v0 (.int .i64 1)) fun t8_1 =>
 (bd (asB t8_1) fun b2 =>
 if b2 = true then
 (some (.tuple [(.ptr none), (.int .i64 10)], H))
 else
 (bd (arA .gtr v0 (.int .i64 1073741824)) fun t11_3 =>
 (bd (asB t11_3) fun b4 =>
 if b4 = true then
 (some (.tuple [(.ptr none), (.int .i64 10)], H))
 else
 (bd (arA .lss v1 (.int .i64 1)) fun t15_5 =>
 (bd (asB t15_5) fun b6 =>
 if b6 = true then
 (some (.tuple [(.ptr none), (.int .i64 10)], H))
 else
 (bd (arA .gtr v1 (.int .i64 16777216)) fun t19_7 =>
 (bd (asB t19_7) fun b8 =>
 if b8 = true then
 (some (.tuple [(.ptr none), (.int .i64 10)], H))
 else
 (bd (flA [(0, 1), (1, 1), (2, 1), (3, 1), (4, 1), (5, 1), (6, 1)] [(.int .i64 0), (.int .i64 0), (.map none), (.map none), (.int .i64 0), (.int .i64 0), (.ptr none)] [(0, v0), (1, v1), (2, (.map (some H.n))), (3, (.map (some (H.push (.map [] 0)).n)))]) fun t25_9 =>
 (bd (boxA ty_pdt_Engine t25_9) fun o10 =>
 (bd (call 37 [(.ptr (some (((H.push (.map [] 0)).push (.map [] 0)).n, 0)))] (((H.push (.map [] 0)).push (.map [] 0)).push o10)) fun r11 =>
 (some (.tuple [(.ptr (some (((H.push (.map [] 0)).push (.map [] 0)).n, 0))), (.int .i64 0)], r11.2)))))))))))))
theorem pdt_Open.r_e (n : Nat) (v0 v1 : V) (H : Heap) : pdt_Open.r @bdI (callA C n) n v0 v1 H = E C n 19 [] (argsA 0 [v0, v1]) H (kR C 19) := by
  unfold pdt_Open.r
  kernel_rfl
noncomputable def pdt_Open.rf (bd : B3) (call : FuncId → List V → Heap → Option R) (n : Nat) (a : List V) (H : Heap) : Option R := (match a with | [v0, v1] => pdt_Open.r bd call n v0 v1 H | a => E C n 19 [] (argsA 0 a) H (kR C 19))
theorem pdt_Open.rf_b (n : Nat) (a : List V) (H : Heap) : (match a with | [v0, v1] => pdt_Open.r @bdI (callA C n) n v0 v1 H | a => E C n 19 [] (argsA 0 a) H (kR C 19)) = E C n 19 [] (argsA 0 a) H (kR C 19) := by
  split
  · exact pdt_Open.r_e n _ _ H
  · rfl
theorem pdt_Open.rf_e (n : Nat) (a : List V) (H : Heap) : pdt_Open.rf @bdI (callA C n) n a H = callA C (n + 1) 19 a H := by
  unfold pdt_Open.rf
  refine (pdt_Open.rf_b n a H).trans ?_
  kernel_rfl
noncomputable def law17_Does.r (bd : B3) (call : FuncId → List V → Heap → Option R) (n : Nat) (v0 v1 v2 : V) (H : Heap) : Option R :=
 (bd (boxA ty_law17_Act v2) fun o1 =>
 (bd (faA 0 (.ptr (some (H.n, 0)))) fun t11_2 =>
 (bd (ld1 t11_2 (H.push o1)) fun t12_3 =>
 (bd (arA .eql t12_3 (.int .i64 1)) fun t14_4 =>
 (bd (asB t14_4) fun b5 =>
 if b5 = true then
 (bd (faA 1 (.ptr (some (H.n, 0)))) fun t16_6 =>
 (bd (ld1 t16_6 ((H.push o1).more 0)) fun t17_7 =>
 (bd (call 38 [v0, t17_7] ((H.push o1).more 0)) fun r8 =>
 (bd (faA 1 (.ptr (some (H.n, 0)))) fun t20_9 =>
 (bd (ld1 t20_9 r8.2) fun t21_10 =>
 (bd (chk (ld1 t20_9 ((H.push o1).more 0)) t21_10) fun _ =>
 (bd (call 39 [v1, t21_10] r8.2) fun r11 =>
 (bd (arA .eql r8.1 r11.1) fun t23_12 =>
 (some (t23_12, r11.2))))))))))
 else
 (bd (arA .eql t12_3 (.int .i64 2)) fun t25_13 =>
 (bd (asB t25_13) fun b14 =>
 if b14 = true then
 (bd (faA 1 (.ptr (some (H.n, 0)))) fun t27_15 =>
 (bd (ld1 t27_15 ((H.push o1).more 0)) fun t28_16 =>
 (bd (faA 2 (.ptr (some (H.n, 0)))) fun t29_17 =>
 (bd (ldN 2 t29_17 ((H.push o1).more 0)) fun t30_18 =>
 (bd (call 40 [v0, t28_16, t30_18] ((H.push o1).more 0)) fun r19 =>
 (bd (faA 1 (.ptr (some (H.n, 0)))) fun t33_20 =>
 (bd (ld1 t33_20 r19.2) fun t34_21 =>
 (bd (chk (ld1 t33_20 ((H.push o1).more 0)) t34_21) fun _ =>
 (bd (faA 2 (.ptr (some (H.n, 0)))) fun t35_22 =>
 (bd (ldN 2 t35_22 r19.2) fun t36_23 =>
 (bd (chk (ldN 2 t35_22 ((H.push o1).more 0)) t36_23) fun _ =>
 (bd (call 41 [v1, t34_21, t36_23] r19.2) fun r24 =>
 (bd (arA .eql r19.1 r24.1) fun t38_25 =>
 (some (t38_25, r24.2)))))))))))))))
 else
 (bd (arA .eql t12_3 (.int .i64 3)) fun t40_26 =>
 (bd (asB t40_26) fun b27 =>
 if b27 = true then
 (bd (call 42 [v0] (H.push o1)) fun r28 =>
 (bd (bSl 3 ty_api_Place [(.int .i64 0), (.int .i64 0), (.int .i64 0)] 0 []) fun o29 =>
 (bd (nilC v1) fun t45_30 =>
 (bd (faA 2 t45_30) fun t46_31 =>
 (bd (stA 1 t46_31 (.slice ⟨some (r28.2.n, 0), 0, 3, false⟩) (r28.2.push o29)) fun H32 =>
 (some ((.bool true), H32)))))))
 else
 (bd (arA .eql t12_3 (.int .i64 4)) fun t48_33 =>
 (bd (asB t48_33) fun b34 =>
 if b34 = true then
 (bd (faA 4 (.ptr (some (H.n, 0)))) fun t50_35 =>
 (bd (ld1 t50_35 ((H.push o1).more 0)) fun t51_36 =>
 (bd (call 44 [t51_36] ((H.push o1).more 0)) fun r37 =>
 (bd (call 43 [v0, r37.1] r37.2) fun r38 =>
 (bd (faA 4 (.ptr (some (H.n, 0)))) fun t55_39 =>
 (bd (ld1 t55_39 r38.2) fun t56_40 =>
 (bd (chk (ld1 t55_39 r37.2) t56_40) fun _ =>
 (bd (chk (ld1 t55_39 ((H.push o1).more 0)) t56_40) fun _ =>
 (bd (call 44 [t56_40] r38.2) fun r41 =>
 (bd (call 45 [v1, r41.1] r41.2) fun r42 =>
 (bd (arA .eql r38.1 r42.1) fun t59_43 =>
 (some (t59_43, r42.2)))))))))))))
 else
 (bd (nilC v1) fun t61_44 =>
 (bd (faA 2 t61_44) fun t62_45 =>
 (bd (ld1 t62_45 (H.push o1)) fun t63_46 =>
 (bd (lenSl t63_46) fun t64_47 =>
 (bd (arA .geq t64_47 (.int .i64 7)) fun t65_48 =>
 (bd (asB t65_48) fun b49 =>
 if b49 = true then
 (some ((.bool true), (H.push o1)))
 else
 (bd (faA 2 (.ptr (some (H.n, 0)))) fun t68_50 =>
 (bd (ldN 2 t68_50 (H.push o1)) fun t69_51 =>
 (bd (call 46 [v0, t69_51] (H.push o1)) fun r52 =>
 (bd (extA r52.1 0) fun t71_53 =>
 (bd (extA r52.1 1) fun t72_54 =>
 (bd (faA 2 (.ptr (some (H.n, 0)))) fun t75_55 =>
 (bd (ldN 2 t75_55 r52.2) fun t76_56 =>
 (bd (call 47 [v1, t76_56] r52.2) fun r57 =>
 (bd (extA r57.1 0) fun t78_58 =>
 (bd (extA r57.1 1) fun t79_59 =>
 (bd (arA .eql t71_53 t78_58) fun t82_60 =>
 (bd (asB t82_60) fun b61 =>
 if b61 = true then
 (bd (arA .eql t72_54 t79_59) fun t86_62 =>
 (some (t86_62, r57.2)))
 else
 (some ((.bool false), r57.2)))))))))))))))))))))))))))))))
theorem law17_Does.r_e (n : Nat) (v0 v1 v2 : V) (H : Heap) : law17_Does.r @bdI (callA C n) n v0 v1 v2 H = E C n 20 [] (argsA 0 [v0, v1, v2]) H (kR C 20) := by
  unfold law17_Does.r
  kernel_rfl
noncomputable def law17_Does.rf (bd : B3) (call : FuncId → List V → Heap → Option R) (n : Nat) (a : List V) (H : Heap) : Option R := inA true a H fun a H => (match a with | [v0, v1, v2] => law17_Does.r bd call n v0 v1 v2 H | a => E C n 20 [] (argsA 0 a) H (kR C 20))
theorem law17_Does.rf_b (n : Nat) (a : List V) (H : Heap) : (match a with | [v0, v1, v2] => law17_Does.r @bdI (callA C n) n v0 v1 v2 H | a => E C n 20 [] (argsA 0 a) H (kR C 20)) = E C n 20 [] (argsA 0 a) H (kR C 20) := by
  split
  · exact law17_Does.r_e n _ _ _ H
  · rfl
theorem law17_Does.rf_e (n : Nat) (a : List V) (H : Heap) : law17_Does.rf @bdI (callA C n) n a H = callA C (n + 1) 20 a H := by
  unfold law17_Does.rf
  refine (congrArg (inA true a H) (funext fun a => funext fun H => law17_Does.rf_b n a H)).trans ?_
  kernel_rfl
noncomputable def unfold_knot.r (bd : B3) (call : FuncId → List V → Heap → Option R) (n : Nat) (v0 v1 v2 v3 : V) (H : Heap) : Option R :=
 (bd (boxA ty_api_Vert v0) fun o1 =>
 (bd (boxA ty_api_Off v1) fun o2 =>
 (bd (faA 3 (.ptr (some (H.n, 0)))) fun t10_3 =>
 (bd (ld1 t10_3 ((((H.push o1).push o2).push (.cells [(.int .i64 0), (.int .i64 0)] ty_api_Off false)).more 0)) fun t11_4 =>
 (bd (faA 0 (.ptr (some ((H.push o1).n, 0)))) fun t12_5 =>
 (bd (ld1 t12_5 ((((H.push o1).push o2).push (.cells [(.int .i64 0), (.int .i64 0)] ty_api_Off false)).more 0)) fun t13_6 =>
 (bd (arA .mul t13_6 v2) fun t15_7 =>
 (bd (faA 1 (.ptr (some (H.n, 0)))) fun t16_8 =>
 (bd (faA 0 t16_8) fun t17_9 =>
 (bd (ld1 t17_9 ((((H.push o1).push o2).push (.cells [(.int .i64 0), (.int .i64 0)] ty_api_Off false)).more 0)) fun t18_10 =>
 (bd (arA .quo t18_10 v3) fun t20_11 =>
 (bd (arA .add t15_7 t20_11) fun t21_12 =>
 (bd (faA 1 (.ptr (some ((H.push o1).n, 0)))) fun t22_13 =>
 (bd (ld1 t22_13 ((((H.push o1).push o2).push (.cells [(.int .i64 0), (.int .i64 0)] ty_api_Off false)).more 0)) fun t23_14 =>
 (bd (arA .mul t23_14 v2) fun t25_15 =>
 (bd (faA 1 (.ptr (some (H.n, 0)))) fun t26_16 =>
 (bd (faA 1 t26_16) fun t27_17 =>
 (bd (ld1 t27_17 ((((H.push o1).push o2).push (.cells [(.int .i64 0), (.int .i64 0)] ty_api_Off false)).more 0)) fun t28_18 =>
 (bd (arA .quo t28_18 v3) fun t30_19 =>
 (bd (arA .add t25_15 t30_19) fun t31_20 =>
 (bd (flA [(0, 1), (1, 1)] [(.int .i64 0), (.int .i64 0)] [(0, t21_12), (1, t31_20)]) fun t32_21 =>
 (bd (stA 2 (.ptr (some (((H.push o1).push o2).n, 0))) t32_21 ((((H.push o1).push o2).push (.cells [(.int .i64 0), (.int .i64 0)] ty_api_Off false)).more 0)) fun H22 =>
 (bd (ldN 2 (.ptr (some (((H.push o1).push o2).n, 0))) H22) fun t23 =>
 (some (.tuple [t11_4, t23], H22)))))))))))))))))))))))))
theorem unfold_knot.r_e (n : Nat) (v0 v1 v2 v3 : V) (H : Heap) : unfold_knot.r @bdI (callA C n) n v0 v1 v2 v3 H = E C n 21 [] (argsA 0 [v0, v1, v2, v3]) H (kR C 21) := by
  unfold unfold_knot.r
  kernel_rfl
noncomputable def unfold_knot.rf (bd : B3) (call : FuncId → List V → Heap → Option R) (n : Nat) (a : List V) (H : Heap) : Option R := pureA a H fun a => (match a with | [v0, v1, v2, v3] => unfold_knot.r bd call n v0 v1 v2 v3 ⟨0, .nil⟩ | a => E C n 21 [] (argsA 0 a) ⟨0, .nil⟩ (kR C 21))
theorem unfold_knot.rf_b (n : Nat) (a : List V) (H : Heap) : (match a with | [v0, v1, v2, v3] => unfold_knot.r @bdI (callA C n) n v0 v1 v2 v3 H | a => E C n 21 [] (argsA 0 a) H (kR C 21)) = E C n 21 [] (argsA 0 a) H (kR C 21) := by
  split
  · exact unfold_knot.r_e n _ _ _ _ H
  · rfl
theorem unfold_knot.rf_e (n : Nat) (a : List V) (H : Heap) : unfold_knot.rf @bdI (callA C n) n a H = callA C (n + 1) 21 a H := by
  unfold unfold_knot.rf
  refine (congrArg (pureA a H) (funext fun a => unfold_knot.rf_b n a ⟨0, .nil⟩)).trans ?_
  kernel_rfl
noncomputable def cover_Normal.r (bd : B3) (call : FuncId → List V → Heap → Option R) (n : Nat) (v0 : V) (H : Heap) : Option R :=
 (bd (boxA ty_api_Tri v0) fun o1 =>
 (bd (ldN 9 (.ptr (some (H.n, 0))) ((H.push o1).push (.cells [(.int .i64 0), (.int .i64 0), (.int .i64 0), (.int .i64 0), (.int .i64 0), (.int .i64 0), (.int .i64 0), (.int .i64 0), (.int .i64 0)] ty_api_Tri false))) fun t3_2 =>
 (bd (call 48 [t3_2] ((H.push o1).push (.cells [(.int .i64 0), (.int .i64 0), (.int .i64 0), (.int .i64 0), (.int .i64 0), (.int .i64 0), (.int .i64 0), (.int .i64 0), (.int .i64 0)] ty_api_Tri false))) fun r3 =>
 (bd (stA 9 (.ptr (some ((H.push o1).n, 0))) r3.1 r3.2) fun H4 =>
 (bd (ldN 9 (.ptr (some ((H.push o1).n, 0))) H4) fun t5 =>
 (some (t5, H4)))))))
theorem cover_Normal.r_e (n : Nat) (v0 : V) (H : Heap) : cover_Normal.r @bdI (callA C n) n v0 H = E C n 22 [] (argsA 0 [v0]) H (kR C 22) := by
  unfold cover_Normal.r
  kernel_rfl
noncomputable def cover_Normal.rf (bd : B3) (call : FuncId → List V → Heap → Option R) (n : Nat) (a : List V) (H : Heap) : Option R := pureA a H fun a => (match a with | [v0] => cover_Normal.r bd call n v0 ⟨0, .nil⟩ | a => E C n 22 [] (argsA 0 a) ⟨0, .nil⟩ (kR C 22))
theorem cover_Normal.rf_b (n : Nat) (a : List V) (H : Heap) : (match a with | [v0] => cover_Normal.r @bdI (callA C n) n v0 H | a => E C n 22 [] (argsA 0 a) H (kR C 22)) = E C n 22 [] (argsA 0 a) H (kR C 22) := by
  split
  · exact cover_Normal.r_e n _ H
  · rfl
theorem cover_Normal.rf_e (n : Nat) (a : List V) (H : Heap) : cover_Normal.rf @bdI (callA C n) n a H = callA C (n + 1) 22 a H := by
  unfold cover_Normal.rf
  refine (congrArg (pureA a H) (funext fun a => cover_Normal.rf_b n a ⟨0, .nil⟩)).trans ?_
  kernel_rfl
noncomputable def slices_SortFunc_api_Tri_api_Tri.r (bd : B3) (call : FuncId → List V → Heap → Option R) (n : Nat) (v0 v1 : V) (H : Heap) : Option R :=
 (bd (lenSl v0) fun t6_1 =>
 (bd (cvInt .u64 t6_1) fun t10_2 =>
 (bd (call 50 [t10_2] H) fun r3 =>
 (bd (call 49 [v0, (.int .i64 0), t6_1, r3.1, v1] r3.2) fun r4 =>
 (some (.tuple [], r4.2))))))
theorem slices_SortFunc_api_Tri_api_Tri.r_e (n : Nat) (v0 v1 : V) (H : Heap) : slices_SortFunc_api_Tri_api_Tri.r @bdI (callA C n) n v0 v1 H = E C n 23 [] (argsA 0 [v0, v1]) H (kR C 23) := by
  unfold slices_SortFunc_api_Tri_api_Tri.r
  kernel_rfl
noncomputable def slices_SortFunc_api_Tri_api_Tri.rf (bd : B3) (call : FuncId → List V → Heap → Option R) (n : Nat) (a : List V) (H : Heap) : Option R := (match a with | [v0, v1] => slices_SortFunc_api_Tri_api_Tri.r bd call n v0 v1 H | a => E C n 23 [] (argsA 0 a) H (kR C 23))
theorem slices_SortFunc_api_Tri_api_Tri.rf_b (n : Nat) (a : List V) (H : Heap) : (match a with | [v0, v1] => slices_SortFunc_api_Tri_api_Tri.r @bdI (callA C n) n v0 v1 H | a => E C n 23 [] (argsA 0 a) H (kR C 23)) = E C n 23 [] (argsA 0 a) H (kR C 23) := by
  split
  · exact slices_SortFunc_api_Tri_api_Tri.r_e n _ _ H
  · rfl
theorem slices_SortFunc_api_Tri_api_Tri.rf_e (n : Nat) (a : List V) (H : Heap) : slices_SortFunc_api_Tri_api_Tri.rf @bdI (callA C n) n a H = callA C (n + 1) 23 a H := by
  unfold slices_SortFunc_api_Tri_api_Tri.rf
  refine (slices_SortFunc_api_Tri_api_Tri.rf_b n a H).trans ?_
  kernel_rfl
noncomputable def cover_Cmp.r (bd : B3) (call : FuncId → List V → Heap → Option R) (n : Nat) (v0 v1 : V) (H : Heap) : Option R :=
 (bd (boxA ty_api_Tri v0) fun o1 =>
 (bd (boxA ty_api_Tri v1) fun o2 =>
 (bd (ldN 9 (.ptr (some (H.n, 0))) ((H.push o1).push o2)) fun t5_3 =>
 (bd (ldN 9 (.ptr (some ((H.push o1).n, 0))) ((H.push o1).push o2)) fun t6_4 =>
 (bd (call 51 [t5_3, t6_4] ((H.push o1).push o2)) fun r5 =>
 (some (r5.1, r5.2)))))))
theorem cover_Cmp.r_e (n : Nat) (v0 v1 : V) (H : Heap) : cover_Cmp.r @bdI (callA C n) n v0 v1 H = E C n 24 [] (argsA 0 [v0, v1]) H (kR C 24) := by
  unfold cover_Cmp.r
  kernel_rfl
noncomputable def cover_Cmp.rf (bd : B3) (call : FuncId → List V → Heap → Option R) (n : Nat) (a : List V) (H : Heap) : Option R := pureA a H fun a => (match a with | [v0, v1] => cover_Cmp.r bd call n v0 v1 ⟨0, .nil⟩ | a => E C n 24 [] (argsA 0 a) ⟨0, .nil⟩ (kR C 24))
theorem cover_Cmp.rf_b (n : Nat) (a : List V) (H : Heap) : (match a with | [v0, v1] => cover_Cmp.r @bdI (callA C n) n v0 v1 H | a => E C n 24 [] (argsA 0 a) H (kR C 24)) = E C n 24 [] (argsA 0 a) H (kR C 24) := by
  split
  · exact cover_Cmp.r_e n _ _ H
  · rfl
theorem cover_Cmp.rf_e (n : Nat) (a : List V) (H : Heap) : cover_Cmp.rf @bdI (callA C n) n a H = callA C (n + 1) 24 a H := by
  unfold cover_Cmp.rf
  refine (congrArg (pureA a H) (funext fun a => cover_Cmp.rf_b n a ⟨0, .nil⟩)).trans ?_
  kernel_rfl
@[irreducible] noncomputable def slices_Compact_api_Tri_api_Tri.l0 (n m0 : Nat) (v0 v3 : V) (H : Heap) : Option R := Lp C n 25 [1, 1, 0, 1, 0, 0] m0 [(0, v0), (3, v3)] H (kB 0 (kC C n 25 [1, 1, 1] (kR C 25)))
@[irreducible] noncomputable def slices_Compact_api_Tri_api_Tri.l1 (n m0 m1 : Nat) (v0 v3 v4 v5 : V) (H : Heap) : Option R := Lp C n 25 [1, 1, 0, 1, 0, 0, 1, 0, 0, 1, 0, 1, 0, 1, 0, 0] m1 [(0, v0), (3, v3), (4, v4), (5, v5)] H (kB 2 (kC C n 25 [1, 1, 0, 1, 0, 0, 1, 0, 0, 1, 0, 1, 1] (kB 1 (kC C n 25 [1, 1, 0, 1, 0, 0, 1, 1] (kL C n 25 [1, 1, 0, 1, 0, 0] m0 (kB 0 (kC C n 25 [1, 1, 1] (kR C 25))))))))
@[irreducible] noncomputable def slices_Compact_api_Tri_api_Tri.p2 (n m0 : Nat) (v0 v3 : V) (H : Heap) : Option R := E C n 25 [1, 1, 0, 1, 0, 0, 1, 0, 0, 1, 0, 1, 1] [(0, v0), (3, v3)] H (kB 1 (kC C n 25 [1, 1, 0, 1, 0, 0, 1, 1] (kL C n 25 [1, 1, 0, 1, 0, 0] m0 (kB 0 (kC C n 25 [1, 1, 1] (kR C 25))))))
noncomputable def slices_Compact_api_Tri_api_Tri.r_p2 (bd : B3) (call : FuncId → List V → Heap → Option R) (n : Nat) (s0 : V → V → Heap → Option R) (v0 v3 : V) (H : Heap) : Option R :=
 (bd (slSl 9 v0 (some v3) none) fun t56_1 =>
 (bd (clrS 9 [(.int .i64 0), (.int .i64 0), (.int .i64 0), (.int .i64 0), (.int .i64 0), (.int .i64 0), (.int .i64 0), (.int .i64 0), (.int .i64 0)] t56_1 H) fun H2 =>
 (bd (slSl 9 v0 none (some v3)) fun t59_3 =>
 (some (t59_3, H2)))))
theorem slices_Compact_api_Tri_api_Tri.r_p2_e (n : Nat) (m0 : Nat) : slices_Compact_api_Tri_api_Tri.r_p2 @bdI (callA C n) n (slices_Compact_api_Tri_api_Tri.l0 n m0) = slices_Compact_api_Tri_api_Tri.p2 n m0 := by
  funext v0 v3 H
  unfold slices_Compact_api_Tri_api_Tri.r_p2
  kernel_rfl
noncomputable def slices_Compact_api_Tri_api_Tri.r_l1 (bd : B3) (call : FuncId → List V → Heap → Option R) (n : Nat) (s0 : V → V → Heap → Option R) (s1 : V → V → V → V → Heap → Option R) (v0 v3 v4 v5 : V) (H : Heap) : Option R :=
 (bd (lenSl v4) fun t31_1 =>
 (bd (arA .lss v5 t31_1) fun t32_2 =>
 (bd (asB t32_2) fun b3 =>
 if b3 = true then
 (bd (idxS 9 v4 v5) fun t37_4 =>
 (bd (ldN 9 t37_4 (H.more 0)) fun t38_5 =>
 (bd (arA .sub v5 (.int .i64 1)) fun t41_6 =>
 (bd (idxS 9 v4 t41_6) fun t42_7 =>
 (bd (ldN 9 t42_7 (H.more 0)) fun t43_8 =>
 (bd (neqA P ty_api_Tri t38_5 t43_8) fun t44_9 =>
 (bd (asB t44_9) fun b10 =>
 if b10 = true then
 (bd (idxS 9 v4 v5) fun t49_11 =>
 (bd (ldN 9 t49_11 (H.more 0)) fun t50_12 =>
 (bd (idxS 9 v0 v3) fun t51_13 =>
 (bd (stA 9 t51_13 t50_12 (H.more 0)) fun H14 =>
 (bd (arA .add v3 (.int .i64 1)) fun t53_15 =>
 (bd (arA .add v5 (.int .i64 1)) fun t34_16 =>
 (s1 v0 t53_15 v4 t34_16 H14)))))))
 else
 (bd (arA .add v5 (.int .i64 1)) fun t34_17 =>
 (s1 v0 v3 v4 t34_17 (H.more 0))))))))))
 else
 (slices_Compact_api_Tri_api_Tri.r_p2 bd call n s0 v0 v3 H))))
theorem slices_Compact_api_Tri_api_Tri.r_l1_e (n m0 m1 : Nat) : slices_Compact_api_Tri_api_Tri.r_l1 @bdI (callA C n) n (slices_Compact_api_Tri_api_Tri.l0 n m0) (slices_Compact_api_Tri_api_Tri.l1 n m0 m1) = slices_Compact_api_Tri_api_Tri.l1 n m0 (m1 + 1) := by
  funext v0 v3 v4 v5 H
  unfold slices_Compact_api_Tri_api_Tri.r_l1
  rewrite [slices_Compact_api_Tri_api_Tri.r_p2_e]
  kernel_rfl
noncomputable def slices_Compact_api_Tri_api_Tri.r_l1_lp (bd : B3) (call : FuncId → List V → Heap → Option R) (n : Nat) (s0 : V → V → Heap → Option R) (m : Nat) : V → V → V → V → Heap → Option R := Nat.rec (motive := fun _ => V → V → V → V → Heap → Option R) (fun _ _ _ _ _ => none) (fun _ self => slices_Compact_api_Tri_api_Tri.r_l1 bd call n s0 self) m
theorem slices_Compact_api_Tri_api_Tri.r_l1_lp_e (n m0 : Nat) : slices_Compact_api_Tri_api_Tri.r_l1_lp @bdI (callA C n) n (slices_Compact_api_Tri_api_Tri.l0 n m0) = slices_Compact_api_Tri_api_Tri.l1 n m0 := by
  funext m
  induction m with
  | zero => funext v0 v3 v4 v5 H; kernel_rfl
  | succ k ih => exact (congrArg (slices_Compact_api_Tri_api_Tri.r_l1 @bdI (callA C n) n (slices_Compact_api_Tri_api_Tri.l0 n m0)) ih).trans (slices_Compact_api_Tri_api_Tri.r_l1_e n m0 k)
noncomputable def slices_Compact_api_Tri_api_Tri.r_l0 (bd : B3) (call : FuncId → List V → Heap → Option R) (n : Nat) (s0 : V → V → Heap → Option R) (v0 v3 : V) (H : Heap) : Option R :=
 (bd (lenSl v0) fun t12_1 =>
 (bd (arA .lss v3 t12_1) fun t13_2 =>
 (bd (asB t13_2) fun b3 =>
 if b3 = true then
 (bd (idxS 9 v0 v3) fun t18_4 =>
 (bd (ldN 9 t18_4 (H.more 0)) fun t19_5 =>
 (bd (arA .sub v3 (.int .i64 1)) fun t22_6 =>
 (bd (idxS 9 v0 t22_6) fun t23_7 =>
 (bd (ldN 9 t23_7 (H.more 0)) fun t24_8 =>
 (bd (eqlA P ty_api_Tri t19_5 t24_8) fun t25_9 =>
 (bd (asB t25_9) fun b10 =>
 if b10 = true then
 (bd (slSl 9 v0 (some v3) none) fun t28_11 =>
 (slices_Compact_api_Tri_api_Tri.r_l1_lp bd call n s0 n v0 v3 t28_11 (.int .i64 1) (H.more 0)))
 else
 (bd (arA .add v3 (.int .i64 1)) fun t15_12 =>
 (s0 v0 t15_12 (H.more 0))))))))))
 else
 (some (v0, H)))))
theorem slices_Compact_api_Tri_api_Tri.r_l0_e (n m0 : Nat) : slices_Compact_api_Tri_api_Tri.r_l0 @bdI (callA C n) n (slices_Compact_api_Tri_api_Tri.l0 n m0) = slices_Compact_api_Tri_api_Tri.l0 n (m0 + 1) := by
  funext v0 v3 H
  unfold slices_Compact_api_Tri_api_Tri.r_l0
  rewrite [slices_Compact_api_Tri_api_Tri.r_l1_lp_e]
  kernel_rfl
noncomputable def slices_Compact_api_Tri_api_Tri.r_l0_lp (bd : B3) (call : FuncId → List V → Heap → Option R) (n : Nat) (m : Nat) : V → V → Heap → Option R := Nat.rec (motive := fun _ => V → V → Heap → Option R) (fun _ _ _ => none) (fun _ self => slices_Compact_api_Tri_api_Tri.r_l0 bd call n self) m
theorem slices_Compact_api_Tri_api_Tri.r_l0_lp_e (n : Nat) : slices_Compact_api_Tri_api_Tri.r_l0_lp @bdI (callA C n) n = slices_Compact_api_Tri_api_Tri.l0 n := by
  funext m
  induction m with
  | zero => funext v0 v3 H; kernel_rfl
  | succ k ih => exact (congrArg (slices_Compact_api_Tri_api_Tri.r_l0 @bdI (callA C n) n) ih).trans (slices_Compact_api_Tri_api_Tri.r_l0_e n k)
noncomputable def slices_Compact_api_Tri_api_Tri.r (bd : B3) (call : FuncId → List V → Heap → Option R) (n : Nat) (v0 : V) (H : Heap) : Option R :=
 (bd (lenSl v0) fun t7_1 =>
 (bd (arA .lss t7_1 (.int .i64 2)) fun t8_2 =>
 (bd (asB t8_2) fun b3 =>
 if b3 = true then
 (some (v0, H))
 else
 (slices_Compact_api_Tri_api_Tri.r_l0_lp bd call n n v0 (.int .i64 1) H))))
theorem slices_Compact_api_Tri_api_Tri.r_e (n : Nat) (v0 : V) (H : Heap) : slices_Compact_api_Tri_api_Tri.r @bdI (callA C n) n v0 H = E C n 25 [] (argsA 0 [v0]) H (kR C 25) := by
  unfold slices_Compact_api_Tri_api_Tri.r
  rewrite [slices_Compact_api_Tri_api_Tri.r_l0_lp_e]
  kernel_rfl
noncomputable def slices_Compact_api_Tri_api_Tri.rf (bd : B3) (call : FuncId → List V → Heap → Option R) (n : Nat) (a : List V) (H : Heap) : Option R := (match a with | [v0] => slices_Compact_api_Tri_api_Tri.r bd call n v0 H | a => E C n 25 [] (argsA 0 a) H (kR C 25))
theorem slices_Compact_api_Tri_api_Tri.rf_b (n : Nat) (a : List V) (H : Heap) : (match a with | [v0] => slices_Compact_api_Tri_api_Tri.r @bdI (callA C n) n v0 H | a => E C n 25 [] (argsA 0 a) H (kR C 25)) = E C n 25 [] (argsA 0 a) H (kR C 25) := by
  split
  · exact slices_Compact_api_Tri_api_Tri.r_e n _ H
  · rfl
theorem slices_Compact_api_Tri_api_Tri.rf_e (n : Nat) (a : List V) (H : Heap) : slices_Compact_api_Tri_api_Tri.rf @bdI (callA C n) n a H = callA C (n + 1) 25 a H := by
  unfold slices_Compact_api_Tri_api_Tri.rf
  refine (slices_Compact_api_Tri_api_Tri.rf_b n a H).trans ?_
  kernel_rfl
end Go.AM.L
end
section
set_option linter.unusedVariables false
set_option linter.unusedSimpArgs false
set_option maxRecDepth 1000000
set_option linter.unusedVariables false
namespace Go.AM.L
@[irreducible] noncomputable def mesh_Mesh_Dump.l0 (n m0 : Nat) (v0 v2 v3 v20 v21 v22 : V) (H : Heap) : Option R := Lp C n 26 [1, 1, 1, 0, 1, 0, 0] m0 [(0, v0), (2, v2), (3, v3), (20, v20), (21, v21), (22, v22)] H (kB 0 (kC C n 26 [1, 1, 1, 1] (kR C 26)))
@[irreducible] noncomputable def mesh_Mesh_Dump.p1 (n : Nat) (v0 v2 v3 : V) (H : Heap) : Option R := E C n 26 [1, 1, 1, 1] [(0, v0), (2, v2), (3, v3)] H (kR C 26)
@[irreducible] noncomputable def mesh_Mesh_Dump.l2 (n m0 : Nat) (v0 v2 v3 v43 v44 v45 : V) (H : Heap) : Option R := Lp C n 26 [1, 1, 1, 1, 0, 1, 0, 0] m0 [(0, v0), (2, v2), (3, v3), (43, v43), (44, v44), (45, v45)] H (kB 2 (kC C n 26 [1, 1, 1, 1, 1] (kR C 26)))
noncomputable def mesh_Mesh_Dump.r_l2 (bd : B3) (call : FuncId → List V → Heap → Option R) (n : Nat) (s0 : V → V → V → V → V → V → Heap → Option R) (v0 v2 v3 v43 v44 v45 : V) (H : Heap) : Option R :=
 (bd (arA .lss v45 v44) fun t46_1 =>
 (bd (asB t46_1) fun b2 =>
 if b2 = true then
 (bd (idxS 1 v43 v45) fun t47_3 =>
 (bd (ld1 t47_3 H) fun t48_4 =>
 (bd (faA 2 v3) fun t49_5 =>
 (bd (ld1 t49_5 (H.more 1)) fun t50_6 =>
 (bd (nilC v0) fun t53_7 =>
 (bd (faA 4 t53_7) fun t54_8 =>
 (bd (ld1 t54_8 (H.more 1)) fun t55_9 =>
 (bd (idxS 9 t55_9 t48_4) fun t57_10 =>
 (bd (ldN 9 t57_10 (H.more 1)) fun t58_11 =>
 (bd (flA [(0, 1), (1, 9)] [(.int .i64 0), (.int .i64 0), (.int .i64 0), (.int .i64 0), (.int .i64 0), (.int .i64 0), (.int .i64 0), (.int .i64 0), (.int .i64 0), (.int .i64 0)] [(0, t48_4), (1, t58_11)]) fun t59_12 =>
 (bd (bSl 10 ty_api_Cell [(.int .i64 0), (.int .i64 0), (.int .i64 0), (.int .i64 0), (.int .i64 0), (.int .i64 0), (.int .i64 0), (.int .i64 0), (.int .i64 0), (.int .i64 0)] 1 [(0, t59_12)]) fun o13 =>
 (bd (appA 10 80 ty_api_Cell t50_6 (.slice ⟨some ((H.n + 0), 0), 1, 10, false⟩) ((H.more 1).set (H.n + 0) o13)) fun p14 =>
 (bd (faA 2 v3) fun t62_15 =>
 (bd (stA 1 t62_15 p14.1 p14.2) fun H16 =>
 (bd (arA .add v45 (.int .i64 1)) fun t63_17 =>
 (s0 v0 v2 v3 v43 v44 t63_17 H16))))))))))))))))
 else
 (bd (ldN 3 v3 H) fun t64_18 =>
 (bd (stA 3 v2 t64_18 H) fun H19 =>
 (bd (ldN 3 v2 H19) fun t20 =>
 (frzR t20 H19))))))
theorem mesh_Mesh_Dump.r_l2_e (n m0 : Nat) : mesh_Mesh_Dump.r_l2 @bdI (callA C n) n (mesh_Mesh_Dump.l2 n m0) = mesh_Mesh_Dump.l2 n (m0 + 1) := by
  funext v0 v2 v3 v43 v44 v45 H
  unfold mesh_Mesh_Dump.r_l2
  kernel_rfl
noncomputable def mesh_Mesh_Dump.r_l2_lp (bd : B3) (call : FuncId → List V → Heap → Option R) (n : Nat) (m : Nat) : V → V → V → V → V → V → Heap → Option R := Nat.rec (motive := fun _ => V → V → V → V → V → V → Heap → Option R) (fun _ _ _ _ _ _ _ => none) (fun _ self => mesh_Mesh_Dump.r_l2 bd call n self) m
theorem mesh_Mesh_Dump.r_l2_lp_e (n : Nat) : mesh_Mesh_Dump.r_l2_lp @bdI (callA C n) n = mesh_Mesh_Dump.l2 n := by
  funext m
  induction m with
  | zero => funext v0 v2 v3 v43 v44 v45 H; kernel_rfl
  | succ k ih => exact (congrArg (mesh_Mesh_Dump.r_l2 @bdI (callA C n) n) ih).trans (mesh_Mesh_Dump.r_l2_e n k)
noncomputable def mesh_Mesh_Dump.r_p1 (bd : B3) (call : FuncId → List V → Heap → Option R) (n : Nat) (v0 v2 v3 : V) (H : Heap) : Option R :=
 (bd (nilC v0) fun t40_1 =>
 (bd (faA 2 t40_1) fun t41_2 =>
 (bd (ld1 t41_2 H) fun t42_3 =>
 (bd (call 52 [t42_3] H) fun r4 =>
 (bd (lenSl r4.1) fun t44_5 =>
 (mesh_Mesh_Dump.r_l2_lp bd call n n v0 v2 v3 r4.1 t44_5 (.int .i64 0) r4.2))))))
theorem mesh_Mesh_Dump.r_p1_e (n : Nat) : mesh_Mesh_Dump.r_p1 @bdI (callA C n) n = mesh_Mesh_Dump.p1 n := by
  funext v0 v2 v3 H
  unfold mesh_Mesh_Dump.r_p1
  rewrite [mesh_Mesh_Dump.r_l2_lp_e]
  kernel_rfl
noncomputable def mesh_Mesh_Dump.r_l0 (bd : B3) (call : FuncId → List V → Heap → Option R) (n : Nat) (s0 : V → V → V → V → V → V → Heap → Option R) (v0 v2 v3 v20 v21 v22 : V) (H : Heap) : Option R :=
 (bd (arA .lss v22 v21) fun t23_1 =>
 (bd (asB t23_1) fun b2 =>
 if b2 = true then
 (bd (idxS 1 v20 v22) fun t24_3 =>
 (bd (ld1 t24_3 H) fun t25_4 =>
 (bd (faA 1 v3) fun t26_5 =>
 (bd (ld1 t26_5 (H.more 1)) fun t27_6 =>
 (bd (nilC v0) fun t29_7 =>
 (bd (faA 3 t29_7) fun t30_8 =>
 (bd (ld1 t30_8 (H.more 1)) fun t31_9 =>
 (bd (idxS 4 t31_9 t25_4) fun t33_10 =>
 (bd (ldN 4 t33_10 (H.more 1)) fun t34_11 =>
 (bd (bSl 4 ty_api_Vert [(.int .i64 0), (.int .i64 0), (.int .i64 0), (.int .i64 0)] 1 [(0, t34_11)]) fun o12 =>
 (bd (appA 4 32 ty_api_Vert t27_6 (.slice ⟨some ((H.n + 0), 0), 1, 4, false⟩) ((H.more 1).set (H.n + 0) o12)) fun p13 =>
 (bd (faA 1 v3) fun t37_14 =>
 (bd (stA 1 t37_14 p13.1 p13.2) fun H15 =>
 (bd (arA .add v22 (.int .i64 1)) fun t38_16 =>
 (s0 v0 v2 v3 v20 v21 t38_16 H15)))))))))))))))
 else
 (mesh_Mesh_Dump.r_p1 bd call n v0 v2 v3 H)))
theorem mesh_Mesh_Dump.r_l0_e (n m0 : Nat) : mesh_Mesh_Dump.r_l0 @bdI (callA C n) n (mesh_Mesh_Dump.l0 n m0) = mesh_Mesh_Dump.l0 n (m0 + 1) := by
  funext v0 v2 v3 v20 v21 v22 H
  unfold mesh_Mesh_Dump.r_l0
  rewrite [mesh_Mesh_Dump.r_p1_e]
  kernel_rfl
noncomputable def mesh_Mesh_Dump.r_l0_lp (bd : B3) (call : FuncId → List V → Heap → Option R) (n : Nat) (m : Nat) : V → V → V → V → V → V → Heap → Option R := Nat.rec (motive := fun _ => V → V → V → V → V → V → Heap → Option R) (fun _ _ _ _ _ _ _ => none) (fun _ self => mesh_Mesh_Dump.r_l0 bd call n self) m
theorem mesh_Mesh_Dump.r_l0_lp_e (n : Nat) : mesh_Mesh_Dump.r_l0_lp @bdI (callA C n) n = mesh_Mesh_Dump.l0 n := by
  funext m
  induction m with
  | zero => funext v0 v2 v3 v20 v21 v22 H; kernel_rfl
  | succ k ih => exact (congrArg (mesh_Mesh_Dump.r_l0 @bdI (callA C n) n) ih).trans (mesh_Mesh_Dump.r_l0_e n k)
noncomputable def mesh_Mesh_Dump.r (bd : B3) (call : FuncId → List V → Heap → Option R) (n : Nat) (v0 : V) (H : Heap) : Option R :=
 (bd (eqlA P ty_p_mesh_Mesh v0 (.ptr none)) fun t9_1 =>
 (bd (asB t9_1) fun b2 =>
 if b2 = true then
 (bd (flA [(0, 1), (1, 1), (2, 1)] [(.int .i64 0), (.slice ⟨none, 0, 0, false⟩), (.slice ⟨none, 0, 0, false⟩)] []) fun t10_3 =>
 (bd (stA 3 (.ptr (some (H.n, 0))) t10_3 (H.push (.cells [(.int .i64 0), (.slice ⟨none, 0, 0, false⟩), (.slice ⟨none, 0, 0, false⟩)] ty_api_Dump false))) fun H4 =>
 (bd (ldN 3 (.ptr (some (H.n, 0))) H4) fun t5 =>
 (frzR t5 H4))))
 else
 (bd (nilC v0) fun t12_6 =>
 (bd (faA 0 t12_6) fun t13_7 =>
 (bd (ld1 t13_7 (H.push (.cells [(.int .i64 0), (.slice ⟨none, 0, 0, false⟩), (.slice ⟨none, 0, 0, false⟩)] ty_api_Dump false))) fun t14_8 =>
 (bd (flA [(0, 1), (1, 1), (2, 1)] [(.int .i64 0), (.slice ⟨none, 0, 0, false⟩), (.slice ⟨none, 0, 0, false⟩)] [(0, t14_8)]) fun t15_9 =>
 (bd (stA 3 (.ptr (some ((H.push (.cells [(.int .i64 0), (.slice ⟨none, 0, 0, false⟩), (.slice ⟨none, 0, 0, false⟩)] ty_api_Dump false)).n, 0))) t15_9 ((H.push (.cells [(.int .i64 0), (.slice ⟨none, 0, 0, false⟩), (.slice ⟨none, 0, 0, false⟩)] ty_api_Dump false)).push (.cells [(.int .i64 0), (.slice ⟨none, 0, 0, false⟩), (.slice ⟨none, 0, 0, false⟩)] ty_api_Dump false))) fun H10 =>
 (bd (nilC v0) fun t17_11 =>
 (bd (faA 1 t17_11) fun t18_12 =>
 (bd (ld1 t18_12 H10) fun t19_13 =>
 (bd (call 52 [t19_13] H10) fun r14 =>
 (bd (lenSl r14.1) fun t21_15 =>
 (mesh_Mesh_Dump.r_l0_lp bd call n n v0 (.ptr (some (H.n, 0))) (.ptr (some ((H.push (.cells [(.int .i64 0), (.slice ⟨none, 0, 0, false⟩), (.slice ⟨none, 0, 0, false⟩)] ty_api_Dump false)).n, 0))) r14.1 t21_15 (.int .i64 0) r14.2)))))))))))))
theorem mesh_Mesh_Dump.r_e (n : Nat) (v0 : V) (H : Heap) : mesh_Mesh_Dump.r @bdI (callA C n) n v0 H = E C n 26 [] (argsA 0 [v0]) H (kR C 26) := by
  unfold mesh_Mesh_Dump.r
  rewrite [mesh_Mesh_Dump.r_l0_lp_e]
  kernel_rfl
noncomputable def mesh_Mesh_Dump.rf (bd : B3) (call : FuncId → List V → Heap → Option R) (n : Nat) (a : List V) (H : Heap) : Option R := (match a with | [v0] => mesh_Mesh_Dump.r bd call n v0 H | a => E C n 26 [] (argsA 0 a) H (kR C 26))
theorem mesh_Mesh_Dump.rf_b (n : Nat) (a : List V) (H : Heap) : (match a with | [v0] => mesh_Mesh_Dump.r @bdI (callA C n) n v0 H | a => E C n 26 [] (argsA 0 a) H (kR C 26)) = E C n 26 [] (argsA 0 a) H (kR C 26) := by
  split
  · exact mesh_Mesh_Dump.r_e n _ H
  · rfl
theorem mesh_Mesh_Dump.rf_e (n : Nat) (a : List V) (H : Heap) : mesh_Mesh_Dump.rf @bdI (callA C n) n a H = callA C (n + 1) 26 a H := by
  unfold mesh_Mesh_Dump.rf
  refine (mesh_Mesh_Dump.rf_b n a H).trans ?_
  kernel_rfl
@[irreducible] noncomputable def unfold_judge_add.l0 (n m0 : Nat) (v0 v3 v5 v18 v19 : V) (H : Heap) : Option R := Lp C n 28 [1, 1, 0, 1, 0, 0] m0 [(0, v0), (3, v3), (5, v5), (18, v18), (19, v19)] H (kB 0 (kC C n 28 [1, 1, 1] (kR C 28)))
@[irreducible] noncomputable def unfold_judge_add.p1 (n : Nat) (v0 v3 v5 : V) (H : Heap) : Option R := E C n 28 [1, 1, 1] [(0, v0), (3, v3), (5, v5)] H (kR C 28)
@[irreducible] noncomputable def unfold_judge_add.l2 (n m0 : Nat) (v0 v3 v76 : V) (H : Heap) : Option R := Lp C n 28 [1, 1, 1, 1, 1, 0, 1, 0, 0] m0 [(0, v0), (3, v3), (76, v76)] H (kB 2 (kC C n 28 [1, 1, 1, 1, 1, 1] (kR C 28)))
noncomputable def unfold_judge_add.r_l2 (bd : B3) (call : FuncId → List V → Heap → Option R) (n : Nat) (s0 : V → V → V → Heap → Option R) (v0 v3 v76 : V) (H : Heap) : Option R :=
 (bd (arA .lss v76 (.int .i64 3)) fun t77_1 =>
 (bd (asB t77_1) fun b2 =>
 if b2 = true then
 (bd (ldN 9 v3 H) fun t79_3 =>
 (bd (call 57 [t79_3, v76] H) fun r4 =>
 (bd (stA 4 (.ptr (some (r4.2.n, 0))) r4.1 (r4.2.push (.cells [(.int .i64 0), (.int .i64 0), (.int .i64 0), (.int .i64 0)] ty_unfold_edge false))) fun H5 =>
 (bd (nilC v0) fun t84_6 =>
 (bd (faA 2 t84_6) fun t85_7 =>
 (bd (ld1 t85_7 (H5.more 1)) fun t86_8 =>
 (bd (ldN 4 (.ptr (some (r4.2.n, 0))) (H5.more 1)) fun t87_9 =>
 (bd (lookM P ty_unfold_edge (.agg [(.int .i64 0), (.int .i64 0), (.int .i64 0)]) t86_8 t87_9 true (H5.more 1)) fun t88_10 =>
 (bd (extA t88_10 0) fun t89_11 =>
 (bd (stA 3 (.ptr (some ((H5.n + 0), 0))) t89_11 ((H5.more 1).set (H5.n + 0) (.cells [(.int .i64 0), (.int .i64 0), (.int .i64 0)] ty_api_Knot false))) fun H12 =>
 (bd (extA t88_10 1) fun t90_13 =>
 (bd (asB t90_13) fun b14 =>
 if b14 = true then
 (some ((.bool false), H12))
 else
 (bd (arA .add v76 (.int .i64 2)) fun t93_15 =>
 (bd (arA .rem t93_15 (.int .i64 3)) fun t94_16 =>
 (bd (faA 3 v3) fun t105_17 =>
 (bd (idxP 3 2 t105_17 t94_16) fun t106_18 =>
 (bd (ldN 2 t106_18 (H12.more 0)) fun t107_19 =>
 (bd (faA 3 v3) fun t109_20 =>
 (bd (idxP 3 2 t109_20 v76) fun t110_21 =>
 (bd (ldN 2 t110_21 (H12.more 0)) fun t111_22 =>
 (bd (call 58 [t107_19, t111_22] (H12.more 0)) fun r23 =>
 (bd (nilC v0) fun t96_24 =>
 (bd (faA 2 t96_24) fun t97_25 =>
 (bd (ld1 t97_25 r23.2) fun t98_26 =>
 (bd (chk (ld1 t97_25 (H12.more 0)) t98_26) fun _ =>
 (bd (ldN 4 (.ptr (some (r4.2.n, 0))) r23.2) fun t99_27 =>
 (bd (chk (ldN 4 (.ptr (some (r4.2.n, 0))) (H12.more 0)) t99_27) fun _ =>
 (bd (faA 0 v3) fun t101_28 =>
 (bd (idxP 3 1 t101_28 t94_16) fun t102_29 =>
 (bd (ld1 t102_29 r23.2) fun t103_30 =>
 (bd (chk (ld1 t102_29 (H12.more 0)) t103_30) fun _ =>
 (bd (flA [(0, 1), (1, 2)] [(.int .i64 0), (.int .i64 0), (.int .i64 0)] [(0, t103_30), (1, r23.1)]) fun t113_31 =>
 (bd (updM P ty_unfold_edge t98_26 t99_27 t113_31 r23.2) fun H32 =>
 (bd (arA .add v76 (.int .i64 1)) fun t114_33 =>
 (s0 v0 v3 t114_33 H32)))))))))))))))))))))))))))))))))))
 else
 (some ((.bool true), H))))
theorem unfold_judge_add.r_l2_e (n m0 : Nat) : unfold_judge_add.r_l2 @bdI (callA C n) n (unfold_judge_add.l2 n m0) = unfold_judge_add.l2 n (m0 + 1) := by
  funext v0 v3 v76 H
  unfold unfold_judge_add.r_l2
  kernel_rfl
noncomputable def unfold_judge_add.r_l2_lp (bd : B3) (call : FuncId → List V → Heap → Option R) (n : Nat) (m : Nat) : V → V → V → Heap → Option R := Nat.rec (motive := fun _ => V → V → V → Heap → Option R) (fun _ _ _ _ => none) (fun _ self => unfold_judge_add.r_l2 bd call n self) m
theorem unfold_judge_add.r_l2_lp_e (n : Nat) : unfold_judge_add.r_l2_lp @bdI (callA C n) n = unfold_judge_add.l2 n := by
  funext m
  induction m with
  | zero => funext v0 v3 v76 H; kernel_rfl
  | succ k ih => exact (congrArg (unfold_judge_add.r_l2 @bdI (callA C n) n) ih).trans (unfold_judge_add.r_l2_e n k)
noncomputable def unfold_judge_add.r_p1 (bd : B3) (call : FuncId → List V → Heap → Option R) (n : Nat) (v0 v3 v5 : V) (H : Heap) : Option R :=
 (bd (idxP 3 2 v5 (.int .i64 0)) fun t53_1 =>
 (bd (ldN 2 t53_1 H) fun t54_2 =>
 (bd (idxP 3 2 v5 (.int .i64 1)) fun t55_3 =>
 (bd (ldN 2 t55_3 H) fun t56_4 =>
 (bd (idxP 3 2 v5 (.int .i64 2)) fun t57_5 =>
 (bd (ldN 2 t57_5 H) fun t58_6 =>
 (bd (call 54 [t54_2, t56_4, t58_6] H) fun r7 =>
 (bd (arA .neq r7.1 (.int .i64 1)) fun t60_8 =>
 (bd (asB t60_8) fun b9 =>
 if b9 = true then
 (some ((.bool false), r7.2))
 else
 (bd (idxP 3 2 v5 (.int .i64 0)) fun t66_10 =>
 (bd (ldN 2 t66_10 (r7.2.more 0)) fun t67_11 =>
 (bd (idxP 3 2 v5 (.int .i64 1)) fun t68_12 =>
 (bd (ldN 2 t68_12 (r7.2.more 0)) fun t69_13 =>
 (bd (idxP 3 2 v5 (.int .i64 2)) fun t70_14 =>
 (bd (ldN 2 t70_14 (r7.2.more 0)) fun t71_15 =>
 (bd (call 56 [t67_11, t69_13, t71_15] (r7.2.more 0)) fun r16 =>
 (bd (nilC v0) fun t63_17 =>
 (bd (faA 3 t63_17) fun t64_18 =>
 (bd (ldN 2 t64_18 r16.2) fun t65_19 =>
 (bd (chk (ldN 2 t64_18 (r7.2.more 0)) t65_19) fun _ =>
 (bd (call 55 [t65_19, r16.1] r16.2) fun r20 =>
 (bd (nilC v0) fun t74_21 =>
 (bd (faA 3 t74_21) fun t75_22 =>
 (bd (stA 2 t75_22 r20.1 r20.2) fun H23 =>
 (unfold_judge_add.r_l2_lp bd call n n v0 v3 (.int .i64 0) H23)))))))))))))))))))))))))
theorem unfold_judge_add.r_p1_e (n : Nat) : unfold_judge_add.r_p1 @bdI (callA C n) n = unfold_judge_add.p1 n := by
  funext v0 v3 v5 H
  unfold unfold_judge_add.r_p1
  rewrite [unfold_judge_add.r_l2_lp_e]
  kernel_rfl
noncomputable def unfold_judge_add.r_l0 (bd : B3) (call : FuncId → List V → Heap → Option R) (n : Nat) (s0 : V → V → V → V → V → Heap → Option R) (v0 v3 v5 v18 v19 : V) (H : Heap) : Option R :=
 (bd (arA .lss v19 (.int .i64 3)) fun t20_1 =>
 (bd (asB t20_1) fun b2 =>
 if b2 = true then
 (bd (ix1 3 v18 v19) fun t22_3 =>
 (bd (nilC v0) fun t25_4 =>
 (bd (faA 1 t25_4) fun t26_5 =>
 (bd (ld1 t26_5 H) fun t27_6 =>
 (bd (lookM P ty_int (.agg [(.int .i64 0), (.int .i64 0)]) t27_6 t22_3 true H) fun t29_7 =>
 (bd (extA t29_7 0) fun t30_8 =>
 (bd (extA t29_7 1) fun t31_9 =>
 (bd (stA 2 (.ptr (some (H.n, 0))) t30_8 (H.push (.cells [(.int .i64 0), (.int .i64 0)] ty_api_Point false))) fun H10 =>
 (bd (faA 3 v3) fun t36_11 =>
 (bd (idxP 3 2 t36_11 v19) fun t37_12 =>
 (bd (ldN 2 t37_12 H10) fun t38_13 =>
 (bd (flA [(0, 1), (1, 2)] [(.int .i64 0), (.int .i64 0), (.int .i64 0)] [(0, t22_3), (1, t38_13)]) fun t39_14 =>
 (bd (call 53 [v0, t39_14] H10) fun r15 =>
 (bd (extA r15.1 0) fun t41_16 =>
 (bd (extA r15.1 1) fun t42_17 =>
 (bd (stA 2 (.ptr (some (r15.2.n, 0))) t41_16 (r15.2.push (.cells [(.int .i64 0), (.int .i64 0)] ty_api_Point false))) fun H18 =>
 (bd (unA .not t31_9) fun t44_19 =>
 (bd (asB t44_19) fun b20 =>
 if b20 = true then
 (some ((.bool false), H18))
 else
 (bd (unA .not t42_17) fun t47_21 =>
 (bd (asB t47_21) fun b22 =>
 if b22 = true then
 (some ((.bool false), H18))
 else
 (bd (ldN 2 (.ptr (some (r15.2.n, 0))) H18) fun t50_23 =>
 (bd (idxP 3 2 v5 v19) fun t51_24 =>
 (bd (stA 2 t51_24 t50_23 H18) fun H25 =>
 (bd (arA .add v19 (.int .i64 1)) fun t52_26 =>
 (s0 v0 v3 v5 v18 t52_26 H25)))))))))))))))))))))))))
 else
 (unfold_judge_add.r_p1 bd call n v0 v3 v5 H)))
theorem unfold_judge_add.r_l0_e (n m0 : Nat) : unfold_judge_add.r_l0 @bdI (callA C n) n (unfold_judge_add.l0 n m0) = unfold_judge_add.l0 n (m0 + 1) := by
  funext v0 v3 v5 v18 v19 H
  unfold unfold_judge_add.r_l0
  rewrite [unfold_judge_add.r_p1_e]
  kernel_rfl
noncomputable def unfold_judge_add.r_l0_lp (bd : B3) (call : FuncId → List V → Heap → Option R) (n : Nat) (m : Nat) : V → V → V → V → V → Heap → Option R := Nat.rec (motive := fun _ => V → V → V → V → V → Heap → Option R) (fun _ _ _ _ _ _ => none) (fun _ self => unfold_judge_add.r_l0 bd call n self) m
theorem unfold_judge_add.r_l0_lp_e (n : Nat) : unfold_judge_add.r_l0_lp @bdI (callA C n) n = unfold_judge_add.l0 n := by
  funext m
  induction m with
  | zero => funext v0 v3 v5 v18 v19 H; kernel_rfl
  | succ k ih => exact (congrArg (unfold_judge_add.r_l0 @bdI (callA C n) n) ih).trans (unfold_judge_add.r_l0_e n k)
noncomputable def unfold_judge_add.r (bd : B3) (call : FuncId → List V → Heap → Option R) (n : Nat) (v0 v1 : V) (H : Heap) : Option R :=
 (bd (boxA ty_api_Tri v1) fun o1 =>
 (bd (faA 0 (.ptr (some (H.n, 0)))) fun t17_2 =>
 (bd (ldN 3 t17_2 ((H.push o1).push (.cells [(.int .i64 0), (.int .i64 0), (.int .i64 0), (.int .i64 0), (.int .i64 0), (.int .i64 0)] ty_3_api_Point false))) fun t18_3 =>
 (unfold_judge_add.r_l0_lp bd call n n v0 (.ptr (some (H.n, 0))) (.ptr (some ((H.push o1).n, 0))) t18_3 (.int .i64 0) ((H.push o1).push (.cells [(.int .i64 0), (.int .i64 0), (.int .i64 0), (.int .i64 0), (.int .i64 0), (.int .i64 0)] ty_3_api_Point false))))))
theorem unfold_judge_add.r_e (n : Nat) (v0 v1 : V) (H : Heap) : unfold_judge_add.r @bdI (callA C n) n v0 v1 H = E C n 28 [] (argsA 0 [v0, v1]) H (kR C 28) := by
  unfold unfold_judge_add.r
  rewrite [unfold_judge_add.r_l0_lp_e]
  kernel_rfl
noncomputable def unfold_judge_add.rf (bd : B3) (call : FuncId → List V → Heap → Option R) (n : Nat) (a : List V) (H : Heap) : Option R := (match a with | [v0, v1] => unfold_judge_add.r bd call n v0 v1 H | a => E C n 28 [] (argsA 0 a) H (kR C 28))
theorem unfold_judge_add.rf_b (n : Nat) (a : List V) (H : Heap) : (match a with | [v0, v1] => unfold_judge_add.r @bdI (callA C n) n v0 v1 H | a => E C n 28 [] (argsA 0 a) H (kR C 28)) = E C n 28 [] (argsA 0 a) H (kR C 28) := by
  split
  · exact unfold_judge_add.r_e n _ _ H
  · rfl
theorem unfold_judge_add.rf_e (n : Nat) (a : List V) (H : Heap) : unfold_judge_add.rf @bdI (callA C n) n a H = callA C (n + 1) 28 a H := by
  unfold unfold_judge_add.rf
  refine (unfold_judge_add.rf_b n a H).trans ?_
  kernel_rfl
@[irreducible] noncomputable def wide_Mul.p0 (n : Nat) (v0 v1 v4 v5 v6 : V) (H : Heap) : Option R := E C n 29 [1, 1, 1] [(0, v0), (1, v1), (4, v4), (5, v5), (6, v6)] H (kR C 29)
noncomputable def wide_Mul.r_p0 (bd : B3) (call : FuncId → List V → Heap → Option R) (n : Nat) (v0 v1 v4 v5 v6 : V) (H : Heap) : Option R :=
 (bd (arA .lss v1 (.int .i64 0)) fun t22_1 =>
 (bd (asB t22_1) fun b2 =>
 if b2 = true then
 (bd (cvInt .u64 v0) fun t25_3 =>
 (bd (arA .sub v5 t25_3) fun t26_4 =>
 (bd (cvInt .i64 t26_4) fun t28_5 =>
 (bd (flA [(0, 1), (1, 1)] [(.int .i64 0), (.int .u64 0)] [(0, t28_5), (1, v6)]) fun t30_6 =>
 (bd (stA 2 v4 t30_6 H) fun H7 =>
 (bd (ldN 2 v4 H7) fun t8 =>
 (some (t8, H7))))))))
 else
 (bd (cvInt .i64 v5) fun t28_9 =>
 (bd (flA [(0, 1), (1, 1)] [(.int .i64 0), (.int .u64 0)] [(0, t28_9), (1, v6)]) fun t30_10 =>
 (bd (stA 2 v4 t30_10 H) fun H11 =>
 (bd (ldN 2 v4 H11) fun t12 =>
 (some (t12, H11))))))))
theorem wide_Mul.r_p0_e (n : Nat) : wide_Mul.r_p0 @bdI (callA C n) n = wide_Mul.p0 n := by
  funext v0 v1 v4 v5 v6 H
  unfold wide_Mul.r_p0
  kernel_rfl
noncomputable def wide_Mul.r (bd : B3) (call : FuncId → List V → Heap → Option R) (n : Nat) (v0 v1 : V) (H : Heap) : Option R :=
 (bd (cvInt .u64 v0) fun t9_1 =>
 (bd (cvInt .u64 v1) fun t11_2 =>
 (bd (call 59 [t9_1, t11_2] (H.push (.cells [(.int .i64 0), (.int .u64 0)] ty_api_Wide false))) fun r3 =>
 (bd (extA r3.1 0) fun t13_4 =>
 (bd (extA r3.1 1) fun t14_5 =>
 (bd (arA .lss v0 (.int .i64 0)) fun t16_6 =>
 (bd (asB t16_6) fun b7 =>
 if b7 = true then
 (bd (cvInt .u64 v1) fun t19_8 =>
 (bd (arA .sub t13_4 t19_8) fun t20_9 =>
 (wide_Mul.r_p0 bd call n v0 v1 (.ptr (some (H.n, 0))) t20_9 t14_5 r3.2)))
 else
 (wide_Mul.r_p0 bd call n v0 v1 (.ptr (some (H.n, 0))) t13_4 t14_5 r3.2))))))))
theorem wide_Mul.r_e (n : Nat) (v0 v1 : V) (H : Heap) : wide_Mul.r @bdI (callA C n) n v0 v1 H = E C n 29 [] (argsA 0 [v0, v1]) H (kR C 29) := by
  unfold wide_Mul.r
  rewrite [wide_Mul.r_p0_e]
  kernel_rfl
noncomputable def wide_Mul.rf (bd : B3) (call : FuncId → List V → Heap → Option R) (n : Nat) (a : List V) (H : Heap) : Option R := pureA a H fun a => (match a with | [v0, v1] => wide_Mul.r bd call n v0 v1 ⟨0, .nil⟩ | a => E C n 29 [] (argsA 0 a) ⟨0, .nil⟩ (kR C 29))
theorem wide_Mul.rf_b (n : Nat) (a : List V) (H : Heap) : (match a with | [v0, v1] => wide_Mul.r @bdI (callA C n) n v0 v1 H | a => E C n 29 [] (argsA 0 a) H (kR C 29)) = E C n 29 [] (argsA 0 a) H (kR C 29) := by
  split
  · exact wide_Mul.r_e n _ _ H
  · rfl
theorem wide_Mul.rf_e (n : Nat) (a : List V) (H : Heap) : wide_Mul.rf @bdI (callA C n) n a H = callA C (n + 1) 29 a H := by
  unfold wide_Mul.rf
  refine (congrArg (pureA a H) (funext fun a => wide_Mul.rf_b n a ⟨0, .nil⟩)).trans ?_
  kernel_rfl
@[irreducible] noncomputable def unfold_judge_fine.l0 (n m0 : Nat) (v0 v4 v8 v10 v46 : V) (H : Heap) : Option R := Lp C n 30 [1, 1, 1, 1, 1, 1, 0, 1, 0, 0] m0 [(0, v0), (4, v4), (8, v8), (10, v10), (46, v46)] H (kB 0 (kC C n 30 [1, 1, 1, 1, 1, 1, 1] (kR C 30)))
@[irreducible] noncomputable def unfold_judge_fine.p1 (n : Nat) (v0 v8 v10 : V) (H : Heap) : Option R := E C n 30 [1, 1, 1, 1, 1, 1, 1] [(0, v0), (8, v8), (10, v10)] H (kR C 30)
noncomputable def unfold_judge_fine.r_p1 (bd : B3) (call : FuncId → List V → Heap → Option R) (n : Nat) (v0 v8 v10 : V) (H : Heap) : Option R :=
 (bd (ldN 3 v8 H) fun t68_1 =>
 (bd (call 53 [v0, t68_1] H) fun r2 =>
 (bd (extA r2.1 0) fun t70_3 =>
 (bd (extA r2.1 1) fun t71_4 =>
 (bd (stA 2 (.ptr (some (r2.2.n, 0))) t70_3 (r2.2.push (.cells [(.int .i64 0), (.int .i64 0)] ty_api_Point false))) fun H5 =>
 (bd (asB t71_4) fun b6 =>
 if b6 = true then
 (bd (idxP 3 2 v10 (.int .i64 0)) fun t74_7 =>
 (bd (ldN 2 t74_7 H5) fun t75_8 =>
 (bd (idxP 3 2 v10 (.int .i64 1)) fun t76_9 =>
 (bd (ldN 2 t76_9 H5) fun t77_10 =>
 (bd (idxP 3 2 v10 (.int .i64 2)) fun t78_11 =>
 (bd (ldN 2 t78_11 H5) fun t79_12 =>
 (bd (ldN 2 (.ptr (some (r2.2.n, 0))) H5) fun t80_13 =>
 (bd (call 61 [t75_8, t77_10, t79_12, t80_13] H5) fun r14 =>
 (bd (unA .not r14.1) fun t82_15 =>
 (some (t82_15, r14.2)))))))))))
 else
 (some ((.bool false), H5))))))))
theorem unfold_judge_fine.r_p1_e (n : Nat) : unfold_judge_fine.r_p1 @bdI (callA C n) n = unfold_judge_fine.p1 n := by
  funext v0 v8 v10 H
  unfold unfold_judge_fine.r_p1
  kernel_rfl
noncomputable def unfold_judge_fine.r_l0 (bd : B3) (call : FuncId → List V → Heap → Option R) (n : Nat) (s0 : V → V → V → V → V → Heap → Option R) (v0 v4 v8 v10 v46 : V) (H : Heap) : Option R :=
 (bd (arA .lss v46 (.int .i64 3)) fun t47_1 =>
 (bd (asB t47_1) fun b2 =>
 if b2 = true then
 (bd (faA 0 v4) fun t53_3 =>
 (bd (idxP 3 1 t53_3 v46) fun t54_4 =>
 (bd (ld1 t54_4 (H.more 0)) fun t55_5 =>
 (bd (faA 3 v4) fun t57_6 =>
 (bd (idxP 3 2 t57_6 v46) fun t58_7 =>
 (bd (ldN 2 t58_7 (H.more 0)) fun t59_8 =>
 (bd (flA [(0, 1), (1, 2)] [(.int .i64 0), (.int .i64 0), (.int .i64 0)] [(0, t55_5), (1, t59_8)]) fun t60_9 =>
 (bd (call 53 [v0, t60_9] (H.more 0)) fun r10 =>
 (bd (extA r10.1 0) fun t62_11 =>
 (bd (idxP 3 2 v10 v46) fun t64_12 =>
 (bd (stA 2 t64_12 t62_11 r10.2) fun H13 =>
 (bd (extA r10.1 1) fun t63_14 =>
 (bd (arA .add v46 (.int .i64 1)) fun t65_15 =>
 (s0 v0 v4 v8 v10 t65_15 H13))))))))))))))
 else
 (unfold_judge_fine.r_p1 bd call n v0 v8 v10 H)))
theorem unfold_judge_fine.r_l0_e (n m0 : Nat) : unfold_judge_fine.r_l0 @bdI (callA C n) n (unfold_judge_fine.l0 n m0) = unfold_judge_fine.l0 n (m0 + 1) := by
  funext v0 v4 v8 v10 v46 H
  unfold unfold_judge_fine.r_l0
  rewrite [unfold_judge_fine.r_p1_e]
  kernel_rfl
noncomputable def unfold_judge_fine.r_l0_lp (bd : B3) (call : FuncId → List V → Heap → Option R) (n : Nat) (m : Nat) : V → V → V → V → V → Heap → Option R := Nat.rec (motive := fun _ => V → V → V → V → V → Heap → Option R) (fun _ _ _ _ _ _ => none) (fun _ self => unfold_judge_fine.r_l0 bd call n self) m
theorem unfold_judge_fine.r_l0_lp_e (n : Nat) : unfold_judge_fine.r_l0_lp @bdI (callA C n) n = unfold_judge_fine.l0 n := by
  funext m
  induction m with
  | zero => funext v0 v4 v8 v10 v46 H; kernel_rfl
  | succ k ih => exact (congrArg (unfold_judge_fine.r_l0 @bdI (callA C n) n) ih).trans (unfold_judge_fine.r_l0_e n k)
noncomputable def unfold_judge_fine.r (bd : B3) (call : FuncId → List V → Heap → Option R) (n : Nat) (v0 v1 v2 : V) (H : Heap) : Option R :=
 (bd (boxA ty_api_Tri v1) fun o1 =>
 (bd (ldN 9 (.ptr (some (H.n, 0))) (H.push o1)) fun t14_2 =>
 (bd (call 57 [t14_2, v2] (H.push o1)) fun r3 =>
 (bd (stA 4 (.ptr (some (r3.2.n, 0))) r3.1 (r3.2.push (.cells [(.int .i64 0), (.int .i64 0), (.int .i64 0), (.int .i64 0)] ty_unfold_edge false))) fun H4 =>
 (bd (flA [(0, 1), (1, 1)] [(.int .i64 0), (.int .i64 0)] []) fun t26_5 =>
 (bd (faA 2 (.ptr (some (r3.2.n, 0)))) fun t27_6 =>
 (bd (ldN 2 t27_6 (H4.more 1)) fun t28_7 =>
 (bd (call 58 [t26_5, t28_7] (H4.more 1)) fun r8 =>
 (bd (nilC v0) fun t19_9 =>
 (bd (faA 2 t19_9) fun t20_10 =>
 (bd (ld1 t20_10 r8.2) fun t21_11 =>
 (bd (chk (ld1 t20_10 (H4.more 1)) t21_11) fun _ =>
 (bd (faA 1 (.ptr (some (r3.2.n, 0)))) fun t22_12 =>
 (bd (ld1 t22_12 r8.2) fun t23_13 =>
 (bd (chk (ld1 t22_12 (H4.more 1)) t23_13) fun _ =>
 (bd (faA 0 (.ptr (some (r3.2.n, 0)))) fun t24_14 =>
 (bd (ld1 t24_14 r8.2) fun t25_15 =>
 (bd (chk (ld1 t24_14 (H4.more 1)) t25_15) fun _ =>
 (bd (flA [(0, 1), (1, 1), (2, 2)] [(.int .i64 0), (.int .i64 0), (.int .i64 0), (.int .i64 0)] [(0, t23_13), (1, t25_15), (2, r8.1)]) fun t30_16 =>
 (bd (lookM P ty_unfold_edge (.agg [(.int .i64 0), (.int .i64 0), (.int .i64 0)]) t21_11 t30_16 true r8.2) fun t31_17 =>
 (bd (extA t31_17 0) fun t32_18 =>
 (bd (stA 3 (.ptr (some ((H4.n + 0), 0))) t32_18 (r8.2.set (H4.n + 0) (.cells [(.int .i64 0), (.int .i64 0), (.int .i64 0)] ty_api_Knot false))) fun H19 =>
 (bd (extA t31_17 1) fun t33_20 =>
 (bd (unA .not t33_20) fun t35_21 =>
 (bd (asB t35_21) fun b22 =>
 if b22 = true then
 (some ((.bool false), H19))
 else
 (bd (faA 1 (.ptr (some ((H4.n + 0), 0)))) fun t36_23 =>
 (bd (ldN 2 t36_23 (H19.more 0)) fun t37_24 =>
 (bd (arA .add v2 (.int .i64 1)) fun t39_25 =>
 (bd (arA .rem t39_25 (.int .i64 3)) fun t40_26 =>
 (bd (faA 3 (.ptr (some (H.n, 0)))) fun t41_27 =>
 (bd (idxP 3 2 t41_27 t40_26) fun t42_28 =>
 (bd (ldN 2 t42_28 (H19.more 0)) fun t43_29 =>
 (bd (call 60 [t37_24, t43_29] (H19.more 0)) fun r30 =>
 (bd (faA 1 (.ptr (some ((H4.n + 0), 0)))) fun t45_31 =>
 (bd (stA 2 t45_31 r30.1 r30.2) fun H32 =>
 (unfold_judge_fine.r_l0_lp bd call n n v0 (.ptr (some (H.n, 0))) (.ptr (some ((H4.n + 0), 0))) (.ptr (some (H32.n, 0))) (.int .i64 0) (H32.push (.cells [(.int .i64 0), (.int .i64 0), (.int .i64 0), (.int .i64 0), (.int .i64 0), (.int .i64 0)] ty_3_api_Point false))))))))))))))))))))))))))))))))))))))
theorem unfold_judge_fine.r_e (n : Nat) (v0 v1 v2 : V) (H : Heap) : unfold_judge_fine.r @bdI (callA C n) n v0 v1 v2 H = E C n 30 [] (argsA 0 [v0, v1, v2]) H (kR C 30) := by
  unfold unfold_judge_fine.r
  rewrite [unfold_judge_fine.r_l0_lp_e]
  kernel_rfl
noncomputable def unfold_judge_fine.rf (bd : B3) (call : FuncId → List V → Heap → Option R) (n : Nat) (a : List V) (H : Heap) : Option R := (match a with | [v0, v1, v2] => unfold_judge_fine.r bd call n v0 v1 v2 H | a => E C n 30 [] (argsA 0 a) H (kR C 30))
theorem unfold_judge_fine.rf_b (n : Nat) (a : List V) (H : Heap) : (match a with | [v0, v1, v2] => unfold_judge_fine.r @bdI (callA C n) n v0 v1 v2 H | a => E C n 30 [] (argsA 0 a) H (kR C 30)) = E C n 30 [] (argsA 0 a) H (kR C 30) := by
  split
  · exact unfold_judge_fine.r_e n _ _ _ H
  · rfl
theorem unfold_judge_fine.rf_e (n : Nat) (a : List V) (H : Heap) : unfold_judge_fine.rf @bdI (callA C n) n a H = callA C (n + 1) 30 a H := by
  unfold unfold_judge_fine.rf
  refine (unfold_judge_fine.rf_b n a H).trans ?_
  kernel_rfl
noncomputable def slices_SortFunc_api_Place_api_Place.r (bd : B3) (call : FuncId → List V → Heap → Option R) (n : Nat) (v0 v1 : V) (H : Heap) : Option R :=
 (bd (lenSl v0) fun t6_1 =>
 (bd (cvInt .u64 t6_1) fun t10_2 =>
 (bd (call 50 [t10_2] H) fun r3 =>
 (bd (call 62 [v0, (.int .i64 0), t6_1, r3.1, v1] r3.2) fun r4 =>
 (some (.tuple [], r4.2))))))
theorem slices_SortFunc_api_Place_api_Place.r_e (n : Nat) (v0 v1 : V) (H : Heap) : slices_SortFunc_api_Place_api_Place.r @bdI (callA C n) n v0 v1 H = E C n 31 [] (argsA 0 [v0, v1]) H (kR C 31) := by
  unfold slices_SortFunc_api_Place_api_Place.r
  kernel_rfl
noncomputable def slices_SortFunc_api_Place_api_Place.rf (bd : B3) (call : FuncId → List V → Heap → Option R) (n : Nat) (a : List V) (H : Heap) : Option R := (match a with | [v0, v1] => slices_SortFunc_api_Place_api_Place.r bd call n v0 v1 H | a => E C n 31 [] (argsA 0 a) H (kR C 31))
theorem slices_SortFunc_api_Place_api_Place.rf_b (n : Nat) (a : List V) (H : Heap) : (match a with | [v0, v1] => slices_SortFunc_api_Place_api_Place.r @bdI (callA C n) n v0 v1 H | a => E C n 31 [] (argsA 0 a) H (kR C 31)) = E C n 31 [] (argsA 0 a) H (kR C 31) := by
  split
  · exact slices_SortFunc_api_Place_api_Place.r_e n _ _ H
  · rfl
theorem slices_SortFunc_api_Place_api_Place.rf_e (n : Nat) (a : List V) (H : Heap) : slices_SortFunc_api_Place_api_Place.rf @bdI (callA C n) n a H = callA C (n + 1) 31 a H := by
  unfold slices_SortFunc_api_Place_api_Place.rf
  refine (slices_SortFunc_api_Place_api_Place.rf_b n a H).trans ?_
  kernel_rfl
@[irreducible] noncomputable def unfold_from.l0 (n m0 : Nat) (v1 v2 v4 v5 v8 : V) (H : Heap) : Option R := Lp C n 33 [1, 1, 0, 1, 0, 0] m0 [(1, v1), (2, v2), (4, v4), (5, v5), (8, v8)] H (kB 0 (kC C n 33 [1, 1, 1] (kR C 33)))
noncomputable def unfold_from.r_l0 (bd : B3) (call : FuncId → List V → Heap → Option R) (n : Nat) (s0 : V → V → V → V → V → Heap → Option R) (v1 v2 v4 v5 v8 : V) (H : Heap) : Option R :=
 (bd (arA .lss v8 (.int .i64 3)) fun t9_1 =>
 (bd (asB t9_1) fun b2 =>
 if b2 = true then
 (bd (arA .add v1 v8) fun t13_3 =>
 (bd (arA .rem t13_3 (.int .i64 3)) fun t14_4 =>
 (bd (faA 3 v2) fun t22_5 =>
 (bd (idxP 3 2 t22_5 t14_4) fun t23_6 =>
 (bd (ldN 2 t23_6 (H.more 0)) fun t24_7 =>
 (bd (faA 3 v2) fun t26_8 =>
 (bd (idxP 3 2 t26_8 v1) fun t27_9 =>
 (bd (ldN 2 t27_9 (H.more 0)) fun t28_10 =>
 (bd (call 58 [t24_7, t28_10] (H.more 0)) fun r11 =>
 (bd (faA 0 v2) fun t18_12 =>
 (bd (idxP 3 1 t18_12 t14_4) fun t19_13 =>
 (bd (ld1 t19_13 r11.2) fun t20_14 =>
 (bd (chk (ld1 t19_13 (H.more 0)) t20_14) fun _ =>
 (bd (faA 0 v5) fun t30_15 =>
 (bd (idxP 3 1 t30_15 v8) fun t31_16 =>
 (bd (stA 1 t31_16 t20_14 r11.2) fun H17 =>
 (bd (faA 3 v5) fun t32_18 =>
 (bd (idxP 3 2 t32_18 v8) fun t33_19 =>
 (bd (stA 2 t33_19 r11.1 H17) fun H20 =>
 (bd (arA .add v8 (.int .i64 1)) fun t34_21 =>
 (s0 v1 v2 v4 v5 t34_21 H20)))))))))))))))))))))
 else
 (bd (ldN 9 v5 H) fun t35_22 =>
 (bd (stA 9 v4 t35_22 H) fun H23 =>
 (bd (ldN 9 v4 H23) fun t24 =>
 (some (t24, H23)))))))
theorem unfold_from.r_l0_e (n m0 : Nat) : unfold_from.r_l0 @bdI (callA C n) n (unfold_from.l0 n m0) = unfold_from.l0 n (m0 + 1) := by
  funext v1 v2 v4 v5 v8 H
  unfold unfold_from.r_l0
  kernel_rfl
noncomputable def unfold_from.r_l0_lp (bd : B3) (call : FuncId → List V → Heap → Option R) (n : Nat) (m : Nat) : V → V → V → V → V → Heap → Option R := Nat.rec (motive := fun _ => V → V → V → V → V → Heap → Option R) (fun _ _ _ _ _ _ => none) (fun _ self => unfold_from.r_l0 bd call n self) m
theorem unfold_from.r_l0_lp_e (n : Nat) : unfold_from.r_l0_lp @bdI (callA C n) n = unfold_from.l0 n := by
  funext m
  induction m with
  | zero => funext v1 v2 v4 v5 v8 H; kernel_rfl
  | succ k ih => exact (congrArg (unfold_from.r_l0 @bdI (callA C n) n) ih).trans (unfold_from.r_l0_e n k)
noncomputable def unfold_from.r (bd : B3) (call : FuncId → List V → Heap → Option R) (n : Nat) (v0 v1 : V) (H : Heap) : Option R :=
 (bd (boxA ty_api_Tri v0) fun o1 =>
 (unfold_from.r_l0_lp bd call n n v1 (.ptr (some (H.n, 0))) (.ptr (some ((H.push o1).n, 0))) (.ptr (some (((H.push o1).push (.cells [(.int .i64 0), (.int .i64 0), (.int .i64 0), (.int .i64 0), (.int .i64 0), (.int .i64 0), (.int .i64 0), (.int .i64 0), (.int .i64 0)] ty_api_Tri false)).n, 0))) (.int .i64 0) (((H.push o1).push (.cells [(.int .i64 0), (.int .i64 0), (.int .i64 0), (.int .i64 0), (.int .i64 0), (.int .i64 0), (.int .i64 0), (.int .i64 0), (.int .i64 0)] ty_api_Tri false)).push (.cells [(.int .i64 0), (.int .i64 0), (.int .i64 0), (.int .i64 0), (.int .i64 0), (.int .i64 0), (.int .i64 0), (.int .i64 0), (.int .i64 0)] ty_api_Tri false))))
theorem unfold_from.r_e (n : Nat) (v0 v1 : V) (H : Heap) : unfold_from.r @bdI (callA C n) n v0 v1 H = E C n 33 [] (argsA 0 [v0, v1]) H (kR C 33) := by
  unfold unfold_from.r
  rewrite [unfold_from.r_l0_lp_e]
  kernel_rfl
noncomputable def unfold_from.rf (bd : B3) (call : FuncId → List V → Heap → Option R) (n : Nat) (a : List V) (H : Heap) : Option R := pureA a H fun a => (match a with | [v0, v1] => unfold_from.r bd call n v0 v1 ⟨0, .nil⟩ | a => E C n 33 [] (argsA 0 a) ⟨0, .nil⟩ (kR C 33))
theorem unfold_from.rf_b (n : Nat) (a : List V) (H : Heap) : (match a with | [v0, v1] => unfold_from.r @bdI (callA C n) n v0 v1 H | a => E C n 33 [] (argsA 0 a) H (kR C 33)) = E C n 33 [] (argsA 0 a) H (kR C 33) := by
  split
  · exact unfold_from.r_e n _ _ H
  · rfl
theorem unfold_from.rf_e (n : Nat) (a : List V) (H : Heap) : unfold_from.rf @bdI (callA C n) n a H = callA C (n + 1) 33 a H := by
  unfold unfold_from.rf
  refine (congrArg (pureA a H) (funext fun a => unfold_from.rf_b n a ⟨0, .nil⟩)).trans ?_
  kernel_rfl
@[irreducible] noncomputable def slices_Index_api_Tri_api_Tri.l0 (n m0 : Nat) (v0 v3 v7 v8 : V) (H : Heap) : Option R := Lp C n 34 [1, 0, 1, 0, 0] m0 [(0, v0), (3, v3), (7, v7), (8, v8)] H (kB 0 (kC C n 34 [1, 1] (kR C 34)))
noncomputable def slices_Index_api_Tri_api_Tri.r_l0 (bd : B3) (call : FuncId → List V → Heap → Option R) (n : Nat) (s0 : V → V → V → V → Heap → Option R) (v0 v3 v7 v8 : V) (H : Heap) : Option R :=
 (bd (arA .lss v8 v7) fun t9_1 =>
 (bd (asB t9_1) fun b2 =>
 if b2 = true then
 (bd (ldN 9 v3 (H.more 0)) fun t11_3 =>
 (bd (idxS 9 v0 v8) fun t14_4 =>
 (bd (ldN 9 t14_4 (H.more 0)) fun t15_5 =>
 (bd (eqlA P ty_api_Tri t11_3 t15_5) fun t16_6 =>
 (bd (asB t16_6) fun b7 =>
 if b7 = true then
 (some (v8, (H.more 0)))
 else
 (bd (arA .add v8 (.int .i64 1)) fun t18_8 =>
 (s0 v0 v3 v7 t18_8 (H.more 0))))))))
 else
 (some ((.int .i64 (-1)), H))))
theorem slices_Index_api_Tri_api_Tri.r_l0_e (n m0 : Nat) : slices_Index_api_Tri_api_Tri.r_l0 @bdI (callA C n) n (slices_Index_api_Tri_api_Tri.l0 n m0) = slices_Index_api_Tri_api_Tri.l0 n (m0 + 1) := by
  funext v0 v3 v7 v8 H
  unfold slices_Index_api_Tri_api_Tri.r_l0
  kernel_rfl
noncomputable def slices_Index_api_Tri_api_Tri.r_l0_lp (bd : B3) (call : FuncId → List V → Heap → Option R) (n : Nat) (m : Nat) : V → V → V → V → Heap → Option R := Nat.rec (motive := fun _ => V → V → V → V → Heap → Option R) (fun _ _ _ _ _ => none) (fun _ self => slices_Index_api_Tri_api_Tri.r_l0 bd call n self) m
theorem slices_Index_api_Tri_api_Tri.r_l0_lp_e (n : Nat) : slices_Index_api_Tri_api_Tri.r_l0_lp @bdI (callA C n) n = slices_Index_api_Tri_api_Tri.l0 n := by
  funext m
  induction m with
  | zero => funext v0 v3 v7 v8 H; kernel_rfl
  | succ k ih => exact (congrArg (slices_Index_api_Tri_api_Tri.r_l0 @bdI (callA C n) n) ih).trans (slices_Index_api_Tri_api_Tri.r_l0_e n k)
noncomputable def slices_Index_api_Tri_api_Tri.r (bd : B3) (call : FuncId → List V → Heap → Option R) (n : Nat) (v0 v1 : V) (H : Heap) : Option R :=
 (bd (boxA ty_api_Tri v1) fun o1 =>
 (bd (lenSl v0) fun t7_2 =>
 (slices_Index_api_Tri_api_Tri.r_l0_lp bd call n n v0 (.ptr (some (H.n, 0))) t7_2 (.int .i64 0) (H.push o1))))
theorem slices_Index_api_Tri_api_Tri.r_e (n : Nat) (v0 v1 : V) (H : Heap) : slices_Index_api_Tri_api_Tri.r @bdI (callA C n) n v0 v1 H = E C n 34 [] (argsA 0 [v0, v1]) H (kR C 34) := by
  unfold slices_Index_api_Tri_api_Tri.r
  rewrite [slices_Index_api_Tri_api_Tri.r_l0_lp_e]
  kernel_rfl
noncomputable def slices_Index_api_Tri_api_Tri.rf (bd : B3) (call : FuncId → List V → Heap → Option R) (n : Nat) (a : List V) (H : Heap) : Option R := (match a with | [v0, v1] => slices_Index_api_Tri_api_Tri.r bd call n v0 v1 H | a => E C n 34 [] (argsA 0 a) H (kR C 34))
theorem slices_Index_api_Tri_api_Tri.rf_b (n : Nat) (a : List V) (H : Heap) : (match a with | [v0, v1] => slices_Index_api_Tri_api_Tri.r @bdI (callA C n) n v0 v1 H | a => E C n 34 [] (argsA 0 a) H (kR C 34)) = E C n 34 [] (argsA 0 a) H (kR C 34) := by
  split
  · exact slices_Index_api_Tri_api_Tri.r_e n _ _ H
  · rfl
theorem slices_Index_api_Tri_api_Tri.rf_e (n : Nat) (a : List V) (H : Heap) : slices_Index_api_Tri_api_Tri.rf @bdI (callA C n) n a H = callA C (n + 1) 34 a H := by
  unfold slices_Index_api_Tri_api_Tri.rf
  refine (slices_Index_api_Tri_api_Tri.rf_b n a H).trans ?_
  kernel_rfl
end Go.AM.L
end
section
set_option linter.unusedVariables false
set_option linter.unusedSimpArgs false
set_option maxRecDepth 1000000
set_option linter.unusedVariables false
namespace Go.AM.L
@[irreducible] noncomputable def slices_MinFunc_api_Tri_api_Tri.p0 (n : Nat) (v0 v1 v4 : V) (H : Heap) : Option R := E C n 35 [1, 1] [(0, v0), (1, v1), (4, v4)] H (kR C 35)
@[irreducible] noncomputable def slices_MinFunc_api_Tri_api_Tri.l1 (n m0 : Nat) (v0 v1 v4 v5 v6 : V) (H : Heap) : Option R := Lp C n 35 [1, 1, 1, 0, 1, 0, 0] m0 [(0, v0), (1, v1), (4, v4), (5, v5), (6, v6)] H (kB 0 (kC C n 35 [1, 1, 1, 1] (kR C 35)))
noncomputable def slices_MinFunc_api_Tri_api_Tri.r_l1 (bd : B3) (call : FuncId → List V → Heap → Option R) (n : Nat) (s0 : V → V → V → V → V → Heap → Option R) (v0 v1 v4 v5 v6 : V) (H : Heap) : Option R :=
 (bd (lenSl v0) fun t16_1 =>
 (bd (arA .lss v6 t16_1) fun t17_2 =>
 (bd (asB t17_2) fun b3 =>
 if b3 = true then
 (bd (idxS 9 v0 v6) fun t23_4 =>
 (bd (ldN 9 t23_4 (H.more 0)) fun t24_5 =>
 (bd (ldN 9 v5 (H.more 0)) fun t25_6 =>
 (bd (callV call v1 [t24_5, t25_6] (H.more 0)) fun r7 =>
 (bd (arA .lss r7.1 (.int .i64 0)) fun t27_8 =>
 (bd (asB t27_8) fun b9 =>
 if b9 = true then
 (bd (idxS 9 v0 v6) fun t30_10 =>
 (bd (ldN 9 t30_10 r7.2) fun t31_11 =>
 (bd (stA 9 v5 t31_11 r7.2) fun H12 =>
 (bd (arA .add v6 (.int .i64 1)) fun t19_13 =>
 (s0 v0 v1 v4 v5 t19_13 H12)))))
 else
 (bd (arA .add v6 (.int .i64 1)) fun t19_14 =>
 (s0 v0 v1 v4 v5 t19_14 r7.2))))))))
 else
 (bd (ldN 9 v5 H) fun t32_15 =>
 (bd (stA 9 v4 t32_15 H) fun H16 =>
 (bd (ldN 9 v4 H16) fun t17 =>
 (some (t17, H16))))))))
theorem slices_MinFunc_api_Tri_api_Tri.r_l1_e (n m0 : Nat) : slices_MinFunc_api_Tri_api_Tri.r_l1 @bdI (callA C n) n (slices_MinFunc_api_Tri_api_Tri.l1 n m0) = slices_MinFunc_api_Tri_api_Tri.l1 n (m0 + 1) := by
  funext v0 v1 v4 v5 v6 H
  unfold slices_MinFunc_api_Tri_api_Tri.r_l1
  kernel_rfl
noncomputable def slices_MinFunc_api_Tri_api_Tri.r_l1_lp (bd : B3) (call : FuncId → List V → Heap → Option R) (n : Nat) (m : Nat) : V → V → V → V → V → Heap → Option R := Nat.rec (motive := fun _ => V → V → V → V → V → Heap → Option R) (fun _ _ _ _ _ _ => none) (fun _ self => slices_MinFunc_api_Tri_api_Tri.r_l1 bd call n self) m
theorem slices_MinFunc_api_Tri_api_Tri.r_l1_lp_e (n : Nat) : slices_MinFunc_api_Tri_api_Tri.r_l1_lp @bdI (callA C n) n = slices_MinFunc_api_Tri_api_Tri.l1 n := by
  funext m
  induction m with
  | zero => funext v0 v1 v4 v5 v6 H; kernel_rfl
  | succ k ih => exact (congrArg (slices_MinFunc_api_Tri_api_Tri.r_l1 @bdI (callA C n) n) ih).trans (slices_MinFunc_api_Tri_api_Tri.r_l1_e n k)
noncomputable def slices_MinFunc_api_Tri_api_Tri.r_p0 (bd : B3) (call : FuncId → List V → Heap → Option R) (n : Nat) (v0 v1 v4 : V) (H : Heap) : Option R :=
 (bd (idxS 9 v0 (.int .i64 0)) fun t12_1 =>
 (bd (ldN 9 t12_1 H) fun t13_2 =>
 (bd (stA 9 (.ptr (some (H.n, 0))) t13_2 (H.push (.cells [(.int .i64 0), (.int .i64 0), (.int .i64 0), (.int .i64 0), (.int .i64 0), (.int .i64 0), (.int .i64 0), (.int .i64 0), (.int .i64 0)] ty_api_Tri false))) fun H3 =>
 (slices_MinFunc_api_Tri_api_Tri.r_l1_lp bd call n n v0 v1 v4 (.ptr (some (H.n, 0))) (.int .i64 1) H3))))
theorem slices_MinFunc_api_Tri_api_Tri.r_p0_e (n : Nat) : slices_MinFunc_api_Tri_api_Tri.r_p0 @bdI (callA C n) n = slices_MinFunc_api_Tri_api_Tri.p0 n := by
  funext v0 v1 v4 H
  unfold slices_MinFunc_api_Tri_api_Tri.r_p0
  rewrite [slices_MinFunc_api_Tri_api_Tri.r_l1_lp_e]
  kernel_rfl
noncomputable def slices_MinFunc_api_Tri_api_Tri.r (bd : B3) (call : FuncId → List V → Heap → Option R) (n : Nat) (v0 v1 : V) (H : Heap) : Option R :=
 (bd (lenSl v0) fun t8_1 =>
 (bd (arA .lss t8_1 (.int .i64 1)) fun t9_2 =>
 (bd (asB t9_2) fun b3 =>
 if b3 = true then
 none
 else
 (slices_MinFunc_api_Tri_api_Tri.r_p0 bd call n v0 v1 (.ptr (some (H.n, 0))) (H.push (.cells [(.int .i64 0), (.int .i64 0), (.int .i64 0), (.int .i64 0), (.int .i64 0), (.int .i64 0), (.int .i64 0), (.int .i64 0), (.int .i64 0)] ty_api_Tri false))))))
theorem slices_MinFunc_api_Tri_api_Tri.r_e (n : Nat) (v0 v1 : V) (H : Heap) : slices_MinFunc_api_Tri_api_Tri.r @bdI (callA C n) n v0 v1 H = E C n 35 [] (argsA 0 [v0, v1]) H (kR C 35) := by
  unfold slices_MinFunc_api_Tri_api_Tri.r
  rewrite [slices_MinFunc_api_Tri_api_Tri.r_p0_e]
  kernel_rfl
noncomputable def slices_MinFunc_api_Tri_api_Tri.rf (bd : B3) (call : FuncId → List V → Heap → Option R) (n : Nat) (a : List V) (H : Heap) : Option R := (match a with | [v0, v1] => slices_MinFunc_api_Tri_api_Tri.r bd call n v0 v1 H | a => E C n 35 [] (argsA 0 a) H (kR C 35))
theorem slices_MinFunc_api_Tri_api_Tri.rf_b (n : Nat) (a : List V) (H : Heap) : (match a with | [v0, v1] => slices_MinFunc_api_Tri_api_Tri.r @bdI (callA C n) n v0 v1 H | a => E C n 35 [] (argsA 0 a) H (kR C 35)) = E C n 35 [] (argsA 0 a) H (kR C 35) := by
  split
  · exact slices_MinFunc_api_Tri_api_Tri.r_e n _ _ H
  · rfl
theorem slices_MinFunc_api_Tri_api_Tri.rf_e (n : Nat) (a : List V) (H : Heap) : slices_MinFunc_api_Tri_api_Tri.rf @bdI (callA C n) n a H = callA C (n + 1) 35 a H := by
  unfold slices_MinFunc_api_Tri_api_Tri.rf
  refine (slices_MinFunc_api_Tri_api_Tri.rf_b n a H).trans ?_
  kernel_rfl
noncomputable def pdt_Engine_clear.r (bd : B3) (call : FuncId → List V → Heap → Option R) (n : Nat) (v0 : V) (H : Heap) : Option R :=
 (bd (nilC v0) fun t3_1 =>
 (bd (faA 2 t3_1) fun t4_2 =>
 (bd (ld1 t4_2 H) fun t5_3 =>
 (bd (clrM t5_3 H) fun H4 =>
 (bd (nilC v0) fun t7_5 =>
 (bd (faA 3 t7_5) fun t8_6 =>
 (bd (ld1 t8_6 H4) fun t9_7 =>
 (bd (clrM t9_7 H4) fun H8 =>
 (bd (nilC v0) fun t11_9 =>
 (bd (faA 4 t11_9) fun t12_10 =>
 (bd (stA 1 t12_10 (.int .i64 0) H8) fun H11 =>
 (bd (nilC v0) fun t16_12 =>
 (bd (faA 0 t16_12) fun t17_13 =>
 (bd (ld1 t17_13 (H11.more 0)) fun t18_14 =>
 (bd (call 64 [t18_14] (H11.more 0)) fun r15 =>
 (bd (nilC v0) fun t21_16 =>
 (bd (faA 0 t21_16) fun t22_17 =>
 (bd (ld1 t22_17 r15.2) fun t23_18 =>
 (bd (chk (ld1 t22_17 (H11.more 0)) t23_18) fun _ =>
 (bd (call 63 [r15.1, t23_18] r15.2) fun r19 =>
 (bd (nilC v0) fun t25_20 =>
 (bd (faA 5 t25_20) fun t26_21 =>
 (bd (stA 1 t26_21 (.int .i64 0) r19.2) fun H22 =>
 (bd (nilC v0) fun t27_23 =>
 (bd (faA 6 t27_23) fun t28_24 =>
 (bd (stA 1 t28_24 r19.1 H22) fun H25 =>
 (some (.tuple [], H25))))))))))))))))))))))))))))
theorem pdt_Engine_clear.r_e (n : Nat) (v0 : V) (H : Heap) : pdt_Engine_clear.r @bdI (callA C n) n v0 H = E C n 37 [] (argsA 0 [v0]) H (kR C 37) := by
  unfold pdt_Engine_clear.r
  kernel_rfl
noncomputable def pdt_Engine_clear.rf (bd : B3) (call : FuncId → List V → Heap → Option R) (n : Nat) (a : List V) (H : Heap) : Option R := (match a with | [v0] => pdt_Engine_clear.r bd call n v0 H | a => E C n 37 [] (argsA 0 a) H (kR C 37))
theorem pdt_Engine_clear.rf_b (n : Nat) (a : List V) (H : Heap) : (match a with | [v0] => pdt_Engine_clear.r @bdI (callA C n) n v0 H | a => E C n 37 [] (argsA 0 a) H (kR C 37)) = E C n 37 [] (argsA 0 a) H (kR C 37) := by
  split
  · exact pdt_Engine_clear.r_e n _ H
  · rfl
theorem pdt_Engine_clear.rf_e (n : Nat) (a : List V) (H : Heap) : pdt_Engine_clear.rf @bdI (callA C n) n a H = callA C (n + 1) 37 a H := by
  unfold pdt_Engine_clear.rf
  refine (pdt_Engine_clear.rf_b n a H).trans ?_
  kernel_rfl
@[irreducible] noncomputable def pdt_Engine_Insert.l0 (n m0 : Nat) (v0 v3 v8 v9 v10 : V) (H : Heap) : Option R := Lp C n 46 [1, 1, 1, 1, 1, 0, 1, 0, 0] m0 [(0, v0), (3, v3), (8, v8), (9, v9), (10, v10)] H (kB 1 (kC C n 46 [1, 1, 1, 1, 1, 1] (kR C 46)))
@[irreducible] noncomputable def pdt_Engine_Insert.p1 (n : Nat) (v0 v3 v8 : V) (H : Heap) : Option R := E C n 46 [1, 1, 1, 1, 1, 1] [(0, v0), (3, v3), (8, v8)] H (kR C 46)
noncomputable def pdt_Engine_Insert.r_p1 (bd : B3) (call : FuncId → List V → Heap → Option R) (n : Nat) (v0 v3 v8 : V) (H : Heap) : Option R :=
 (bd (arA .add v8 (.int .i64 1)) fun t67_1 =>
 (bd (nilC v0) fun t68_2 =>
 (bd (faA 4 t68_2) fun t69_3 =>
 (bd (stA 1 t69_3 t67_1 H) fun H4 =>
 (bd (ldN 2 v3 H4) fun t72_5 =>
 (bd (call 68 [v0, v8, t72_5] H4) fun r6 =>
 (some (.tuple [v8, (.int .i64 0)], r6.2))))))))
theorem pdt_Engine_Insert.r_p1_e (n : Nat) : pdt_Engine_Insert.r_p1 @bdI (callA C n) n = pdt_Engine_Insert.p1 n := by
  funext v0 v3 v8 H
  unfold pdt_Engine_Insert.r_p1
  kernel_rfl
noncomputable def pdt_Engine_Insert.r_l0 (bd : B3) (call : FuncId → List V → Heap → Option R) (n : Nat) (s0 : V → V → V → V → V → Heap → Option R) (v0 v3 v8 v9 v10 : V) (H : Heap) : Option R :=
 (bd (asB v10) fun b1 =>
 if b1 = true then
 (bd (arA .add v8 (.int .i64 1)) fun t63_2 =>
 (bd (ldN 2 v9 H) fun t64_3 =>
 (bd (stA 2 (.ptr (some (H.n, 0))) t64_3 (H.push (.cells [(.int .i64 0), (.int .i64 0)] ty_api_Point false))) fun H4 =>
 (bd (nilC v0) fun t55_5 =>
 (bd (faA 2 t55_5) fun t56_6 =>
 (bd (ld1 t56_6 H4) fun t57_7 =>
 (bd (lookM P ty_int (.agg [(.int .i64 0), (.int .i64 0)]) t57_7 t63_2 true H4) fun t59_8 =>
 (bd (extA t59_8 0) fun t60_9 =>
 (bd (extA t59_8 1) fun t61_10 =>
 (s0 v0 v3 t63_2 (.ptr (some (H.n, 0))) t61_10 H4))))))))))
 else
 (pdt_Engine_Insert.r_p1 bd call n v0 v3 v8 H))
theorem pdt_Engine_Insert.r_l0_e (n m0 : Nat) : pdt_Engine_Insert.r_l0 @bdI (callA C n) n (pdt_Engine_Insert.l0 n m0) = pdt_Engine_Insert.l0 n (m0 + 1) := by
  funext v0 v3 v8 v9 v10 H
  unfold pdt_Engine_Insert.r_l0
  rewrite [pdt_Engine_Insert.r_p1_e]
  kernel_rfl
noncomputable def pdt_Engine_Insert.r_l0_lp (bd : B3) (call : FuncId → List V → Heap → Option R) (n : Nat) (m : Nat) : V → V → V → V → V → Heap → Option R := Nat.rec (motive := fun _ => V → V → V → V → V → Heap → Option R) (fun _ _ _ _ _ _ => none) (fun _ self => pdt_Engine_Insert.r_l0 bd call n self) m
theorem pdt_Engine_Insert.r_l0_lp_e (n : Nat) : pdt_Engine_Insert.r_l0_lp @bdI (callA C n) n = pdt_Engine_Insert.l0 n := by
  funext m
  induction m with
  | zero => funext v0 v3 v8 v9 v10 H; kernel_rfl
  | succ k ih => exact (congrArg (pdt_Engine_Insert.r_l0 @bdI (callA C n) n) ih).trans (pdt_Engine_Insert.r_l0_e n k)
noncomputable def pdt_Engine_Insert.r (bd : B3) (call : FuncId → List V → Heap → Option R) (n : Nat) (v0 v1 : V) (H : Heap) : Option R :=
 (bd (boxA ty_api_Point v1) fun o1 =>
 (bd (eqlA P ty_p_pdt_Engine v0 (.ptr none)) fun t13_2 =>
 (bd (asB t13_2) fun b3 =>
 if b3 = true then
 (some (.tuple [(.int .i64 (-1)), (.int .i64 10)], (H.push o1)))
 else
 (bd (ldN 2 (.ptr (some (H.n, 0))) (H.push o1)) fun t16_4 =>
 (bd (call 67 [v0, t16_4] (H.push o1)) fun r5 =>
 (bd (unA .not r5.1) fun t18_6 =>
 (bd (asB t18_6) fun b7 =>
 if b7 = true then
 (some (.tuple [(.int .i64 (-1)), (.int .i64 11)], r5.2))
 else
 (bd (nilC v0) fun t21_8 =>
 (bd (faA 3 t21_8) fun t22_9 =>
 (bd (ld1 t22_9 (r5.2.more 0)) fun t23_10 =>
 (bd (ldN 2 (.ptr (some (H.n, 0))) (r5.2.more 0)) fun t24_11 =>
 (bd (lookM P ty_api_Point (.int .i64 0) t23_10 t24_11 true (r5.2.more 0)) fun t25_12 =>
 (bd (extA t25_12 0) fun t26_13 =>
 (bd (extA t25_12 1) fun t27_14 =>
 (bd (asB t27_14) fun b15 =>
 if b15 = true then
 (some (.tuple [(.int .i64 (-1)), (.int .i64 12)], (r5.2.more 0)))
 else
 (bd (nilC v0) fun t30_16 =>
 (bd (faA 2 t30_16) fun t31_17 =>
 (bd (ld1 t31_17 ((r5.2.more 0).more 0)) fun t32_18 =>
 (bd (lenMap t32_18 ((r5.2.more 0).more 0)) fun t33_19 =>
 (bd (nilC v0) fun t35_20 =>
 (bd (faA 1 t35_20) fun t36_21 =>
 (bd (ld1 t36_21 ((r5.2.more 0).more 0)) fun t37_22 =>
 (bd (arA .geq t33_19 t37_22) fun t38_23 =>
 (bd (asB t38_23) fun b24 =>
 if b24 = true then
 (some (.tuple [(.int .i64 (-1)), (.int .i64 13)], ((r5.2.more 0).more 0)))
 else
 (bd (nilC v0) fun t40_25 =>
 (bd (faA 4 t40_25) fun t41_26 =>
 (bd (ld1 t41_26 ((r5.2.more 0).more 0)) fun t42_27 =>
 (bd (nilC v0) fun t45_28 =>
 (bd (faA 2 t45_28) fun t46_29 =>
 (bd (ld1 t46_29 ((r5.2.more 0).more 0)) fun t47_30 =>
 (bd (lookM P ty_int (.agg [(.int .i64 0), (.int .i64 0)]) t47_30 t42_27 true ((r5.2.more 0).more 0)) fun t49_31 =>
 (bd (extA t49_31 0) fun t50_32 =>
 (bd (extA t49_31 1) fun t51_33 =>
 (bd (stA 2 (.ptr (some (((r5.2.more 0).more 0).n, 0))) t50_32 (((r5.2.more 0).more 0).push (.cells [(.int .i64 0), (.int .i64 0)] ty_api_Point false))) fun H34 =>
 (pdt_Engine_Insert.r_l0_lp bd call n n v0 (.ptr (some (H.n, 0))) t42_27 (.ptr (some (((r5.2.more 0).more 0).n, 0))) t51_33 H34)))))))))))))))))))))))))))))))))))
theorem pdt_Engine_Insert.r_e (n : Nat) (v0 v1 : V) (H : Heap) : pdt_Engine_Insert.r @bdI (callA C n) n v0 v1 H = E C n 46 [] (argsA 0 [v0, v1]) H (kR C 46) := by
  unfold pdt_Engine_Insert.r
  rewrite [pdt_Engine_Insert.r_l0_lp_e]
  kernel_rfl
noncomputable def pdt_Engine_Insert.rf (bd : B3) (call : FuncId → List V → Heap → Option R) (n : Nat) (a : List V) (H : Heap) : Option R := (match a with | [v0, v1] => pdt_Engine_Insert.r bd call n v0 v1 H | a => E C n 46 [] (argsA 0 a) H (kR C 46))
theorem pdt_Engine_Insert.rf_b (n : Nat) (a : List V) (H : Heap) : (match a with | [v0, v1] => pdt_Engine_Insert.r @bdI (callA C n) n v0 v1 H | a => E C n 46 [] (argsA 0 a) H (kR C 46)) = E C n 46 [] (argsA 0 a) H (kR C 46) := by
  split
  · exact pdt_Engine_Insert.r_e n _ _ H
  · rfl
theorem pdt_Engine_Insert.rf_e (n : Nat) (a : List V) (H : Heap) : pdt_Engine_Insert.rf @bdI (callA C n) n a H = callA C (n + 1) 46 a H := by
  unfold pdt_Engine_Insert.rf
  refine (pdt_Engine_Insert.rf_b n a H).trans ?_
  kernel_rfl
@[irreducible] noncomputable def ref17_Engine_Insert.l0 (n m0 : Nat) (v0 v3 v6 : V) (H : Heap) : Option R := Lp C n 47 [1, 1, 1, 1, 1, 0, 0, 0] m0 [(0, v0), (3, v3), (6, v6)] H (kB 0 (kC C n 47 [1, 1, 1, 1, 1, 1] (kR C 47)))
@[irreducible] noncomputable def ref17_Engine_Insert.p1 (n : Nat) (v0 v3 v6 : V) (H : Heap) : Option R := E C n 47 [1, 1, 1, 1, 1, 1] [(0, v0), (3, v3), (6, v6)] H (kR C 47)
noncomputable def ref17_Engine_Insert.r_p1 (bd : B3) (call : FuncId → List V → Heap → Option R) (n : Nat) (v0 v3 v6 : V) (H : Heap) : Option R :=
 (bd (nilC v0) fun t33_1 =>
 (bd (faA 2 t33_1) fun t34_2 =>
 (bd (ld1 t34_2 (H.more 0)) fun t35_3 =>
 (bd (ldN 2 v3 (H.more 0)) fun t37_4 =>
 (bd (flA [(0, 1), (1, 2)] [(.int .i64 0), (.int .i64 0), (.int .i64 0)] [(0, v6), (1, t37_4)]) fun t38_5 =>
 (bd (call 72 [t35_3, t38_5] (H.more 0)) fun r6 =>
 (bd (nilC v0) fun t40_7 =>
 (bd (faA 2 t40_7) fun t41_8 =>
 (bd (stA 1 t41_8 r6.1 r6.2) fun H9 =>
 (some (.tuple [v6, (.int .i64 0)], H9)))))))))))
theorem ref17_Engine_Insert.r_p1_e (n : Nat) : ref17_Engine_Insert.r_p1 @bdI (callA C n) n = ref17_Engine_Insert.p1 n := by
  funext v0 v3 v6 H
  unfold ref17_Engine_Insert.r_p1
  kernel_rfl
noncomputable def ref17_Engine_Insert.r_l0 (bd : B3) (call : FuncId → List V → Heap → Option R) (n : Nat) (s0 : V → V → V → Heap → Option R) (v0 v3 v6 : V) (H : Heap) : Option R :=
 (bd (call 66 [v0, v6] H) fun r1 =>
 (bd (arA .geq r1.1 (.int .i64 0)) fun t28_2 =>
 (bd (asB t28_2) fun b3 =>
 if b3 = true then
 (bd (arA .add v6 (.int .i64 1)) fun t30_4 =>
 (s0 v0 v3 t30_4 r1.2))
 else
 (ref17_Engine_Insert.r_p1 bd call n v0 v3 v6 r1.2))))
theorem ref17_Engine_Insert.r_l0_e (n m0 : Nat) : ref17_Engine_Insert.r_l0 @bdI (callA C n) n (ref17_Engine_Insert.l0 n m0) = ref17_Engine_Insert.l0 n (m0 + 1) := by
  funext v0 v3 v6 H
  unfold ref17_Engine_Insert.r_l0
  rewrite [ref17_Engine_Insert.r_p1_e]
  kernel_rfl
noncomputable def ref17_Engine_Insert.r_l0_lp (bd : B3) (call : FuncId → List V → Heap → Option R) (n : Nat) (m : Nat) : V → V → V → Heap → Option R := Nat.rec (motive := fun _ => V → V → V → Heap → Option R) (fun _ _ _ _ => none) (fun _ self => ref17_Engine_Insert.r_l0 bd call n self) m
theorem ref17_Engine_Insert.r_l0_lp_e (n : Nat) : ref17_Engine_Insert.r_l0_lp @bdI (callA C n) n = ref17_Engine_Insert.l0 n := by
  funext m
  induction m with
  | zero => funext v0 v3 v6 H; kernel_rfl
  | succ k ih => exact (congrArg (ref17_Engine_Insert.r_l0 @bdI (callA C n) n) ih).trans (ref17_Engine_Insert.r_l0_e n k)
noncomputable def ref17_Engine_Insert.r (bd : B3) (call : FuncId → List V → Heap → Option R) (n : Nat) (v0 v1 : V) (H : Heap) : Option R :=
 (bd (boxA ty_api_Point v1) fun o1 =>
 (bd (ldN 2 (.ptr (some (H.n, 0))) (H.push o1)) fun t8_2 =>
 (bd (call 69 [v0, t8_2] (H.push o1)) fun r3 =>
 (bd (unA .not r3.1) fun t10_4 =>
 (bd (asB t10_4) fun b5 =>
 if b5 = true then
 (some (.tuple [(.int .i64 (-1)), (.int .i64 11)], r3.2))
 else
 (bd (ldN 2 (.ptr (some (H.n, 0))) r3.2) fun t12_6 =>
 (bd (call 70 [v0, t12_6] r3.2) fun r7 =>
 (bd (arA .geq r7.1 (.int .i64 0)) fun t14_8 =>
 (bd (asB t14_8) fun b9 =>
 if b9 = true then
 (some (.tuple [(.int .i64 (-1)), (.int .i64 12)], r7.2))
 else
 (bd (nilC v0) fun t16_10 =>
 (bd (faA 2 t16_10) fun t17_11 =>
 (bd (ld1 t17_11 (r7.2.more 0)) fun t18_12 =>
 (bd (lenSl t18_12) fun t19_13 =>
 (bd (nilC v0) fun t21_14 =>
 (bd (faA 1 t21_14) fun t22_15 =>
 (bd (ld1 t22_15 (r7.2.more 0)) fun t23_16 =>
 (bd (arA .geq t19_13 t23_16) fun t24_17 =>
 (bd (asB t24_17) fun b18 =>
 if b18 = true then
 (some (.tuple [(.int .i64 (-1)), (.int .i64 13)], (r7.2.more 0)))
 else
 (ref17_Engine_Insert.r_l0_lp bd call n n v0 (.ptr (some (H.n, 0))) (.int .i64 0) (r7.2.more 0))))))))))))))))))))
theorem ref17_Engine_Insert.r_e (n : Nat) (v0 v1 : V) (H : Heap) : ref17_Engine_Insert.r @bdI (callA C n) n v0 v1 H = E C n 47 [] (argsA 0 [v0, v1]) H (kR C 47) := by
  unfold ref17_Engine_Insert.r
  rewrite [ref17_Engine_Insert.r_l0_lp_e]
  kernel_rfl
noncomputable def ref17_Engine_Insert.rf (bd : B3) (call : FuncId → List V → Heap → Option R) (n : Nat) (a : List V) (H : Heap) : Option R := (match a with | [v0, v1] => ref17_Engine_Insert.r bd call n v0 v1 H | a => E C n 47 [] (argsA 0 a) H (kR C 47))
theorem ref17_Engine_Insert.rf_b (n : Nat) (a : List V) (H : Heap) : (match a with | [v0, v1] => ref17_Engine_Insert.r @bdI (callA C n) n v0 v1 H | a => E C n 47 [] (argsA 0 a) H (kR C 47)) = E C n 47 [] (argsA 0 a) H (kR C 47) := by
  split
  · exact ref17_Engine_Insert.r_e n _ _ H
  · rfl
theorem ref17_Engine_Insert.rf_e (n : Nat) (a : List V) (H : Heap) : ref17_Engine_Insert.rf @bdI (callA C n) n a H = callA C (n + 1) 47 a H := by
  unfold ref17_Engine_Insert.rf
  refine (ref17_Engine_Insert.rf_b n a H).trans ?_
  kernel_rfl
@[irreducible] noncomputable def cover_normal.l0 (n m0 : Nat) (v1 v2 v3 v4 : V) (H : Heap) : Option R := Lp C n 48 [1, 1, 0, 1, 0, 0] m0 [(1, v1), (2, v2), (3, v3), (4, v4)] H (kB 0 (kC C n 48 [1, 1, 1] (kR C 48)))
noncomputable def cover_normal.r_l0 (bd : B3) (call : FuncId → List V → Heap → Option R) (n : Nat) (s0 : V → V → V → V → Heap → Option R) (v1 v2 v3 v4 : V) (H : Heap) : Option R :=
 (bd (arA .lss v4 (.int .i64 3)) fun t9_1 =>
 (bd (asB t9_1) fun b2 =>
 if b2 = true then
 (bd (ldN 9 v1 H) fun t12_3 =>
 (bd (call 73 [t12_3, v4] H) fun r4 =>
 (bd (stA 9 (.ptr (some (r4.2.n, 0))) r4.1 (r4.2.push (.cells [(.int .i64 0), (.int .i64 0), (.int .i64 0), (.int .i64 0), (.int .i64 0), (.int .i64 0), (.int .i64 0), (.int .i64 0), (.int .i64 0)] ty_api_Tri false))) fun H5 =>
 (bd (ldN 9 (.ptr (some (r4.2.n, 0))) H5) fun t15_6 =>
 (bd (ldN 9 v3 H5) fun t16_7 =>
 (bd (call 51 [t15_6, t16_7] H5) fun r8 =>
 (bd (arA .lss r8.1 (.int .i64 0)) fun t18_9 =>
 (bd (asB t18_9) fun b10 =>
 if b10 = true then
 (bd (ldN 9 (.ptr (some (r4.2.n, 0))) r8.2) fun t19_11 =>
 (bd (stA 9 v3 t19_11 r8.2) fun H12 =>
 (bd (arA .add v4 (.int .i64 1)) fun t11_13 =>
 (s0 v1 v2 v3 t11_13 H12))))
 else
 (bd (arA .add v4 (.int .i64 1)) fun t11_14 =>
 (s0 v1 v2 v3 t11_14 r8.2))))))))))
 else
 (bd (ldN 9 v3 H) fun t20_15 =>
 (bd (stA 9 v2 t20_15 H) fun H16 =>
 (bd (ldN 9 v2 H16) fun t17 =>
 (some (t17, H16)))))))
theorem cover_normal.r_l0_e (n m0 : Nat) : cover_normal.r_l0 @bdI (callA C n) n (cover_normal.l0 n m0) = cover_normal.l0 n (m0 + 1) := by
  funext v1 v2 v3 v4 H
  unfold cover_normal.r_l0
  kernel_rfl
noncomputable def cover_normal.r_l0_lp (bd : B3) (call : FuncId → List V → Heap → Option R) (n : Nat) (m : Nat) : V → V → V → V → Heap → Option R := Nat.rec (motive := fun _ => V → V → V → V → Heap → Option R) (fun _ _ _ _ _ => none) (fun _ self => cover_normal.r_l0 bd call n self) m
theorem cover_normal.r_l0_lp_e (n : Nat) : cover_normal.r_l0_lp @bdI (callA C n) n = cover_normal.l0 n := by
  funext m
  induction m with
  | zero => funext v1 v2 v3 v4 H; kernel_rfl
  | succ k ih => exact (congrArg (cover_normal.r_l0 @bdI (callA C n) n) ih).trans (cover_normal.r_l0_e n k)
noncomputable def cover_normal.r (bd : B3) (call : FuncId → List V → Heap → Option R) (n : Nat) (v0 : V) (H : Heap) : Option R :=
 (bd (boxA ty_api_Tri v0) fun o1 =>
 (bd (ldN 9 (.ptr (some (H.n, 0))) ((H.push o1).push (.cells [(.int .i64 0), (.int .i64 0), (.int .i64 0), (.int .i64 0), (.int .i64 0), (.int .i64 0), (.int .i64 0), (.int .i64 0), (.int .i64 0)] ty_api_Tri false))) fun t6_2 =>
 (bd (call 73 [t6_2, (.int .i64 0)] ((H.push o1).push (.cells [(.int .i64 0), (.int .i64 0), (.int .i64 0), (.int .i64 0), (.int .i64 0), (.int .i64 0), (.int .i64 0), (.int .i64 0), (.int .i64 0)] ty_api_Tri false))) fun r3 =>
 (bd (stA 9 (.ptr (some (r3.2.n, 0))) r3.1 (r3.2.push (.cells [(.int .i64 0), (.int .i64 0), (.int .i64 0), (.int .i64 0), (.int .i64 0), (.int .i64 0), (.int .i64 0), (.int .i64 0), (.int .i64 0)] ty_api_Tri false))) fun H4 =>
 (cover_normal.r_l0_lp bd call n n (.ptr (some (H.n, 0))) (.ptr (some ((H.push o1).n, 0))) (.ptr (some (r3.2.n, 0))) (.int .i64 1) H4)))))
theorem cover_normal.r_e (n : Nat) (v0 : V) (H : Heap) : cover_normal.r @bdI (callA C n) n v0 H = E C n 48 [] (argsA 0 [v0]) H (kR C 48) := by
  unfold cover_normal.r
  rewrite [cover_normal.r_l0_lp_e]
  kernel_rfl
noncomputable def cover_normal.rf (bd : B3) (call : FuncId → List V → Heap → Option R) (n : Nat) (a : List V) (H : Heap) : Option R := pureA a H fun a => (match a with | [v0] => cover_normal.r bd call n v0 ⟨0, .nil⟩ | a => E C n 48 [] (argsA 0 a) ⟨0, .nil⟩ (kR C 48))
theorem cover_normal.rf_b (n : Nat) (a : List V) (H : Heap) : (match a with | [v0] => cover_normal.r @bdI (callA C n) n v0 H | a => E C n 48 [] (argsA 0 a) H (kR C 48)) = E C n 48 [] (argsA 0 a) H (kR C 48) := by
  split
  · exact cover_normal.r_e n _ H
  · rfl
theorem cover_normal.rf_e (n : Nat) (a : List V) (H : Heap) : cover_normal.rf @bdI (callA C n) n a H = callA C (n + 1) 48 a H := by
  unfold cover_normal.rf
  refine (congrArg (pureA a H) (funext fun a => cover_normal.rf_b n a ⟨0, .nil⟩)).trans ?_
  kernel_rfl
noncomputable def math_bits_Len.r (bd : B3) (call : FuncId → List V → Heap → Option R) (n : Nat) (v0 : V) (H : Heap) : Option R :=
 (bd (call 83 [v0] H) fun r1 =>
 (some (r1.1, r1.2)))
theorem math_bits_Len.r_e (n : Nat) (v0 : V) (H : Heap) : math_bits_Len.r @bdI (callA C n) n v0 H = E C n 50 [] (argsA 0 [v0]) H (kR C 50) := by
  unfold math_bits_Len.r
  kernel_rfl
noncomputable def math_bits_Len.rf (bd : B3) (call : FuncId → List V → Heap → Option R) (n : Nat) (a : List V) (H : Heap) : Option R := (match a with | [v0] => math_bits_Len.r bd call n v0 H | a => E C n 50 [] (argsA 0 a) H (kR C 50))
theorem math_bits_Len.rf_b (n : Nat) (a : List V) (H : Heap) : (match a with | [v0] => math_bits_Len.r @bdI (callA C n) n v0 H | a => E C n 50 [] (argsA 0 a) H (kR C 50)) = E C n 50 [] (argsA 0 a) H (kR C 50) := by
  split
  · exact math_bits_Len.r_e n _ H
  · rfl
theorem math_bits_Len.rf_e (n : Nat) (a : List V) (H : Heap) : math_bits_Len.rf @bdI (callA C n) n a H = callA C (n + 1) 50 a H := by
  unfold math_bits_Len.rf
  refine (math_bits_Len.rf_b n a H).trans ?_
  kernel_rfl
@[irreducible] noncomputable def cover_order.l0 (n m0 : Nat) (v2 v3 v7 : V) (H : Heap) : Option R := Lp C n 51 [1, 0, 1, 0, 0] m0 [(2, v2), (3, v3), (7, v7)] H (kB 0 (kC C n 51 [1, 1] (kR C 51)))
noncomputable def cover_order.r_l0 (bd : B3) (call : FuncId → List V → Heap → Option R) (n : Nat) (s0 : V → V → V → Heap → Option R) (v2 v3 v7 : V) (H : Heap) : Option R :=
 (bd (arA .lss v7 (.int .i64 3)) fun t8_1 =>
 (bd (asB t8_1) fun b2 =>
 if b2 = true then
 (bd (faA 0 v2) fun t11_3 =>
 (bd (idxP 3 1 t11_3 v7) fun t12_4 =>
 (bd (ld1 t12_4 (H.more 1)) fun t13_5 =>
 (bd (faA 0 v3) fun t15_6 =>
 (bd (idxP 3 1 t15_6 v7) fun t16_7 =>
 (bd (ld1 t16_7 (H.more 1)) fun t17_8 =>
 (bd (call 85 [t13_5, t17_8] (H.more 1)) fun r9 =>
 (bd (faA 3 v2) fun t20_10 =>
 (bd (idxP 3 2 t20_10 v7) fun t21_11 =>
 (bd (faA 0 t21_11) fun t22_12 =>
 (bd (ld1 t22_12 r9.2) fun t23_13 =>
 (bd (chk (ld1 t22_12 (H.more 1)) t23_13) fun _ =>
 (bd (faA 3 v3) fun t25_14 =>
 (bd (idxP 3 2 t25_14 v7) fun t26_15 =>
 (bd (faA 0 t26_15) fun t27_16 =>
 (bd (ld1 t27_16 r9.2) fun t28_17 =>
 (bd (chk (ld1 t27_16 (H.more 1)) t28_17) fun _ =>
 (bd (call 85 [t23_13, t28_17] r9.2) fun r18 =>
 (bd (faA 3 v2) fun t31_19 =>
 (bd (idxP 3 2 t31_19 v7) fun t32_20 =>
 (bd (faA 1 t32_20) fun t33_21 =>
 (bd (ld1 t33_21 r18.2) fun t34_22 =>
 (bd (chk (ld1 t33_21 r9.2) t34_22) fun _ =>
 (bd (chk (ld1 t33_21 (H.more 1)) t34_22) fun _ =>
 (bd (faA 3 v3) fun t36_23 =>
 (bd (idxP 3 2 t36_23 v7) fun t37_24 =>
 (bd (faA 1 t37_24) fun t38_25 =>
 (bd (ld1 t38_25 r18.2) fun t39_26 =>
 (bd (chk (ld1 t38_25 r9.2) t39_26) fun _ =>
 (bd (chk (ld1 t38_25 (H.more 1)) t39_26) fun _ =>
 (bd (call 85 [t34_22, t39_26] r18.2) fun r27 =>
 (bd (bSl 1 ty_int [(.int .i64 0)] 3 [(0, r9.1), (1, r18.1), (2, r27.1)]) fun o28 =>
 (bd (call 84 [(.slice ⟨some ((H.n + 0), 0), 3, 1, false⟩)] (r27.2.set (H.n + 0) o28)) fun r29 =>
 (bd (arA .neq r29.1 (.int .i64 0)) fun t44_30 =>
 (bd (asB t44_30) fun b31 =>
 if b31 = true then
 (some (r29.1, r29.2))
 else
 (bd (arA .add v7 (.int .i64 1)) fun t46_32 =>
 (s0 v2 v3 t46_32 r29.2)))))))))))))))))))))))))))))))))))))
 else
 (some ((.int .i64 0), H))))
theorem cover_order.r_l0_e (n m0 : Nat) : cover_order.r_l0 @bdI (callA C n) n (cover_order.l0 n m0) = cover_order.l0 n (m0 + 1) := by
  funext v2 v3 v7 H
  unfold cover_order.r_l0
  kernel_rfl
noncomputable def cover_order.r_l0_lp (bd : B3) (call : FuncId → List V → Heap → Option R) (n : Nat) (m : Nat) : V → V → V → Heap → Option R := Nat.rec (motive := fun _ => V → V → V → Heap → Option R) (fun _ _ _ _ => none) (fun _ self => cover_order.r_l0 bd call n self) m
theorem cover_order.r_l0_lp_e (n : Nat) : cover_order.r_l0_lp @bdI (callA C n) n = cover_order.l0 n := by
  funext m
  induction m with
  | zero => funext v2 v3 v7 H; kernel_rfl
  | succ k ih => exact (congrArg (cover_order.r_l0 @bdI (callA C n) n) ih).trans (cover_order.r_l0_e n k)
noncomputable def cover_order.r (bd : B3) (call : FuncId → List V → Heap → Option R) (n : Nat) (v0 v1 : V) (H : Heap) : Option R :=
 (bd (boxA ty_api_Tri v0) fun o1 =>
 (bd (boxA ty_api_Tri v1) fun o2 =>
 (cover_order.r_l0_lp bd call n n (.ptr (some (H.n, 0))) (.ptr (some ((H.push o1).n, 0))) (.int .i64 0) ((H.push o1).push o2))))
theorem cover_order.r_e (n : Nat) (v0 v1 : V) (H : Heap) : cover_order.r @bdI (callA C n) n v0 v1 H = E C n 51 [] (argsA 0 [v0, v1]) H (kR C 51) := by
  unfold cover_order.r
  rewrite [cover_order.r_l0_lp_e]
  kernel_rfl
noncomputable def cover_order.rf (bd : B3) (call : FuncId → List V → Heap → Option R) (n : Nat) (a : List V) (H : Heap) : Option R := pureA a H fun a => (match a with | [v0, v1] => cover_order.r bd call n v0 v1 ⟨0, .nil⟩ | a => E C n 51 [] (argsA 0 a) ⟨0, .nil⟩ (kR C 51))
theorem cover_order.rf_b (n : Nat) (a : List V) (H : Heap) : (match a with | [v0, v1] => cover_order.r @bdI (callA C n) n v0 v1 H | a => E C n 51 [] (argsA 0 a) H (kR C 51)) = E C n 51 [] (argsA 0 a) H (kR C 51) := by
  split
  · exact cover_order.r_e n _ _ H
  · rfl
theorem cover_order.rf_e (n : Nat) (a : List V) (H : Heap) : cover_order.rf @bdI (callA C n) n a H = callA C (n + 1) 51 a H := by
  unfold cover_order.rf
  refine (congrArg (pureA a H) (funext fun a => cover_order.rf_b n a ⟨0, .nil⟩)).trans ?_
  kernel_rfl
@[irreducible] noncomputable def arena_Arena_All.l0 (n m0 : Nat) (v0 v3 v11 v12 : V) (H : Heap) : Option R := Lp C n 52 [1, 1, 1, 0, 1, 0, 0] m0 [(0, v0), (3, v3), (11, v11), (12, v12)] H (kB 0 (kC C n 52 [1, 1, 1, 1] (kR C 52)))
noncomputable def arena_Arena_All.r_l0 (bd : B3) (call : FuncId → List V → Heap → Option R) (n : Nat) (s0 : V → V → V → V → Heap → Option R) (v0 v3 v11 v12 : V) (H : Heap) : Option R :=
 (bd (arA .lss v12 v11) fun t13_1 =>
 (bd (asB t13_1) fun b2 =>
 if b2 = true then
 (bd (call 86 [v0, v12] H) fun r3 =>
 (bd (asB r3.1) fun b4 =>
 if b4 = true then
 (bd (bSl 1 ty_int [(.int .i64 0)] 1 [(0, v12)]) fun o5 =>
 (bd (appA 1 8 ty_int v3 (.slice ⟨some (r3.2.n, 0), 1, 1, false⟩) (r3.2.push o5)) fun p6 =>
 (bd (arA .add v12 (.int .i64 1)) fun t22_7 =>
 (s0 v0 p6.1 v11 t22_7 p6.2))))
 else
 (bd (arA .add v12 (.int .i64 1)) fun t22_8 =>
 (s0 v0 v3 v11 t22_8 r3.2))))
 else
 (frzR v3 H)))
theorem arena_Arena_All.r_l0_e (n m0 : Nat) : arena_Arena_All.r_l0 @bdI (callA C n) n (arena_Arena_All.l0 n m0) = arena_Arena_All.l0 n (m0 + 1) := by
  funext v0 v3 v11 v12 H
  unfold arena_Arena_All.r_l0
  kernel_rfl
noncomputable def arena_Arena_All.r_l0_lp (bd : B3) (call : FuncId → List V → Heap → Option R) (n : Nat) (m : Nat) : V → V → V → V → Heap → Option R := Nat.rec (motive := fun _ => V → V → V → V → Heap → Option R) (fun _ _ _ _ _ => none) (fun _ self => arena_Arena_All.r_l0 bd call n self) m
theorem arena_Arena_All.r_l0_lp_e (n : Nat) : arena_Arena_All.r_l0_lp @bdI (callA C n) n = arena_Arena_All.l0 n := by
  funext m
  induction m with
  | zero => funext v0 v3 v11 v12 H; kernel_rfl
  | succ k ih => exact (congrArg (arena_Arena_All.r_l0 @bdI (callA C n) n) ih).trans (arena_Arena_All.r_l0_e n k)
noncomputable def arena_Arena_All.r (bd : B3) (call : FuncId → List V → Heap → Option R) (n : Nat) (v0 : V) (H : Heap) : Option R :=
 (bd (eqlA P ty_p_arena_Arena v0 (.ptr none)) fun t6_1 =>
 (bd (asB t6_1) fun b2 =>
 if b2 = true then
 (frzR (.slice ⟨none, 0, 0, false⟩) H)
 else
 (bd (nilC v0) fun t8_3 =>
 (bd (faA 0 t8_3) fun t9_4 =>
 (bd (ld1 t9_4 H) fun t10_5 =>
 (bd (lenSl t10_5) fun t11_6 =>
 (arena_Arena_All.r_l0_lp bd call n n v0 (.slice ⟨none, 0, 0, false⟩) t11_6 (.int .i64 0) H)))))))
theorem arena_Arena_All.r_e (n : Nat) (v0 : V) (H : Heap) : arena_Arena_All.r @bdI (callA C n) n v0 H = E C n 52 [] (argsA 0 [v0]) H (kR C 52) := by
  unfold arena_Arena_All.r
  rewrite [arena_Arena_All.r_l0_lp_e]
  kernel_rfl
noncomputable def arena_Arena_All.rf (bd : B3) (call : FuncId → List V → Heap → Option R) (n : Nat) (a : List V) (H : Heap) : Option R := (match a with | [v0] => arena_Arena_All.r bd call n v0 H | a => E C n 52 [] (argsA 0 a) H (kR C 52))
theorem arena_Arena_All.rf_b (n : Nat) (a : List V) (H : Heap) : (match a with | [v0] => arena_Arena_All.r @bdI (callA C n) n v0 H | a => E C n 52 [] (argsA 0 a) H (kR C 52)) = E C n 52 [] (argsA 0 a) H (kR C 52) := by
  split
  · exact arena_Arena_All.r_e n _ H
  · rfl
theorem arena_Arena_All.rf_e (n : Nat) (a : List V) (H : Heap) : arena_Arena_All.rf @bdI (callA C n) n a H = callA C (n + 1) 52 a H := by
  unfold arena_Arena_All.rf
  refine (arena_Arena_All.rf_b n a H).trans ?_
  kernel_rfl
noncomputable def unfold_judge_at.r (bd : B3) (call : FuncId → List V → Heap → Option R) (n : Nat) (v0 v1 : V) (H : Heap) : Option R :=
 (bd (boxA ty_api_Knot v1) fun o1 =>
 (bd (nilC v0) fun t7_2 =>
 (bd (faA 1 t7_2) fun t8_3 =>
 (bd (ld1 t8_3 (((H.push o1).push (.cells [(.int .i64 0), (.int .i64 0)] ty_api_Point false)).more 0)) fun t9_4 =>
 (bd (faA 0 (.ptr (some (H.n, 0)))) fun t10_5 =>
 (bd (ld1 t10_5 (((H.push o1).push (.cells [(.int .i64 0), (.int .i64 0)] ty_api_Point false)).more 0)) fun t11_6 =>
 (bd (lookM P ty_int (.agg [(.int .i64 0), (.int .i64 0)]) t9_4 t11_6 false (((H.push o1).push (.cells [(.int .i64 0), (.int .i64 0)] ty_api_Point false)).more 0)) fun t12_7 =>
 (bd (faA 1 (.ptr (some (H.n, 0)))) fun t13_8 =>
 (bd (ldN 2 t13_8 (((H.push o1).push (.cells [(.int .i64 0), (.int .i64 0)] ty_api_Point false)).more 0)) fun t14_9 =>
 (bd (nilC v0) fun t16_10 =>
 (bd (faA 0 t16_10) fun t17_11 =>
 (bd (ld1 t17_11 (((H.push o1).push (.cells [(.int .i64 0), (.int .i64 0)] ty_api_Point false)).more 0)) fun t18_12 =>
 (bd (call 87 [t12_7, t14_9, t18_12] (((H.push o1).push (.cells [(.int .i64 0), (.int .i64 0)] ty_api_Point false)).more 0)) fun r13 =>
 (bd (extA r13.1 0) fun t20_14 =>
 (bd (extA r13.1 1) fun t21_15 =>
 (bd (stA 2 (.ptr (some ((H.push o1).n, 0))) t20_14 r13.2) fun H16 =>
 (bd (ldN 2 (.ptr (some ((H.push o1).n, 0))) H16) fun t17 =>
 (some (.tuple [t17, t21_15], H16)))))))))))))))))))
theorem unfold_judge_at.r_e (n : Nat) (v0 v1 : V) (H : Heap) : unfold_judge_at.r @bdI (callA C n) n v0 v1 H = E C n 53 [] (argsA 0 [v0, v1]) H (kR C 53) := by
  unfold unfold_judge_at.r
  kernel_rfl
noncomputable def unfold_judge_at.rf (bd : B3) (call : FuncId → List V → Heap → Option R) (n : Nat) (a : List V) (H : Heap) : Option R := (match a with | [v0, v1] => unfold_judge_at.r bd call n v0 v1 H | a => E C n 53 [] (argsA 0 a) H (kR C 53))
theorem unfold_judge_at.rf_b (n : Nat) (a : List V) (H : Heap) : (match a with | [v0, v1] => unfold_judge_at.r @bdI (callA C n) n v0 v1 H | a => E C n 53 [] (argsA 0 a) H (kR C 53)) = E C n 53 [] (argsA 0 a) H (kR C 53) := by
  split
  · exact unfold_judge_at.r_e n _ _ H
  · rfl
theorem unfold_judge_at.rf_e (n : Nat) (a : List V) (H : Heap) : unfold_judge_at.rf @bdI (callA C n) n a H = callA C (n + 1) 53 a H := by
  unfold unfold_judge_at.rf
  refine (unfold_judge_at.rf_b n a H).trans ?_
  kernel_rfl
noncomputable def pred_Orient.r (bd : B3) (call : FuncId → List V → Heap → Option R) (n : Nat) (v0 v1 v2 : V) (H : Heap) : Option R :=
 (bd (boxA ty_api_Point v0) fun o1 =>
 (bd (boxA ty_api_Point v1) fun o2 =>
 (bd (boxA ty_api_Point v2) fun o3 =>
 (bd (ldN 2 (.ptr (some (H.n, 0))) (((H.push o1).push o2).push o3)) fun t7_4 =>
 (bd (ldN 2 (.ptr (some ((H.push o1).n, 0))) (((H.push o1).push o2).push o3)) fun t8_5 =>
 (bd (ldN 2 (.ptr (some (((H.push o1).push o2).n, 0))) (((H.push o1).push o2).push o3)) fun t9_6 =>
 (bd (bSl 2 ty_api_Point [(.int .i64 0), (.int .i64 0)] 3 [(0, t7_4), (1, t8_5), (2, t9_6)]) fun o7 =>
 (bd (call 88 [(.slice ⟨some ((((H.push o1).push o2).push o3).n, 0), 3, 2, false⟩)] ((((H.push o1).push o2).push o3).push o7)) fun r8 =>
 (bd (unA .not r8.1) fun t12_9 =>
 (bd (asB t12_9) fun b10 =>
 if b10 = true then
 (some ((.int .i64 0), r8.2))
 else
 (bd (ldN 2 (.ptr (some (H.n, 0))) r8.2) fun t13_11 =>
 (bd (ldN 2 (.ptr (some ((H.push o1).n, 0))) r8.2) fun t14_12 =>
 (bd (ldN 2 (.ptr (some (((H.push o1).push o2).n, 0))) r8.2) fun t15_13 =>
 (bd (call 89 [t13_11, t14_12, t15_13] r8.2) fun r14 =>
 (some (r14.1, r14.2))))))))))))))))
theorem pred_Orient.r_e (n : Nat) (v0 v1 v2 : V) (H : Heap) : pred_Orient.r @bdI (callA C n) n v0 v1 v2 H = E C n 54 [] (argsA 0 [v0, v1, v2]) H (kR C 54) := by
  unfold pred_Orient.r
  kernel_rfl
noncomputable def pred_Orient.rf (bd : B3) (call : FuncId → List V → Heap → Option R) (n : Nat) (a : List V) (H : Heap) : Option R := pureA a H fun a => (match a with | [v0, v1, v2] => pred_Orient.r bd call n v0 v1 v2 ⟨0, .nil⟩ | a => E C n 54 [] (argsA 0 a) ⟨0, .nil⟩ (kR C 54))
theorem pred_Orient.rf_b (n : Nat) (a : List V) (H : Heap) : (match a with | [v0, v1, v2] => pred_Orient.r @bdI (callA C n) n v0 v1 v2 H | a => E C n 54 [] (argsA 0 a) H (kR C 54)) = E C n 54 [] (argsA 0 a) H (kR C 54) := by
  split
  · exact pred_Orient.r_e n _ _ _ H
  · rfl
theorem pred_Orient.rf_e (n : Nat) (a : List V) (H : Heap) : pred_Orient.rf @bdI (callA C n) n a H = callA C (n + 1) 54 a H := by
  unfold pred_Orient.rf
  refine (congrArg (pureA a H) (funext fun a => pred_Orient.rf_b n a ⟨0, .nil⟩)).trans ?_
  kernel_rfl
noncomputable def wide_Add.r (bd : B3) (call : FuncId → List V → Heap → Option R) (n : Nat) (v0 v1 : V) (H : Heap) : Option R :=
 (bd (boxA ty_api_Wide v0) fun o1 =>
 (bd (boxA ty_api_Wide v1) fun o2 =>
 (bd (ldN 2 (.ptr (some (H.n, 0))) (((H.push o1).push o2).push (.cells [(.int .i64 0), (.int .u64 0)] ty_api_Wide false))) fun t5_3 =>
 (bd (ldN 2 (.ptr (some ((H.push o1).n, 0))) (((H.push o1).push o2).push (.cells [(.int .i64 0), (.int .u64 0)] ty_api_Wide false))) fun t6_4 =>
 (bd (call 90 [t5_3, t6_4] (((H.push o1).push o2).push (.cells [(.int .i64 0), (.int .u64 0)] ty_api_Wide false))) fun r5 =>
 (bd (stA 2 (.ptr (some (((H.push o1).push o2).n, 0))) r5.1 r5.2) fun H6 =>
 (bd (ldN 2 (.ptr (some (((H.push o1).push o2).n, 0))) H6) fun t7 =>
 (some (t7, H6)))))))))
theorem wide_Add.r_e (n : Nat) (v0 v1 : V) (H : Heap) : wide_Add.r @bdI (callA C n) n v0 v1 H = E C n 55 [] (argsA 0 [v0, v1]) H (kR C 55) := by
  unfold wide_Add.r
  kernel_rfl
noncomputable def wide_Add.rf (bd : B3) (call : FuncId → List V → Heap → Option R) (n : Nat) (a : List V) (H : Heap) : Option R := pureA a H fun a => (match a with | [v0, v1] => wide_Add.r bd call n v0 v1 ⟨0, .nil⟩ | a => E C n 55 [] (argsA 0 a) ⟨0, .nil⟩ (kR C 55))
theorem wide_Add.rf_b (n : Nat) (a : List V) (H : Heap) : (match a with | [v0, v1] => wide_Add.r @bdI (callA C n) n v0 v1 H | a => E C n 55 [] (argsA 0 a) H (kR C 55)) = E C n 55 [] (argsA 0 a) H (kR C 55) := by
  split
  · exact wide_Add.r_e n _ _ H
  · rfl
theorem wide_Add.rf_e (n : Nat) (a : List V) (H : Heap) : wide_Add.rf @bdI (callA C n) n a H = callA C (n + 1) 55 a H := by
  unfold wide_Add.rf
  refine (congrArg (pureA a H) (funext fun a => wide_Add.rf_b n a ⟨0, .nil⟩)).trans ?_
  kernel_rfl
end Go.AM.L
end
