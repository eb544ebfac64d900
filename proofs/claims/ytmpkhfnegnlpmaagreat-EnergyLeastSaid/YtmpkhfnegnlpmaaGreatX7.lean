/- Merged by program from: AmFT EtA EtB EtC EuG EuH EuI NvLC NvLO NvLM NvLM2 NvO. -/
import Derived.Test.YtmpkhfnegnlpmaaGreatX6
section
set_option linter.unusedVariables false
set_option linter.unusedSimpArgs false
set_option linter.unusedSimpArgs false
set_option linter.unusedVariables false
namespace Go.AM
open Go.RowKit (Below)
def FT (P : Program) : Nat → TypeId → List V → Prop
  | 0, _, _ => False
  | fuel + 1, t, cs => match P.underlying t with
    | some .bool => ∃ b, cs = [.bool b]
    | some (.int k) => ∃ n, cs = [.int k n] ∧ (Lit.int k n).wf = true
    | some .string => ∃ s : List UInt8, cs = [.str s] ∧ s.length ≤ maxLen
    | some (.slice e) => ∃ len z xs, cs = [.list len z xs] ∧ len ≤ maxLen ∧ (len = 0 → z = 0 ∧ xs = []) ∧ (len ≠ 0 → z = P.cellsOf e) ∧ xs.length = len * P.cellsOf e ∧ ∀ j, j < len → FT P fuel e ((xs.drop (j * P.cellsOf e)).take (P.cellsOf e))
    | some (.struct fs) => cs.length = P.cellsOf t ∧ ∀ f ∈ fs.toList, FT P fuel f.type ((cs.drop f.offset).take (P.cellsOf f.type))
    | some (.array n e) => cs.length = P.cellsOf t ∧ ∀ i, i < n → FT P fuel e ((cs.drop (i * P.cellsOf e)).take (P.cellsOf e))
    | _ => False
def sdep (P : Program) : Nat → TypeId → Nat
  | 0, _ => 0
  | fuel + 1, t => match P.underlying t with
    | some (.slice e) => sdep P fuel e + 1
    | some (.struct fs) => (fs.toList.map fun f => sdep P fuel f.type).foldr max 1
    | some (.array _ e) => max 1 (sdep P fuel e)
    | _ => 1
theorem frzL_app {f : V → Option (V × List Nat)} : ∀ {a b a' b' : List V} {i j : List Nat}, frzL f a = some (a', i) → frzL f b = some (b', j) → frzL f (a ++ b) = some (a' ++ b', i ++ j)
  | [], b, a', b', i, j, h1, h2 => by simp only [frzL, Option.some.injEq, Prod.mk.injEq] at h1; obtain ⟨rfl, rfl⟩ := h1; exact h2
  | v :: a, b, a', b', i, j, h1, h2 => by
    simp only [frzL] at h1
    cases hv : f v with
    | none => rw [hv] at h1; cases h1
    | some p =>
      rw [hv] at h1
      cases ha : frzL f a with
      | none => rw [ha] at h1; cases h1
      | some q =>
        rw [ha] at h1
        simp only [Option.some.injEq, Prod.mk.injEq] at h1
        obtain ⟨rfl, rfl⟩ := h1
        have := frzL_app (a := a) (b := b) ha h2
        simp only [List.cons_append, frzL, hv, this, List.append_assoc]
theorem frzL_flat {f : V → Option (V × List Nat)} {A : Type} (part : A → List V) (R : A → List V → Prop) : ∀ (l : List A), (∀ a ∈ l, ∃ u i, frzL f (part a) = some (u, i) ∧ R a u) →
    ∃ (us : List (List V)) (ids : List Nat), frzL f (l.map part).flatten = some (us.flatten, ids) ∧ us.length = l.length ∧ ∀ (i : Nat) (a : A) (u : List V), l[i]? = some a → us[i]? = some u → R a u
  | [], _ => ⟨[], [], rfl, rfl, fun i a u h => by simp at h⟩
  | a :: l, h => by
    obtain ⟨u, i, h1, h2⟩ := h a (by simp)
    obtain ⟨us, ids, k1, k2, k3⟩ := frzL_flat part R l fun b hb => h b (by simp [hb])
    refine ⟨u :: us, i ++ ids, ?_, by simp [k2], ?_⟩
    · simp only [List.map_cons, List.flatten_cons]; exact frzL_app h1 k1
    · intro j b w hb hw
      cases j with
      | zero => simp at hb hw; subst hb hw; exact h2
      | succ j => simp at hb hw; exact k3 j b w hb hw
theorem foldr_le {l : List Nat} {d : Nat} (h : l.foldr max 1 ≤ d) : 1 ≤ d ∧ ∀ x ∈ l, x ≤ d := by
  induction l with
  | nil => exact ⟨by simpa using h, fun x hx => by simp at hx⟩
  | cons y l ih =>
    simp only [List.foldr_cons] at h
    obtain ⟨a, b⟩ := ih (by omega)
    refine ⟨a, fun x hx => ?_⟩
    rcases List.mem_cons.1 hx with rfl | hx
    · omega
    · exact b x hx
section
variable {P : Program}
theorem FT.len : ∀ {k : Nat} {t : TypeId} {cs : List V}, plainT P k t = true → FT P k t cs → cs.length = P.cellsOf t
  | 0, t, cs, hp, h => by simp [plainT] at hp
  | k + 1, t, cs, hp, h => by
    unfold plainT at hp
    unfold FT at h
    split at h
    · rename_i hu; simp only [hu, decide_eq_true_eq] at hp; obtain ⟨b, rfl⟩ := h; simp [hp]
    · rename_i hu; simp only [hu, decide_eq_true_eq] at hp; obtain ⟨b, rfl, -⟩ := h; simp [hp]
    · rename_i hu; simp only [hu, decide_eq_true_eq] at hp; obtain ⟨b, rfl, -⟩ := h; simp [hp]
    · rename_i hu; simp only [hu, Bool.and_eq_true, decide_eq_true_eq] at hp; obtain ⟨a, b, c, rfl, -⟩ := h; simp [hp.1.1]
    · exact h.1
    · exact h.1
    · exact h.elim
theorem chunks_len {α : Type} {m n : Nat} {cs : List α} (h : cs.length = n * m) : ((List.range n).map fun i => (cs.drop (i * m)).take m).flatten = cs := by
  induction n generalizing cs with
  | zero => simp at h; simp [h]
  | succ n ih =>
    rw [List.range_succ_eq_map, List.map_cons, List.flatten_cons, List.map_map]
    have e : ((fun i => (cs.drop (i * m)).take m) ∘ Nat.succ) = fun i => ((cs.drop m).drop (i * m)).take m := by
      funext i
      simp only [Function.comp, List.drop_drop]
      rw [show m + i * m = i.succ * m by rw [Nat.succ_mul]; omega]
    rw [e, ih (by rw [List.length_drop, h, Nat.succ_mul]; omega)]
    simp
theorem WT.frz {H : Heap} : ∀ {k : Nat} {t : TypeId} {cs : List V} {d : Nat}, plainT P k t = true → WT P k t cs H → sdep P k t ≤ d → ∃ us ids, frzL (frzV H d) cs = some (us, ids) ∧ FT P k t us
  | 0, t, cs, d, hp, h, hd => by simp [plainT] at hp
  | k + 1, t, cs, d, hp, h, hd => by
    unfold plainT at hp
    unfold WT at h
    unfold sdep at hd
    split at h
    · rename_i hu
      simp only [hu] at hd
      obtain ⟨b, rfl⟩ := h
      obtain ⟨d', rfl⟩ : ∃ d', d = d' + 1 := ⟨d - 1, by omega⟩
      exact ⟨_, [], frzL_fro1 rfl, by unfold FT; simp only [hu]; exact ⟨b, rfl⟩⟩
    · rename_i q hu
      simp only [hu] at hd
      obtain ⟨b, rfl, w⟩ := h
      obtain ⟨d', rfl⟩ : ∃ d', d = d' + 1 := ⟨d - 1, by omega⟩
      exact ⟨_, [], frzL_fro1 rfl, by unfold FT; simp only [hu]; exact ⟨b, rfl, w⟩⟩
    · rename_i hu
      simp only [hu] at hd
      obtain ⟨b, rfl, w⟩ := h
      obtain ⟨d', rfl⟩ : ∃ d', d = d' + 1 := ⟨d - 1, by omega⟩
      exact ⟨_, [], frzL_fro1 rfl, by unfold FT; simp only [hu]; exact ⟨b, rfl, w⟩⟩
    · rename_i e hu
      simp only [hu] at hd hp
      simp only [Bool.and_eq_true, decide_eq_true_eq] at hp
      obtain ⟨d', rfl⟩ : ∃ d', d = d' + 1 := ⟨d - 1, by omega⟩
      have hnil : ∀ (s : Sl), s.len = 0 → frzL (frzV H (d' + 1)) [.slice s] = some ([.list 0 0 []], []) := by
        intro s hs
        simp only [frzL, frzV, hs, if_true, List.append_nil]
      have hft : FT P (k + 1) t [.list 0 0 []] := by
        unfold FT; simp only [hu]
        exact ⟨0, 0, [], rfl, Nat.zero_le _, fun _ => ⟨rfl, rfl⟩, fun h => (h rfl).elim, by simp, fun j hj => by omega⟩
      rcases h with rfl | ⟨i, len, full, rfl, h1, h2, h3⟩
      · exact ⟨_, _, hnil _ rfl, hft⟩
      · by_cases h0 : len = 0
        · subst h0; exact ⟨_, _, hnil _ rfl, hft⟩
        · obtain ⟨el, xs, g, hl, hx⟩ := h3 h0
          have := frzL_flat (f := frzV H d') (fun i => (xs.drop (i * P.cellsOf e)).take (P.cellsOf e)) (fun _ u => FT P k e u) (List.range len) fun j hj => by
            obtain ⟨us, ids, a, b⟩ := WT.frz (d := d') hp.2 (hx j (List.mem_range.1 hj)) (by omega)
            exact ⟨us, ids, a, b⟩
          obtain ⟨us, ids, a1, a2, a3⟩ := this
          rw [chunks_len hl] at a1
          rw [List.length_range] at a2
          have hul : ∀ (i : Nat) (u : List V), us[i]? = some u → u.length = P.cellsOf e := by
            intro i u hi
            have hi2 : i < us.length := by
              rcases Nat.lt_or_ge i us.length with h | h
              · exact h
              · rw [List.getElem?_eq_none h] at hi; cases hi
            exact FT.len hp.2 (a3 i i u (by simp [List.getElem?_range (show i < len by omega)]) hi)
          refine ⟨[.list len (P.cellsOf e) us.flatten], i :: ids, ?_, ?_⟩
          · have ht : (xs.drop 0).take (len * P.cellsOf e) = xs := by rw [List.drop_zero, ← hl, List.take_length]
            have hf : frzV H (d' + 1) (.slice ⟨some (i, 0), len, P.cellsOf e, full⟩) = some (.list len (P.cellsOf e) us.flatten, i :: ids) := by
              unfold frzV
              simp only [if_neg h0, g, ht, a1, Nat.zero_add]
              rw [if_pos (by omega)]
            simp only [frzL, hf, List.append_nil]
          · unfold FT; simp only [hu]
            refine ⟨len, _, _, rfl, h2, fun h => (h0 h).elim, fun _ => rfl, by rw [flatten_len hul, a2], fun j hj => ?_⟩
            have hj2 : j < us.length := by omega
            have hg : us[j]? = some us[j] := by simp [hj2]
            rw [flatten_chunk hul hg]
            exact a3 j j us[j] (by simp [List.getElem?_range (show j < len by omega)]) hg
    · rename_i fs hu
      simp only [hu] at hd hp
      simp only [Bool.and_eq_true, List.all_eq_true] at hp
      obtain ⟨hd1, hd2⟩ := foldr_le hd
      obtain ⟨h1, h2⟩ := h
      have hw := (tiles_whole h1 hp.1).2
      rw [List.drop_zero] at hw
      have := frzL_flat (f := frzV H d) (fun f : Field => (cs.drop f.offset).take (P.cellsOf f.type)) (fun f u => FT P k f.type u) fs.toList fun f hf => by
        obtain ⟨us, ids, a, b⟩ := WT.frz (d := d) (hp.2 f hf) (h2 f hf) (hd2 _ (List.mem_map.2 ⟨f, hf, rfl⟩))
        exact ⟨us, ids, a, b⟩
      obtain ⟨us, ids, a1, a2, a3⟩ := this
      rw [hw] at a1
      have hs : ∀ (i : Nat) (f : Field) (u : List V), fs.toList[i]? = some f → us[i]? = some u → u.length = P.cellsOf f.type := fun i f u x y => FT.len (hp.2 f (List.mem_of_getElem? x)) (a3 i f u x y)
      obtain ⟨_, t2, t3⟩ := tiles_chunk hp.1 a2 hs
      refine ⟨us.flatten, ids, a1, ?_⟩
      unfold FT; simp only [hu]
      refine ⟨by rw [t2]; simp, fun f hf => ?_⟩
      obtain ⟨i, hi⟩ := List.getElem?_of_mem hf
      have hi2 : i < us.length := by
        rw [a2]
        rcases Nat.lt_or_ge i fs.toList.length with h | h
        · exact h
        · rw [List.getElem?_eq_none h] at hi; cases hi
      have hg : us[i]? = some us[i] := by simp [hi2]
      have := (t3 i f us[i] hi hg).2
      rw [Nat.sub_zero] at this
      rw [this]
      exact a3 i f us[i] hi hg
    · rename_i n e hu
      simp only [hu] at hd hp
      simp only [Bool.and_eq_true, decide_eq_true_eq] at hp
      obtain ⟨h1, h2⟩ := h
      have := frzL_flat (f := frzV H d) (fun i => (cs.drop (i * P.cellsOf e)).take (P.cellsOf e)) (fun _ u => FT P k e u) (List.range n) fun j hj => by
        obtain ⟨us, ids, a, b⟩ := WT.frz (d := d) hp.2 (h2 j (List.mem_range.1 hj)) (by omega)
        exact ⟨us, ids, a, b⟩
      obtain ⟨us, ids, a1, a2, a3⟩ := this
      rw [chunks_len (by rw [h1, hp.1])] at a1
      rw [List.length_range] at a2
      have hul : ∀ (i : Nat) (u : List V), us[i]? = some u → u.length = P.cellsOf e := by
        intro i u hi
        have hi2 : i < us.length := by
          rcases Nat.lt_or_ge i us.length with h | h
          · exact h
          · rw [List.getElem?_eq_none h] at hi; cases hi
        exact FT.len hp.2 (a3 i i u (by simp [List.getElem?_range (show i < n by omega)]) hi)
      refine ⟨us.flatten, ids, a1, ?_⟩
      unfold FT; simp only [hu]
      refine ⟨by rw [flatten_len hul, a2, hp.1], fun j hj => ?_⟩
      have hg : us[j]? = some us[j] := by simp [show j < us.length by omega]
      rw [flatten_chunk hul hg]
      exact a3 j j us[j] (by simp [List.getElem?_range (show j < n by omega)]) hg
    · exact h.elim
theorem frees_app {a b : List V} : V.frees (a ++ b) = (V.frees a && V.frees b) := by
  induction a with
  | nil => simp [V.frees]
  | cons x a ih => simp [V.frees, ih, Bool.and_assoc]
theorem chunks_all {α : Type} {p : List α → Prop} (hn : p []) (hadd : ∀ a b, p a → p b → p (a ++ b)) {n m : Nat} {cs : List α} (h : cs.length = n * m) (hc : ∀ j, j < n → p ((cs.drop (j * m)).take m)) : p cs := by
  have : ∀ l : List (List α), (∀ x ∈ l, p x) → p l.flatten := by
    intro l
    induction l with
    | nil => intro _; exact hn
    | cons x l ih => intro hx; simp only [List.flatten_cons]; exact hadd _ _ (hx x (by simp)) (ih fun y hy => hx y (by simp [hy]))
  rw [← chunks_len h]
  refine this _ fun x hx => ?_
  obtain ⟨j, hj, rfl⟩ := List.mem_map.1 hx
  exact hc j (List.mem_range.1 hj)
theorem FT.fro : ∀ {k : Nat} {t : TypeId} {cs : List V}, plainT P k t = true → FT P k t cs → cs.all V.fro1 = true ∧ V.frees cs = true
  | 0, t, cs, hp, h => by simp [plainT] at hp
  | k + 1, t, cs, hp, h => by
    have add : ∀ a b : List V, (a.all V.fro1 = true ∧ V.frees a = true) → (b.all V.fro1 = true ∧ V.frees b = true) → ((a ++ b).all V.fro1 = true ∧ V.frees (a ++ b) = true) := by
      intro a b ⟨a1, a2⟩ ⟨b1, b2⟩
      exact ⟨by rw [List.all_append, a1, b1]; rfl, by rw [frees_app, a2, b2]; rfl⟩
    unfold plainT at hp
    unfold FT at h
    split at h
    · obtain ⟨b, rfl⟩ := h; exact ⟨rfl, rfl⟩
    · obtain ⟨b, rfl, -⟩ := h; exact ⟨rfl, rfl⟩
    · obtain ⟨b, rfl, -⟩ := h; exact ⟨rfl, rfl⟩
    · rename_i e hu
      simp only [hu, Bool.and_eq_true, decide_eq_true_eq] at hp
      obtain ⟨len, z, xs, rfl, -, -, -, h4, h5⟩ := h
      have := chunks_all (p := fun xs : List V => xs.all V.fro1 = true ∧ V.frees xs = true) ⟨rfl, rfl⟩ add h4 fun j hj => FT.fro hp.2 (h5 j hj)
      exact ⟨rfl, by simp only [V.frees, V.free, this.2, Bool.and_true]⟩
    · rename_i fs hu
      simp only [hu, Bool.and_eq_true, List.all_eq_true] at hp
      obtain ⟨h1, h2⟩ := h
      have hw := (tiles_whole h1 hp.1).2
      rw [List.drop_zero] at hw
      rw [← hw]
      have : ∀ l : List Field, (∀ f ∈ l, f ∈ fs.toList) → ((l.map fun f => (cs.drop f.offset).take (P.cellsOf f.type)).flatten.all V.fro1 = true ∧ V.frees (l.map fun f => (cs.drop f.offset).take (P.cellsOf f.type)).flatten = true) := by
        intro l
        induction l with
        | nil => intro _; exact ⟨rfl, rfl⟩
        | cons x l ih =>
          intro hx
          simp only [List.map_cons, List.flatten_cons]
          exact add _ _ (FT.fro (hp.2 x (hx x (by simp))) (h2 x (hx x (by simp)))) (ih fun y hy => hx y (by simp [hy]))
      exact this fs.toList fun f hf => hf
    · rename_i n e hu
      simp only [hu, Bool.and_eq_true, decide_eq_true_eq] at hp
      obtain ⟨h1, h2⟩ := h
      exact chunks_all (p := fun xs : List V => xs.all V.fro1 = true ∧ V.frees xs = true) ⟨rfl, rfl⟩ add (n := n) (m := P.cellsOf e) (by rw [h1, hp.1]) fun j hj => FT.fro hp.2 (h2 j hj)
    · exact h.elim
end
def hasBody (P : Program) (f : FuncId) : Bool := match P.funcs[f]? with
  | some fn => fn.body.isSome && !(fn.name == "runtime.NumGoroutine")
  | none => false
theorem enter_run {P : Program} {f : FuncId} {xs : Array Value} {w : World} (h : hasBody P f = true) : (callFunc f xs).run P w = .ok (.enter f xs) w := by
  unfold hasBody at h
  split at h
  · rename_i fn hfn
    simp only [Bool.and_eq_true, Bool.not_eq_true'] at h
    obtain ⟨h1, h2⟩ := h
    obtain ⟨c, hc⟩ := Option.isSome_iff_exists.1 h1
    have hne : ¬ fn.name = "runtime.NumGoroutine" := by simpa using h2
    simp [callFunc, hfn, hc, hne]
  · cases h
def FTs (P : Program) (k : Nat) : List TypeId → List V → Prop
  | [], vs => vs = []
  | t :: ts, vs => ∃ cs us, vs = argV P t cs :: us ∧ FT P k t cs ∧ FTs P k ts us
theorem argV_frz {P : Program} {k : Nat} {t : TypeId} {cs us : List V} {H : Heap} {ids : List Nat} (hp : plainT P k t = true) (hc : cs.length = P.cellsOf t) (h : frzL (frzV H 5) cs = some (us, ids)) (h6 : frzL (frzV H 6) cs = some (us, ids)) :
    ∃ ids, frzV H 6 (argV P t cs) = some (argV P t us, ids) := by
  have one : P.cellsOf t = 1 → ∃ ids, frzV H 6 (cs.headD .dead) = some (us.headD .dead, ids) := by
    intro h1
    match cs, h1 ▸ hc with
    | [v], _ =>
      simp only [frzL] at h6
      cases hv : frzV H 6 v with
      | none => rw [hv] at h6; cases h6
      | some p =>
        rw [hv] at h6
        simp only [Option.some.injEq, Prod.mk.injEq] at h6
        obtain ⟨rfl, -⟩ := h6
        exact ⟨p.2, by simp [hv]⟩
  have agg : ∃ ids, frzV H 6 (.agg cs) = some (.agg us, ids) := ⟨ids, by unfold frzV; simp only [h]⟩
  unfold argV
  cases k with
  | zero => simp [plainT] at hp
  | succ k =>
    unfold plainT at hp
    split at hp
    · rename_i hu; simp only [hu]; exact one (by simpa using hp)
    · rename_i hu; simp only [hu]; exact one (by simpa using hp)
    · rename_i hu; simp only [hu]; exact one (by simpa using hp)
    · rename_i e hu; simp only [hu]; simp only [Bool.and_eq_true, decide_eq_true_eq] at hp; exact one hp.1.1
    · rename_i fs hu; simp only [hu]; exact agg
    · rename_i fs hu; simp only [hu]; exact agg
    · cases hp
theorem WT.len {P : Program} {H : Heap} {k : Nat} {t : TypeId} {cs : List V} (hp : plainT P k t = true) (h : WT P k t cs H) : cs.length = P.cellsOf t := by
  cases k with
  | zero => simp [plainT] at hp
  | succ k =>
    unfold plainT at hp
    unfold WT at h
    split at h
    · rename_i hu; simp only [hu, decide_eq_true_eq] at hp; obtain ⟨b, rfl⟩ := h; simp [hp]
    · rename_i hu; simp only [hu, decide_eq_true_eq] at hp; obtain ⟨b, rfl, -⟩ := h; simp [hp]
    · rename_i hu; simp only [hu, decide_eq_true_eq] at hp; obtain ⟨b, rfl, -⟩ := h; simp [hp]
    · rename_i hu; simp only [hu, Bool.and_eq_true, decide_eq_true_eq] at hp
      rcases h with rfl | ⟨i, len, full, rfl, -⟩ <;> simp [hp.1.1]
    · exact h.1
    · exact h.1
    · exact h.elim
theorem frzL_more {H : Heap} : ∀ (d : Nat), (∀ v r, frzV H d v = some r → frzV H (d + 1) v = some r) := by
  intro d
  induction d with
  | zero => intro v r h; simp [frzV] at h
  | succ d ih =>
    have hl : ∀ cs r, frzL (frzV H d) cs = some r → frzL (frzV H (d + 1)) cs = some r := by
      intro cs
      induction cs with
      | nil => intro r h; exact h
      | cons v cs ihc =>
        intro r h
        simp only [frzL] at h ⊢
        cases hv : frzV H d v with
        | none => rw [hv] at h; cases h
        | some p =>
          rw [hv] at h
          cases hc : frzL (frzV H d) cs with
          | none => rw [hc] at h; cases h
          | some q =>
            rw [hc] at h
            rw [ih _ _ hv, ihc _ hc]
            exact h
    intro v r h
    unfold frzV at h ⊢
    split at h
    · rename_i s
      split at h
      · rename_i h0; rw [if_pos h0]; exact h
      · rename_i h0
        rw [if_neg h0]
        split at h
        · cases h
        · rename_i i o had
          split at h
          · rename_i cs e r hg
            try simp only [had]
            try simp only [hg]
            split at h
            · rename_i hle
              rw [if_pos hle]
              split at h
              · rename_i p hp
                rw [hl _ _ hp]; exact h
              · cases h
            · cases h
          · cases h
    · split at h
      · rename_i p hp; rw [hl _ _ hp]; exact h
      · cases h
    · split at h
      · rename_i p hp; rw [hl _ _ hp]; exact h
      · cases h
    · exact h
theorem frzL_more1 {H : Heap} {d : Nat} : ∀ {cs : List V} {r : List V × List Nat}, frzL (frzV H d) cs = some r → frzL (frzV H (d + 1)) cs = some r
  | [], r, h => h
  | v :: cs, r, h => by
    simp only [frzL] at h ⊢
    cases hv : frzV H d v with
    | none => rw [hv] at h; cases h
    | some p =>
      rw [hv] at h
      cases hc : frzL (frzV H d) cs with
      | none => rw [hc] at h; cases h
      | some q =>
        rw [hc] at h
        rw [frzL_more d _ _ hv, frzL_more1 hc]
        exact h
theorem argV_fro {P : Program} {k : Nat} {t : TypeId} {cs : List V} (hp : plainT P k t = true) (h : cs.all V.fro1 = true ∧ V.frees cs = true) (hc : cs.length = P.cellsOf t) : (argV P t cs).fro = true ∧ (argV P t cs).free = true := by
  have one : P.cellsOf t = 1 → (cs.headD .dead).fro = true ∧ (cs.headD .dead).free = true := by
    intro h1
    match cs, h1 ▸ hc with
    | [v], _ =>
      obtain ⟨a, b⟩ := h
      simp only [List.all_cons, List.all_nil, Bool.and_true] at a
      simp only [V.frees, Bool.and_true] at b
      refine ⟨?_, by simpa using b⟩
      cases v <;> simp_all [V.fro, V.fro1]
  have agg : (V.agg cs).fro = true ∧ (V.agg cs).free = true := ⟨by simpa [V.fro] using h.1, by simpa [V.free] using h.2⟩
  unfold argV
  cases k with
  | zero => simp [plainT] at hp
  | succ k =>
    unfold plainT at hp
    split at hp
    · rename_i hu; simp only [hu]; exact one (by simpa using hp)
    · rename_i hu; simp only [hu]; exact one (by simpa using hp)
    · rename_i hu; simp only [hu]; exact one (by simpa using hp)
    · rename_i e hu; simp only [hu]; simp only [Bool.and_eq_true, decide_eq_true_eq] at hp; exact one hp.1.1
    · rename_i fs hu; simp only [hu]; exact agg
    · rename_i fs hu; simp only [hu]; exact agg
    · cases hp
theorem WTs.frz {P : Program} {k : Nat} {H : Heap} : ∀ {ts : List TypeId} {us : List V}, ts.all (fun t => plainT P k t && decide (sdep P k t ≤ 5)) = true → WTs P k H ts us →
    ∃ us' ids, frzL (frzV H 6) us = some (us', ids) ∧ FTs P k ts us' ∧ us'.all V.fro = true ∧ V.frees us' = true
  | [], us, _, h => by cases h; exact ⟨[], [], rfl, rfl, rfl, rfl⟩
  | t :: ts, us, hp, ⟨cs, us2, e, h, r⟩ => by
    subst e
    simp only [List.all_cons, Bool.and_eq_true, decide_eq_true_eq] at hp
    obtain ⟨v, ids, a, b⟩ := WT.frz (d := 5) hp.1.1 h hp.1.2
    obtain ⟨vs, ids2, c1, c2, c3, c4⟩ := WTs.frz (ts := ts) (by simpa using hp.2) r
    obtain ⟨ids3, e3⟩ := argV_frz hp.1.1 (WT.len hp.1.1 h) a (frzL_more1 a)
    have f1 := argV_fro hp.1.1 (FT.fro hp.1.1 b) (FT.len hp.1.1 b)
    refine ⟨argV P t v :: vs, ids3 ++ ids2, by simp only [frzL, e3, c1], ⟨_, _, rfl, b, c2⟩, by simp only [List.all_cons, f1.1, c3, Bool.and_self], by simp only [V.frees, f1.2, c4, Bool.and_self]⟩
theorem law_pure {f : Nat → List V → Heap → Option R} {kk : Nat → List V → Option R} (he : ∀ n a H, f (n + 1) a H = pureA a H (kk n)) {P : Program} {k : Nat} {ts : List TypeId} (hp : ts.all (fun t => plainT P k t && decide (sdep P k t ≤ 5)) = true)
    (hlaw : ∀ (H : Heap) (us : List V), FTs P k ts us → us.all V.fro = true → V.frees us = true → Tot (fun n => f n us H) fun v _ => v = .bool true) {H : Heap} {us : List V} (h : WTs P k H ts us) : ∃ n H', f n us H = some (.bool true, H') := by
  obtain ⟨us', ids, h1, h2, h3, h4⟩ := WTs.frz hp h
  obtain ⟨v, G, rfl, n0, hn⟩ := hlaw (killL ids H) us' h2 h3 h4
  refine ⟨n0 + 1, G, ?_⟩
  have := hn (n0 + 1) (by omega)
  simp only [he] at this ⊢
  unfold pureA at this ⊢
  rw [frzAs_fro h3] at this
  have e : frzAs us H = some (us', killL ids H) := by unfold frzAs; rw [h1]
  rw [e]
  exact this
end Go.AM
end
section
set_option linter.unusedVariables false
set_option linter.unusedSimpArgs false
set_option linter.unusedSimpArgs false
set_option linter.unusedVariables false
set_option maxRecDepth 100000
namespace Go.AM
def isNatT (P : Program) (t : TypeId) : Bool := match P.underlying t with
  | some (.slice e) => (P.cellsOf e == 1) && (match P.underlying e with | some (.int .u32) => true | _ => false)
  | _ => false
def isBoolT (P : Program) (t : TypeId) : Bool := match P.underlying t with
  | some .bool => true
  | _ => false
def isIntKT (P : Program) (k : IntKind) (t : TypeId) : Bool := match P.underlying t with
  | some (.int q) => q == k
  | _ => false
def isIntT (P : Program) (t : TypeId) : Bool := match P.underlying t with
  | some (.struct fs) => match fs.toList with
    | [f, g] => (f.offset == 0) && (g.offset == 1) && (P.cellsOf f.type == 1) && (P.cellsOf g.type == 1) && (P.cellsOf t == 2) && isBoolT P f.type && isNatT P g.type
    | _ => false
  | _ => false
def isRatT (P : Program) (t : TypeId) : Bool := match P.underlying t with
  | some (.struct fs) => match fs.toList with
    | [f, g] => (f.offset == 0) && (g.offset == 2) && (P.cellsOf f.type == 2) && (P.cellsOf g.type == 1) && (P.cellsOf t == 3) && isIntT P f.type && isNatT P g.type
    | _ => false
  | _ => false
def isSpotT (P : Program) (t : TypeId) : Bool := match P.underlying t with
  | some (.struct fs) => match fs.toList with
    | [f, g] => (f.offset == 0) && (g.offset == 3) && (P.cellsOf f.type == 3) && (P.cellsOf g.type == 3) && (P.cellsOf t == 6) && isRatT P f.type && isRatT P g.type
    | _ => false
  | _ => false
def isSpotsT (P : Program) (t : TypeId) : Bool := match P.underlying t with
  | some (.slice e) => (P.cellsOf e == 6) && isSpotT P e
  | _ => false
section
variable {P : Program} {k : Nat} {t : TypeId} {cs : List V}
theorem FT.bool (ht : isBoolT P t = true) (h : FT P (k + 1) t cs) : ∃ b, cs = [.bool b] := by
  unfold isBoolT at ht
  unfold FT at h
  split at ht
  · rename_i hu; simp only [hu] at h; exact h
  · cases ht
theorem FT.int {q : IntKind} (ht : isIntKT P q t = true) (h : FT P (k + 1) t cs) : ∃ z, cs = [.int q z] ∧ (Lit.int q z).wf = true := by
  unfold isIntKT at ht
  unfold FT at h
  split at ht
  · rename_i hu
    simp only [hu] at h
    simp only [beq_iff_eq] at ht
    subst ht; exact h
  · cases ht
theorem all_u32 : ∀ (xs : List V), (∀ j, j < xs.length → ∃ n : Nat, (xs.drop j).take 1 = [.int .u32 n] ∧ n < 4294967296) → ∃ l, xs = nums .u32 l ∧ Lim 4294967296 l
  | [], _ => ⟨[], rfl, fun x h => (by cases h)⟩
  | x :: xs, h => by
    obtain ⟨n, h1, h2⟩ := h 0 (by simp)
    obtain ⟨l, e, hl⟩ := all_u32 xs fun j hj => by
      have := h (j + 1) (by simp; omega)
      simpa using this
    refine ⟨n :: l, ?_, ?_⟩
    · simp at h1; simp [h1, e, nums]
    · intro y hy
      rcases List.mem_cons.1 hy with rfl | hy
      · exact h2
      · exact hl y hy
theorem FT.nat (ht : isNatT P t = true) (h : FT P (k + 2) t cs) : ∃ l, cs = [encN .u32 l] ∧ Lim 4294967296 l := by
  unfold isNatT at ht
  unfold FT at h
  split at ht
  · rename_i e hu
    simp only [hu] at h
    simp only [Bool.and_eq_true, beq_iff_eq] at ht
    obtain ⟨hc, hk⟩ := ht
    rw [hc] at h
    obtain ⟨len, z, xs, rfl, h1, h2, h3, h4, h5⟩ := h
    split at hk
    · rename_i hu2
      obtain ⟨l, e, hL⟩ := all_u32 xs fun j hj => by
        have := h5 j (by omega)
        unfold FT at this
        simp only [hu2, Nat.mul_one] at this
        obtain ⟨n, e, w⟩ := this
        have w' : 0 ≤ n ∧ n < 4294967296 := by
          simp only [Lit.wf, Bool.and_eq_true, decide_eq_true_eq] at w
          have a1 : IntKind.u32.min = 0 := by decide
          have a2 : IntKind.u32.max = 4294967295 := by decide
          omega
        exact ⟨n.toNat, by rw [e]; congr 2; omega, by omega⟩
      subst e
      have hl' : len = l.length := by simpa [nums] using h4.symm
      refine ⟨l, ?_, hL⟩
      unfold encN
      by_cases h0 : l.length = 0
      · obtain ⟨a, b⟩ := h2 (by omega)
        rw [if_pos h0, hl', a, b, h0]
      · rw [if_neg h0, hl', h3 (by omega)]
    · cases hk
  · cases ht
theorem cut2 {cs : List V} {a b : V} (h : cs.length = 2) (h1 : (cs.drop 0).take 1 = [a]) (h2 : (cs.drop 1).take 1 = [b]) : cs = [a, b] := by
  match cs, h with
  | [x, y], _ => simp at h1 h2; simp [h1, h2]
theorem cut3 {cs : List V} {a b c : V} (h : cs.length = 3) (h1 : (cs.drop 0).take 2 = [a, b]) (h2 : (cs.drop 2).take 1 = [c]) : cs = [a, b, c] := by
  match cs, h with
  | [x, y, z], _ => simp at h1 h2; simp [h1, h2]
theorem cut6 {cs : List V} {a b c d e f : V} (h : cs.length = 6) (h1 : (cs.drop 0).take 3 = [a, b, c]) (h2 : (cs.drop 3).take 3 = [d, e, f]) : cs = [a, b, c, d, e, f] := by
  match cs, h with
  | [x, y, z, u, v, w], _ => simp at h1 h2; simp [h1, h2]
theorem FT.whole (ht : isIntT P t = true) (h : FT P (k + 3) t cs) : ∃ b l, cs = [.bool b, encN .u32 l] ∧ Lim 4294967296 l := by
  unfold isIntT at ht
  unfold FT at h
  split at ht
  · rename_i fs hu
    simp only [hu] at h
    split at ht
    · rename_i f g hfs
      simp only [Bool.and_eq_true, beq_iff_eq] at ht
      obtain ⟨⟨⟨⟨⟨⟨a1, a2⟩, a3⟩, a4⟩, a5⟩, a6⟩, a7⟩ := ht
      rw [hfs] at h
      obtain ⟨hl, hf⟩ := h
      have w1 := hf f (by simp)
      have w2 := hf g (by simp)
      rw [a1, a3] at w1
      rw [a2, a4] at w2
      obtain ⟨b, e1⟩ := FT.bool a6 w1
      obtain ⟨l, e2, L⟩ := FT.nat a7 w2
      exact ⟨b, l, cut2 (by omega) e1 e2, L⟩
    · cases ht
  · cases ht
theorem FT.rat (ht : isRatT P t = true) (h : FT P (k + 4) t cs) : ∃ b l q, cs = [.bool b, encN .u32 l, encN .u32 q] ∧ Lim 4294967296 l ∧ Lim 4294967296 q := by
  unfold isRatT at ht
  unfold FT at h
  split at ht
  · rename_i fs hu
    simp only [hu] at h
    split at ht
    · rename_i f g hfs
      simp only [Bool.and_eq_true, beq_iff_eq] at ht
      obtain ⟨⟨⟨⟨⟨⟨a1, a2⟩, a3⟩, a4⟩, a5⟩, a6⟩, a7⟩ := ht
      rw [hfs] at h
      obtain ⟨hl, hf⟩ := h
      have w1 := hf f (by simp)
      have w2 := hf g (by simp)
      rw [a1, a3] at w1
      rw [a2, a4] at w2
      obtain ⟨b, l, e1, L⟩ := FT.whole a6 w1
      obtain ⟨l', e2, L'⟩ := FT.nat a7 w2
      exact ⟨b, l, l', cut3 (by omega) e1 e2, L, L'⟩
    · cases ht
  · cases ht
structure Spt.lim (p : Spt) : Prop where
  l : Lim 4294967296 p.l
  q : Lim 4294967296 p.q
  m : Lim 4294967296 p.m
  r : Lim 4294967296 p.r
theorem Lim.cut {b : Nat} {l : List Nat} (h : Lim b l) (n : Nat) : Lim b (l.take n) := fun x hx => h x (List.mem_of_mem_take hx)
theorem Spt.lim.cut {p : Spt} (h : p.lim) : p.cut.ok :=
  ⟨⟨h.l.cut 2, h.q.cut 1, by simp [Spt.cut, List.length_take]; omega, by simp [Spt.cut, List.length_take]; omega⟩, ⟨h.m.cut 2, h.r.cut 1, by simp [Spt.cut, List.length_take]; omega, by simp [Spt.cut, List.length_take]; omega⟩⟩
theorem FT.spot (ht : isSpotT P t = true) (h : FT P (k + 5) t cs) : ∃ p : Spt, cs = p.cells ∧ p.lim := by
  unfold isSpotT at ht
  unfold FT at h
  split at ht
  · rename_i fs hu
    simp only [hu] at h
    split at ht
    · rename_i f g hfs
      simp only [Bool.and_eq_true, beq_iff_eq] at ht
      obtain ⟨⟨⟨⟨⟨⟨a1, a2⟩, a3⟩, a4⟩, a5⟩, a6⟩, a7⟩ := ht
      rw [hfs] at h
      obtain ⟨hl, hf⟩ := h
      have w1 := hf f (by simp)
      have w2 := hf g (by simp)
      rw [a1, a3] at w1
      rw [a2, a4] at w2
      obtain ⟨s, l, q, e1, L1, L2⟩ := FT.rat a6 w1
      obtain ⟨s', l', q', e2, L3, L4⟩ := FT.rat a7 w2
      exact ⟨⟨s, l, q, s', l', q'⟩, cut6 (by omega) e1 e2, ⟨L1, L2, L3, L4⟩⟩
    · cases ht
  · cases ht
theorem FT.spots (ht : isSpotsT P t = true) (h : FT P (k + 6) t cs) : ∃ L : List Spt, cs = [rowS L] ∧ ∀ p ∈ L, p.lim := by
  unfold isSpotsT at ht
  unfold FT at h
  split at ht
  · rename_i e hu
    simp only [hu] at h
    simp only [Bool.and_eq_true, beq_iff_eq] at ht
    obtain ⟨hc, hk⟩ := ht
    rw [hc] at h
    obtain ⟨len, z, xs, rfl, h1, h2, h3, h4, h5⟩ := h
    have key : ∀ (n : Nat) (xs : List V), xs.length = n * 6 → (∀ j, j < n → FT P (k + 5) e ((xs.drop (j * 6)).take 6)) → ∃ L : List Spt, xs = L.flatMap Spt.cells ∧ L.length = n ∧ ∀ p ∈ L, p.lim := by
      intro n
      induction n with
      | zero => intro xs hl _; exact ⟨[], List.eq_nil_of_length_eq_zero (by omega), rfl, fun p hp => (by cases hp)⟩
      | succ n ih =>
        intro xs hl hx
        obtain ⟨p, e1, e2⟩ := FT.spot hk (hx 0 (by omega))
        obtain ⟨L, e3, e4, e5⟩ := ih (xs.drop 6) (by rw [List.length_drop]; omega) fun j hj => by
          have := hx (j + 1) (by omega)
          rw [List.drop_drop, show 6 + j * 6 = (j + 1) * 6 by omega]; exact this
        refine ⟨p :: L, ?_, by simp [e4], fun q hq => ?_⟩
        · rw [List.flatMap_cons, ← e3, ← e1, Nat.zero_mul, List.drop_zero, List.take_append_drop]
        · rcases List.mem_cons.1 hq with rfl | hq
          · exact e2
          · exact e5 q hq
    obtain ⟨L, e1, e2, e3⟩ := key len xs h4 h5
    refine ⟨L, ?_, e3⟩
    unfold rowS
    by_cases h0 : L.length = 0
    · obtain ⟨a, b⟩ := h2 (by omega)
      rw [if_pos h0, a, b, ← e2, h0]
    · rw [if_neg h0, h3 (by omega), e1, e2]
  · cases ht
theorem isSpotT.agg (ht : isSpotT P t = true) : argV P t cs = .agg cs := by
  unfold isSpotT at ht
  unfold argV
  split at ht
  · rename_i fs hu; simp only [hu]
  · cases ht
theorem isSpotsT.one {v : V} (ht : isSpotsT P t = true) : argV P t [v] = v := by
  unfold isSpotsT at ht
  unfold argV
  split at ht
  · rename_i e hu; simp only [hu]; rfl
  · cases ht
theorem isIntKT.one {v : V} {q : IntKind} (ht : isIntKT P q t = true) : argV P t [v] = v := by
  unfold isIntKT at ht
  unfold argV
  split at ht
  · rename_i e hu; simp only [hu]; rfl
  · cases ht
end
end Go.AM
end
section
set_option linter.unusedVariables false
set_option linter.unusedSimpArgs false
set_option linter.unusedSimpArgs false
set_option linter.unusedVariables false
set_option maxRecDepth 100000
namespace Go.AM
theorem len_rowS {L : List Spt} : lenSl (rowS L) = some (.int .i64 (L.length : Int)) := by
  unfold rowS
  split
  · simp_all [lenSl]
  · simp_all [lenSl]
theorem flat_take : ∀ (L : List Spt) (n : Nat), (L.flatMap Spt.cells).take (n * 6) = (L.take n).flatMap Spt.cells
  | [], n => by simp
  | p :: L, 0 => by simp
  | p :: L, n + 1 => by
    have e2 : p.cells.length = 6 := rfl
    rw [List.flatMap_cons, List.take_succ_cons, List.flatMap_cons, ← flat_take L n, show (n + 1) * 6 = p.cells.length + n * 6 by rw [e2]; omega, List.take_length_add_append]
theorem sl_rowS {L : List Spt} (h : 6 < L.length) : slSl 6 (rowS L) none (some (.int .i64 6)) = some (rowS (L.take 6)) := by
  have e : (L.take 6).length = 6 := by rw [List.length_take]; omega
  have e1 : bndA L.length (some (.int .i64 6)) = some 6 := rfl
  have ft := flat_take L 6
  unfold rowS
  rw [if_neg (by omega), if_neg (by omega)]
  unfold slSl
  simp only [show bndA 0 none = some 0 from rfl, e1, Option.bind_some]
  rw [if_pos ⟨by omega, by omega, .inr trivial⟩, if_neg (by omega), ← ft, e]
  simp
def cutL (L : List Spt) : List Spt := (L.take 6).map Spt.cut
theorem cutL_len {L : List Spt} : (cutL L).length ≤ 6 := by simp [cutL, List.length_take]; omega
theorem cutL_ok {L : List Spt} (h : ∀ p ∈ L, p.lim) : ∀ p ∈ cutL L, p.ok := by
  intro p hp
  obtain ⟨q, hq, rfl⟩ := List.mem_map.1 hp
  exact (h q (List.mem_of_mem_take hq)).cut
namespace N
variable {H : Heap}
theorem few_N {L : List Spt} : Gv (fun n => f_law42_few n [rowS L] H) (rowS (cutL L)) H := by
  refine law42_few_tot (all1 rowS_fro) (fre1 rowS_free) ?_
  simp only [law42_few_b]
  refine Tot.pure len_rowS ?_
  by_cases h : 6 < L.length
  · have e1 : arA .gtr (.int .i64 (L.length : Int)) (.int .i64 6) = some (.bool true) := by simp (disch := omega) []; omega
    refine Tot.pure e1 ?_
    refine Tot.pure (show asB (.bool true) = some true from rfl) ?_
    simp only [if_true]
    refine Tot.pure (sl_rowS h) ?_
    refine Tot.mono (few_p0 (L := L.take 6) (by rw [List.length_take]; omega) rfl) ?_
    intro v _ hv; subst hv
    exact ⟨rowS_free, by simp [cutL]⟩
  · have e1 : arA .gtr (.int .i64 (L.length : Int)) (.int .i64 6) = some (.bool false) := by simp (disch := omega) []; omega
    refine Tot.pure e1 ?_
    refine Tot.pure (show asB (.bool false) = some false from rfl) ?_
    simp only [Bool.false_eq_true, if_false]
    refine Tot.mono (few_p0 (L := L) (by omega) rfl) ?_
    intro v _ hv; subst hv
    refine ⟨rowS_free, ?_⟩
    rw [cutL, List.take_of_length_le (show L.length ≤ 6 by omega)]
    exact ⟨trivial, rfl⟩
theorem lives_N : Gv (fun n => f_law42_lives n [] H) (.bool true) H := law42_lives_ext ⟨_, _, ⟨rfl, rfl⟩, 0, fun n _ => rfl⟩
theorem raw_chk {s : Bool} {l q : List Nat} : chk (some (rawL s l q)) (rawL s l q) = some () := by unfold rawL; rw [chk_aggb]; simp [encN_beq, V.beq]
theorem cells_chk {p : Spt} : chk (some (.agg p.cells)) (.agg p.cells) = some () := by rw [chk_aggb, beqs_cells]; rfl
theorem spot_cut {p : Spt} {G : Heap} {K : Nat → Heap → Option R} {Q : V → Heap → Prop} (g : G.get 0 = .cells p.cells ty_api_Spot false) (h0 : G.n = 1)
    (h : Tot (fun n => K n (G.set 0 (.cells p.cut.cells ty_api_Spot false))) Q) :
    Tot (fun n => (bnd (faA 0 (.ptr (some (0, 0)))) fun t7_3 =>
 (bnd (ldN 3 t7_3 (G.more 0)) fun t8_4 =>
 (bnd (f_law42_short n [t8_4] (G.more 0)) fun r5 =>
 (bnd (faA 3 (.ptr (some (0, 0)))) fun t10_6 =>
 (bnd (ldN 3 t10_6 r5.2) fun t11_7 =>
 (bnd (chk (ldN 3 t10_6 (G.more 0)) t11_7) fun _ =>
 (bnd (f_law42_short n [t11_7] r5.2) fun r8 =>
 (bnd (flA [(0, 3), (3, 3)] [.bool false, .slice ⟨none, 0, 0, false⟩, .slice ⟨none, 0, 0, false⟩, .bool false, .slice ⟨none, 0, 0, false⟩, .slice ⟨none, 0, 0, false⟩] [(0, r5.1), (1, r8.1)]) fun t13_9 =>
 (bnd (stA 6 (.ptr (some (0, 0))) t13_9 r8.2) fun H10 => K n H10))))))))) ) Q := by
  simp only [more0]
  have l0 : ldN 3 (.ptr (some (0, 0))) G = some (rawL p.s p.l p.q) := by simp [ldN, g, Spt.cells, rawL]
  have l3 : ldN 3 (.ptr (some (0, 3))) G = some (rawL p.t p.m p.r) := by simp [ldN, g, Spt.cells, rawL]
  repeat (first | refine Tot.pure (by simp (disch := first | omega | (simp only [npz, nsz, nmz] <;> omega) | fail) [lhz, lgz, sgz, boxA, gz, gs, Heap.gqz, Heap.gpz, Heap.gtz, Heap.gsz, gmz, npz, nsz, nmz, l0]; try exact rfl) ?_ | refine Tot.chk (by simp (disch := first | omega | (simp only [npz, nsz, nmz] <;> omega) | fail) [lhz, lgz, sgz, boxA, gz, gs, Heap.gqz, Heap.gpz, Heap.gtz, Heap.gsz, gmz, npz, nsz, nmz, l0]; done) ?_ | fail)
  refine Gv.bind short_N ?_
  dsimp only
  repeat (first | refine Tot.pure (by simp (disch := first | omega | (simp only [npz, nsz, nmz] <;> omega) | fail) [lhz, lgz, sgz, boxA, gz, gs, Heap.gqz, Heap.gpz, Heap.gtz, Heap.gsz, gmz, npz, nsz, nmz, l3, raw_chk]; try exact rfl) ?_ | refine Tot.chk (by simp (disch := first | omega | (simp only [npz, nsz, nmz] <;> omega) | fail) [lhz, lgz, sgz, boxA, gz, gs, Heap.gqz, Heap.gpz, Heap.gtz, Heap.gsz, gmz, npz, nsz, nmz, l3, raw_chk]; done) ?_ | fail)
  refine Gv.bind short_N ?_
  have f1 : flA [(0, 3), (3, 3)] [.bool false, .slice ⟨none, 0, 0, false⟩, .slice ⟨none, 0, 0, false⟩, .bool false, .slice ⟨none, 0, 0, false⟩, .slice ⟨none, 0, 0, false⟩] [(0, rawL p.s (p.l.take 2) (p.q.take 1)), (1, rawL p.t (p.m.take 2) (p.r.take 1))] = some (.agg p.cut.cells) := by
    simp [flA, rawL, Spt.cut, Spt.cells, encN_one, bool_one, V.cells, lset]
  dsimp only
  refine Tot.pure f1 ?_
  have st : stA 6 (.ptr (some (0, 0))) (.agg p.cut.cells) G = some (G.set 0 (.cells p.cut.cells ty_api_Spot false)) := by
    simp [stA, g, V.cells, Spt.cells, Spt.cut, encN_one, bool_one, lset]
  refine Tot.pure st ?_
  exact h
end N
end Go.AM
end
section
set_option linter.unusedVariables false
set_option linter.unusedSimpArgs false
set_option linter.unusedSimpArgs false
set_option linter.unusedVariables false
set_option maxRecDepth 100000
namespace Go.AM
theorem momQ_B {L : List Spt} {c : Spt} (hL : ∀ p ∈ L, p.ok) (hc : c.ok) (hn : L.length ≤ 6) : Bq 12427 (momQ L c) := by
  unfold momQ
  split
  · exact Bq.zero.mono (by omega)
  · exact (momTo_B hL hc _ (Nat.le_refl _)).mono (by omega)
namespace N
variable {H : Heap}
theorem moments_N {L : List Spt} {p : Spt} (hL : ∀ p ∈ L, p.lim) (hp : p.lim) : Gv (fun n => f_law42_EnergyMoments n [rowS L, .agg p.cells] H) (.bool true) H := by
  refine law42_EnergyMoments_tot (all2 rowS_fro cells_fro) (fre2 rowS_free cells_free) ?_
  simp only [law42_EnergyMoments_b]
  have bx : boxA ty_api_Spot (.agg p.cells) = some (.cells p.cells ty_api_Spot false) := by simp [boxA, Spt.cells, V.cells, encN_one, bool_one]
  refine Tot.pure bx ?_
  refine Gv.bind few_N ?_
  dsimp only
  refine spot_cut (p := p) ?_ ?_ ?_
  · rfl
  · rfl
  have oL := cutL_ok hL
  have nL := cutL_len (L := L)
  have oc := hp.cut
  have l6 : ldN 6 (.ptr (some (0, 0))) ((E0.push (.cells p.cells ty_api_Spot false)).set 0 (.cells p.cut.cells ty_api_Spot false)) = some (.agg p.cut.cells) := rfl
  simp only [more0]
  refine Tot.pure l6 ?_
  refine Gv.bind (energy_Moment_N oL oc (by omega)) ?_
  refine Gv.bind (ref20_All_N oL (by omega)) ?_
  dsimp only
  refine Tot.pure l6 ?_
  refine Tot.pure (by rw [l6]; exact cells_chk) ?_
  refine Tot.pure (by rw [l6]; exact cells_chk) ?_
  refine Gv.bind (ref20_Of_N oc) ?_
  refine Gv.bind (ref42_Moment_N oL oc (by omega)) ?_
  refine Gv.bind (ref05_Same_N (momQ_B oL oc nL) (by decide)) ?_
  dsimp only
  repeat (first | refine Tot.autoP ?_ | refine Tot.autoC ?_ | fail)
  refine Gv.bind lives_N ?_
  exact Tot.ret (by simp [V.free])
theorem moments_all {t u : TypeId} (ht : isSpotsT P t = true) (hu : isSpotT P u = true) {H : Heap} {us : List V} (h : FTs P 8 [t, u] us) : Tot (fun n => f_law42_EnergyMoments n us H) fun v _ => v = .bool true := by
  obtain ⟨cs, us', rfl, w1, cs2, us2, rfl, w2, rfl⟩ := h
  obtain ⟨L, rfl, hL⟩ := FT.spots (k := 2) ht w1
  obtain ⟨p, rfl, hp⟩ := FT.spot (k := 3) hu w2
  rw [isSpotsT.one ht, isSpotT.agg hu]
  exact Tot.mono (moments_N hL hp) fun v _ h => h.2
end N
end Go.AM
end
section
set_option linter.unusedVariables false
set_option linter.unusedSimpArgs false
set_option linter.unusedSimpArgs false
set_option linter.unusedVariables false
set_option maxRecDepth 100000
namespace Go.AM
def ccD (x : Int) (d : Nat) : List V := [.int .i64 x.sign, natD x.natAbs, .int .i64 (d : Int).sign, natD d]
theorem ld_cc {H : Heap} {i e : Nat} {x : Int} {d : Nat} (h : H.get i = .cells (ccD x d) e false) : ldN 4 (.ptr (some (i, 0))) H = some (ratD x d) := by simp [ldN, h, ccD, ratD]
theorem st_cc {H : Heap} {i e : Nat} {x : Int} {d : Nat} {cs : List V} (h : H.get i = .cells cs e false) (hl : cs.length = 4) : stA 4 (.ptr (some (i, 0))) (ratD x d) H = some (H.set i (.cells (ccD x d) e false)) := by
  have io : ∀ {k : IntKind} {z : Int}, (V.int k z).one = true := rfl
  match cs, hl with
  | [a, b, c, d], _ => simp [stA, h, ratD, ccD, V.cells, io, lset]
theorem lx_spotD {H : Heap} {i e : Nat} {p q : Rat} (h : H.get i = .cells (cellsD p q) e false) : ldN 4 (.ptr (some (i, 0))) H = some (ratD p.num p.den) := by simp [ldN, h, cellsD, ratD]
theorem ly_spotD {H : Heap} {i e : Nat} {p q : Rat} (h : H.get i = .cells (cellsD p q) e false) : ldN 4 (.ptr (some (i, 4))) H = some (ratD q.num q.den) := by simp [ldN, h, cellsD, ratD]
theorem fd_x {p q : Rat} : fdN 4 0 (spotD p q) = some (ratD p.num p.den) := rfl
theorem fd_y {p q : Rat} : fdN 4 4 (spotD p q) = some (ratD q.num q.den) := rfl
theorem spotD_chk {p q : Rat} : chk (some (spotD p q)) (spotD p q) = some () := by simp [spotD, cellsD, V.beq]
namespace N
variable {H : Heap}
theorem r5_Of_Q {q : Rat} {k : Nat} (h : Bq k q) (hk : k < 1000000) : Dv (fun n => f_ref05_Of n [ratQ q] H) k q H := by
  have hd : q.den ≠ 0 := q.den_nz
  refine ref05_Of_ext (ext_tot (all1 ratW_fro) (by simp only [dR, ratQ, decR_ratW (szW_of h.1 hk) (szW_of h.2 hk), g_r5_Of, if_neg hd]) ⟨rfl, _, _, rfl, h.dq⟩)
theorem least_N {L : List Spt} {p : Spt} (hL : ∀ p ∈ L, p.lim) (hp : p.lim) : Gv (fun n => f_law42_EnergyLeast n [rowS L, .agg p.cells] H) (.bool true) H := by
  refine law42_EnergyLeast_tot (all2 rowS_fro cells_fro) (fre2 rowS_free cells_free) ?_
  simp only [law42_EnergyLeast_b]
  have bx : boxA ty_api_Spot (.agg p.cells) = some (.cells p.cells ty_api_Spot false) := by simp [boxA, Spt.cells, V.cells, encN_one, bool_one]
  refine Tot.pure bx ?_
  refine Gv.bind few_N ?_
  dsimp only
  refine spot_cut (p := p) ?_ ?_ ?_
  · rfl
  · rfl
  have oL := cutL_ok hL
  have nL := cutL_len (L := L)
  have oc := hp.cut
  generalize hC : cutL L = C at *
  generalize hc : p.cut = c at *
  obtain ⟨G, hG⟩ : ∃ G, G = (E0.push (.cells p.cells ty_api_Spot false)).set 0 (.cells c.cells ty_api_Spot false) := ⟨_, rfl⟩
  rw [← hG]
  have G0 : G.get 0 = .cells c.cells ty_api_Spot false := by rw [hG]; rfl
  have Gn : G.n = 1 := by rw [hG]; rfl
  clear hG bx
  simp only [more0]
  refine Gv.bind (ref20_All_N oL (by omega)) ?_
  refine Gv.bind (ref20_Centroid_N oL nL) ?_
  dsimp only
  by_cases h0 : area C = 0
  · simp only [cenV, if_pos h0]
    refine Tot.pure (show extA (.tuple [spotD 0 0, .bool false]) 0 = some (spotD 0 0) from rfl) ?_
    refine Tot.pure (show extA (.tuple [spotD 0 0, .bool false]) 1 = some (.bool false) from rfl) ?_
    refine Tot.pure (st_spotD (e := ty_ref09_Spot) (cs := zS) (by simp (disch := first | omega | (simp only [npz, nsz, nmz] <;> omega) | (simp <;> omega) | fail) [lhz, lgz, sgz, faA_mk, boxA_agg, Heap.gqz, Heap.gpz, Heap.gtz, Heap.gsz, gmz, npz, nsz, nmz, chk_agg, ]) rfl) ?_
    refine Tot.pure (show unA .not (.bool false) = some (.bool true) from rfl) ?_
    refine Tot.pure (show asB (.bool true) = some true from rfl) ?_
    simp only [if_true]
    refine Gv.bind lives_N ?_
    exact Tot.ret (by simp [V.free])
  · simp only [cenV, if_neg h0]
    refine Tot.pure (show extA (.tuple [spotD (cenX C) (cenY C), .bool true]) 0 = some (spotD (cenX C) (cenY C)) from rfl) ?_
    refine Tot.pure (show extA (.tuple [spotD (cenX C) (cenY C), .bool true]) 1 = some (.bool true) from rfl) ?_
    refine Tot.pure (st_spotD (e := ty_ref09_Spot) (cs := zS) (by simp (disch := first | omega | (simp only [npz, nsz, nmz] <;> omega) | (simp <;> omega) | fail) [lhz, lgz, sgz, faA_mk, boxA_agg, Heap.gqz, Heap.gpz, Heap.gtz, Heap.gsz, gmz, npz, nsz, nmz, chk_agg, ]) rfl) ?_
    refine Tot.pure (show unA .not (.bool true) = some (.bool false) from rfl) ?_
    refine Tot.pure (show asB (.bool false) = some false from rfl) ?_
    simp only [Bool.false_eq_true, if_false]
    have bA := area_B oL nL
    have bX : Bq 4930 (cenX C) := low_Bq (((fanX_B oL _ (Nat.le_refl _)).mono (m := 2857) (by omega)).dq.div bA.dq h0)
    have bY : Bq 4930 (cenY C) := low_Bq (((fanY_B oL _ (Nat.le_refl _)).mono (m := 2857) (by omega)).dq.div bA.dq h0)
    rw [Gn]
    obtain ⟨F, hF⟩ : ∃ F, F = ((G.push (.cells zS ty_ref09_Spot false)).set 1 (.cells (cellsD (cenX C) (cenY C)) ty_ref09_Spot false)).more 2 := ⟨_, rfl⟩
    have Fn : F.n = 4 := by rw [hF]; simp [Gn]
    have Fm : ((G.push (.cells zS ty_ref09_Spot false)).set 1 (.cells (cellsD (cenX C) (cenY C)) ty_ref09_Spot false)).n = 2 := by simp [Gn]
    rw [← hF, Fm]
    have F0 : F.get 0 = .cells c.cells ty_api_Spot false := by rw [hF]; simp (disch := first | omega | (simp only [npz, nsz, nmz] <;> omega) | (simp <;> omega) | fail) [lhz, lgz, sgz, faA_mk, boxA_agg, Heap.gqz, Heap.gpz, Heap.gtz, Heap.gsz, gmz, npz, nsz, nmz, chk_agg, G0]
    have F1 : F.get 1 = .cells (cellsD (cenX C) (cenY C)) ty_ref09_Spot false := by rw [hF]; simp (disch := first | omega | (simp only [npz, nsz, nmz] <;> omega) | (simp <;> omega) | fail) [lhz, lgz, sgz, faA_mk, boxA_agg, Heap.gqz, Heap.gpz, Heap.gtz, Heap.gsz, gmz, npz, nsz, nmz, chk_agg, ]
    clear hF Fm
    have l6 : ∀ {K : Heap}, K.get 0 = .cells c.cells ty_api_Spot false → ldN 6 (.ptr (some (0, 0))) K = some (.agg c.cells) := fun h => by simp [ldN, h, Spt.cells]
    have lx := lx_spotD F1
    have ly := ly_spotD F1
    refine Tot.pure (l6 F0) ?_
    refine Gv.bind (ref20_Of_N oc) ?_
    dsimp only
    refine Tot.pure fd_x ?_
    refine Tot.pure (show faA 0 (.ptr (some (1, 0))) = some (.ptr (some (1, 0))) from rfl) ?_
    refine Tot.pure lx ?_
    refine Tot.pure (by rw [lx]; exact chk_ratD) ?_
    refine Dv.bind (r5_Sub_N oc.bx.dq bX.dq (by omega) (by omega)) fun x1 d1 e1 => ?_
    dsimp only
    refine Tot.pure (l6 F0) ?_
    refine Tot.pure (by rw [l6 F0]; exact cells_chk) ?_
    refine Tot.pure (by rw [l6 F0]; exact cells_chk) ?_
    refine Gv.bind (ref20_Of_N oc) ?_
    dsimp only
    refine Tot.pure fd_y ?_
    refine Tot.pure (show faA 4 (.ptr (some (1, 0))) = some (.ptr (some (1, 4))) from rfl) ?_
    refine Tot.pure ly ?_
    refine Tot.pure (by rw [ly]; exact chk_ratD) ?_
    refine Tot.pure (by rw [ly]; exact chk_ratD) ?_
    refine Tot.pure (by rw [ly]; exact chk_ratD) ?_
    refine Dv.bind (r5_Sub_N oc.by_.dq bY.dq (by omega) (by omega)) fun x2 d2 e2 => ?_
    dsimp only
    refine Tot.pure (st_cc (e := ty_ref05_Rat) (cs := zD) (by simp (disch := first | omega | (simp only [npz, nsz, nmz] <;> omega) | (simp <;> omega) | fail) [lhz, lgz, sgz, faA_mk, boxA_agg, Heap.gqz, Heap.gpz, Heap.gtz, Heap.gsz, gmz, npz, nsz, nmz, chk_agg, ]) rfl) ?_
    refine Tot.pure (st_cc (e := ty_ref05_Rat) (cs := zD) (by simp (disch := first | omega | (simp only [npz, nsz, nmz] <;> omega) | (simp <;> omega) | fail) [lhz, lgz, sgz, faA_mk, boxA_agg, Heap.gqz, Heap.gpz, Heap.gtz, Heap.gsz, gmz, npz, nsz, nmz, chk_agg, ]) rfl) ?_
    obtain ⟨K, hK⟩ : ∃ K, K = ((((F.set (2 + 0) (.cells zD ty_ref05_Rat false)).set (2 + 1) (.cells zD ty_ref05_Rat false)).set (2 + 0) (.cells (ccD x1 d1) ty_ref05_Rat false)).set (2 + 1) (.cells (ccD x2 d2) ty_ref05_Rat false)).more 1 := ⟨_, rfl⟩
    have Km : ((((F.set (2 + 0) (.cells zD ty_ref05_Rat false)).set (2 + 1) (.cells zD ty_ref05_Rat false)).set (2 + 0) (.cells (ccD x1 d1) ty_ref05_Rat false)).set (2 + 1) (.cells (ccD x2 d2) ty_ref05_Rat false)).n = 4 := by simp [Fn]
    rw [← hK, Km]
    have K0 : K.get 0 = .cells c.cells ty_api_Spot false := by rw [hK]; simp (disch := first | omega | (simp only [npz, nsz, nmz] <;> omega) | (simp <;> omega) | fail) [lhz, lgz, sgz, faA_mk, boxA_agg, Heap.gqz, Heap.gpz, Heap.gtz, Heap.gsz, gmz, npz, nsz, nmz, chk_agg, F0]
    have K1 : K.get 1 = .cells (cellsD (cenX C) (cenY C)) ty_ref09_Spot false := by rw [hK]; simp (disch := first | omega | (simp only [npz, nsz, nmz] <;> omega) | (simp <;> omega) | fail) [lhz, lgz, sgz, faA_mk, boxA_agg, Heap.gqz, Heap.gpz, Heap.gtz, Heap.gsz, gmz, npz, nsz, nmz, chk_agg, F1]
    have K2 : K.get (2 + 0) = .cells (ccD x1 d1) ty_ref05_Rat false := by rw [hK]; simp (disch := first | omega | (simp only [npz, nsz, nmz] <;> omega) | (simp <;> omega) | fail) [lhz, lgz, sgz, faA_mk, boxA_agg, Heap.gqz, Heap.gpz, Heap.gtz, Heap.gsz, gmz, npz, nsz, nmz, chk_agg, ]
    have K3 : K.get (2 + 1) = .cells (ccD x2 d2) ty_ref05_Rat false := by rw [hK]; simp (disch := first | omega | (simp only [npz, nsz, nmz] <;> omega) | (simp <;> omega) | fail) [lhz, lgz, sgz, faA_mk, boxA_agg, Heap.gqz, Heap.gpz, Heap.gtz, Heap.gsz, gmz, npz, nsz, nmz, chk_agg, ]
    have Kn : K.n = 5 := by rw [hK]; simp [Fn]
    clear hK Km
    have l2 := ld_cc K2
    have l3 := ld_cc K3
    refine Gv.bind (r5_Long_N (by omega)) ?_
    refine Gv.bind (ref20_Area_N oL (by omega)) ?_
    have t6 : Dq 4 6 1 (6 : Rat) := ⟨by decide, by decide, by decide, rfl⟩
    refine Dv.bind (r5_Mul_N t6 bA.dq (by omega) (by omega)) fun x3 d3 e3 => ?_
    dsimp only
    refine Tot.pure l2 ?_
    refine Tot.pure (by rw [l2]; exact chk_ratD) ?_
    refine Tot.pure (by rw [l2]; exact chk_ratD) ?_
    refine Tot.pure (by rw [l2]; exact chk_ratD) ?_
    refine Tot.pure l2 ?_
    refine Tot.pure (by rw [l2]; exact chk_ratD) ?_
    refine Tot.pure (by rw [l2]; exact chk_ratD) ?_
    refine Tot.pure (by rw [l2]; exact chk_ratD) ?_
    refine Dv.bind (r5_Mul_N e1 e1 (by omega) (by omega)) fun x4 d4 e4 => ?_
    dsimp only
    refine Tot.pure l3 ?_
    refine Tot.pure (by rw [l3]; exact chk_ratD) ?_
    refine Tot.pure (by rw [l3]; exact chk_ratD) ?_
    refine Tot.pure (by rw [l3]; exact chk_ratD) ?_
    refine Tot.pure (by rw [l3]; exact chk_ratD) ?_
    refine Tot.pure l3 ?_
    refine Tot.pure (by rw [l3]; exact chk_ratD) ?_
    refine Tot.pure (by rw [l3]; exact chk_ratD) ?_
    refine Tot.pure (by rw [l3]; exact chk_ratD) ?_
    refine Tot.pure (by rw [l3]; exact chk_ratD) ?_
    refine Dv.bind (r5_Mul_N e2 e2 (by omega) (by omega)) fun x5 d5 e5 => ?_
    dsimp only
    refine Dv.bind (r5_Add_N e4 e5 (by omega) (by omega)) fun x6 d6 e6 => ?_
    refine Dv.bind (r5_Mul_N e3 e6 (by omega) (by omega)) fun x7 d7 e7 => ?_
    dsimp only
    refine Tot.pure (st_cc (e := ty_ref05_Rat) (cs := zD) (by simp (disch := first | omega | (simp only [npz, nsz, nmz] <;> omega) | (simp <;> omega) | fail) [lhz, lgz, sgz, faA_mk, boxA_agg, Heap.gqz, Heap.gpz, Heap.gtz, Heap.gsz, gmz, npz, nsz, nmz, chk_agg, ]) rfl) ?_
    obtain ⟨M, hM⟩ : ∃ M, M = (K.set (4 + 0) (.cells zD ty_ref05_Rat false)).set (4 + 0) (.cells (ccD x7 d7) ty_ref05_Rat false) := ⟨_, rfl⟩
    rw [← hM]
    have M0 : M.get 0 = .cells c.cells ty_api_Spot false := by rw [hM]; simp (disch := first | omega | (simp only [npz, nsz, nmz] <;> omega) | (simp <;> omega) | fail) [lhz, lgz, sgz, faA_mk, boxA_agg, Heap.gqz, Heap.gpz, Heap.gtz, Heap.gsz, gmz, npz, nsz, nmz, chk_agg, K0]
    have M1 : M.get 1 = .cells (cellsD (cenX C) (cenY C)) ty_ref09_Spot false := by rw [hM]; simp (disch := first | omega | (simp only [npz, nsz, nmz] <;> omega) | (simp <;> omega) | fail) [lhz, lgz, sgz, faA_mk, boxA_agg, Heap.gqz, Heap.gpz, Heap.gtz, Heap.gsz, gmz, npz, nsz, nmz, chk_agg, K1]
    have M4 : M.get (4 + 0) = .cells (ccD x7 d7) ty_ref05_Rat false := by rw [hM]; simp (disch := first | omega | (simp only [npz, nsz, nmz] <;> omega) | (simp <;> omega) | fail) [lhz, lgz, sgz, faA_mk, boxA_agg, Heap.gqz, Heap.gpz, Heap.gtz, Heap.gsz, gmz, npz, nsz, nmz, chk_agg, ]
    clear hM
    have l4 := ld_cc M4
    have l8 := ld_spotD M1
    refine Tot.pure (l6 M0) ?_
    refine Gv.bind (energy_Moment_N oL oc (by omega)) ?_
    have bM := momQ_B oL oc nL
    refine Dv.bind (r5_Of_Q bM (by decide)) fun x8 d8 e8 => ?_
    dsimp only
    refine Tot.pure l8 ?_
    refine Tot.pure (by rw [l8]; exact spotD_chk) ?_
    refine Tot.pure (by rw [l8]; exact spotD_chk) ?_
    refine Gv.bind (ref42_Moment_A oL bX bY (by decide) (by decide) (by omega)) ?_
    dsimp only
    refine Tot.pure l4 ?_
    refine Tot.pure (by rw [l4]; exact chk_ratD) ?_
    refine Tot.pure (by rw [l4]; exact chk_ratD) ?_
    refine Tot.pure (by rw [l4]; exact chk_ratD) ?_
    have bm : Bq 479600 (momA C (cenX C) (cenY C)) := by
      unfold momA
      split
      · exact Bq.zero.mono (by omega)
      · exact (momAt_B oL bX bY _ (Nat.le_refl _)).mono (by omega)
    refine Dv.bind (r5_Add_N bm.dq e7 (by omega) (by omega)) fun x9 d9 e9 => ?_
    have le := least (c := c) h0
    have e9' : Dq 600000 x9 d9 (momQ C c) := by rw [le]; exact e9.mono (by omega)
    dsimp only
    refine Gv.bind (r5_Cmp_N e8 e9' (by omega) (by omega)) ?_
    rw [cmp_eq e8 e9']
    dsimp only
    refine Tot.pure (show arA .eql (.int .i64 0) (.int .i64 0) = some (.bool true) from rfl) ?_
    refine Tot.pure (show asB (.bool true) = some true from rfl) ?_
    simp only [if_true]
    refine Gv.bind lives_N ?_
    exact Tot.ret (by simp [V.free])
theorem least_all {t u : TypeId} (ht : isSpotsT P t = true) (hu : isSpotT P u = true) {H : Heap} {us : List V} (h : FTs P 8 [t, u] us) : Tot (fun n => f_law42_EnergyLeast n us H) fun v _ => v = .bool true := by
  obtain ⟨cs, us', rfl, w1, cs2, us2, rfl, w2, rfl⟩ := h
  obtain ⟨L, rfl, hL⟩ := FT.spots (k := 2) ht w1
  obtain ⟨p, rfl, hp⟩ := FT.spot (k := 3) hu w2
  rw [isSpotsT.one ht, isSpotT.agg hu]
  exact Tot.mono (least_N hL hp) fun v _ h => h.2
end N
end Go.AM
end
section
set_option linter.unusedVariables false
set_option linter.unusedSimpArgs false
set_option linter.unusedSimpArgs false
set_option linter.unusedVariables false
set_option maxRecDepth 100000
namespace Go.AM
theorem kill_cells {ids : List Nat} {H : Heap} {i e : Nat} {cs : List V} {r : Bool} (h : H.get i = .cells cs e r) : ∃ r', (killL ids H).get i = .cells cs e r' := by
  rw [killL_get]
  split
  · exact ⟨true, by rw [h]; rfl⟩
  · exact ⟨r, h⟩
def sq0 : Spt := ⟨false, [], [1], false, [], [1]⟩
def sq (m : Nat) : List Spt := [sq0, ⟨false, [m], [1], false, [], [1]⟩, ⟨false, [m], [1], false, [m], [1]⟩, ⟨false, [], [1], false, [m], [1]⟩]
theorem raw1 {m : Nat} (h : m < 4294967296) : Raw [m] [1] := ⟨Lim.one.2 h, Lim.one.2 (by decide), by simp, by simp⟩
theorem raw0 : Raw [] [1] := ⟨fun x h => (by cases h), Lim.one.2 (by decide), by simp, by simp⟩
theorem sq0_ok : sq0.ok := ⟨raw0, raw0⟩
theorem sq_ok {m : Nat} (h : m < 4294967296) : ∀ p ∈ sq m, p.ok := by
  intro p hp
  simp only [sq, List.mem_cons, List.not_mem_nil, or_false] at hp
  rcases hp with rfl | rfl | rfl | rfl
  · exact sq0_ok
  · exact ⟨raw1 h, raw0⟩
  · exact ⟨raw1 h, raw1 h⟩
  · exact ⟨raw0, raw1 h⟩
theorem rawQ1 {m : Nat} : rawQ false [m] [1] = mkRat (m : Int) 1 := by unfold rawQ; rw [val_one, val_one]; rfl
theorem rawQ0 : rawQ false [] [1] = 0 := by unfold rawQ; rw [val_one]; exact Rat.zero_mkRat 1
theorem sq_mom {m : Nat} {c : Spt} : momQ (sq m) c = 2 * ((mkRat (m : Int) 1 * mkRat (m : Int) 1) * (mkRat (m : Int) 1 * mkRat (m : Int) 1)) + 12 * (mkRat (m : Int) 1 * mkRat (m : Int) 1) * ((c.x - mkRat (m : Int) 1 / 2) * (c.x - mkRat (m : Int) 1 / 2) + (c.y - mkRat (m : Int) 1 / 2) * (c.y - mkRat (m : Int) 1 / 2)) := by
  have e0x : ((sq m)[0]!).x = 0 := rawQ0
  have e0y : ((sq m)[0]!).y = 0 := rawQ0
  have e1x : ((sq m)[1]!).x = mkRat (m : Int) 1 := rawQ1
  have e1y : ((sq m)[1]!).y = 0 := rawQ0
  have e2x : ((sq m)[2]!).x = mkRat (m : Int) 1 := rawQ1
  have e2y : ((sq m)[2]!).y = mkRat (m : Int) 1 := rawQ1
  have e3x : ((sq m)[3]!).x = 0 := rawQ0
  have e3y : ((sq m)[3]!).y = mkRat (m : Int) 1 := rawQ1
  have hl : (sq m).length = 4 := rfl
  unfold momQ
  rw [if_neg (by rw [hl]; omega), hl]
  simp only [momTo, hl, show (0 + 1) % 4 = 1 from rfl, show (1 + 1) % 4 = 2 from rfl, show (2 + 1) % 4 = 3 from rfl, show (3 + 1) % 4 = 0 from rfl, show 0 + 1 = 1 from rfl, show 1 + 1 = 2 from rfl, show 2 + 1 = 3 from rfl, e0x, e0y, e1x, e1y, e2x, e2y, e3x, e3y]
  generalize mkRat (m : Int) 1 = K
  generalize c.x = X
  generalize c.y = Y
  unfold partQ
  grind
def sqC : List V := [.bool false, .slice ⟨none, 0, 0, false⟩, .slice ⟨some (3, 0), 1, 1, false⟩]
def sqS : List V := [.bool false, .slice ⟨some (1, 0), 1, 1, false⟩, .slice ⟨some (2, 0), 1, 1, false⟩]
theorem sq_fz {H : Heap} {m e : Nat} {r1 r2 r3 : Bool} (hn : 3 < H.n) (h1 : H.get 1 = .cells (nums .u32 [m]) e r1) (h2 : H.get 2 = .cells (nums .u32 [1]) e r2) (h3 : H.get 3 = .cells (nums .u32 [1]) e r3) :
    FzL H (sqC ++ (sqC ++ (sqS ++ (sqC ++ (sqS ++ (sqS ++ (sqC ++ sqS))))))) ((sq m).flatMap Spt.cells) := by
  have w1 : Row H .u32 ⟨some (1, 0), 1, 1, false⟩ [m] := lit_row (by omega) h1 rfl
  have w2 : Row H .u32 ⟨some (2, 0), 1, 1, false⟩ [1] := lit_row (by omega) h2 rfl
  have w3 : Row H .u32 ⟨some (3, 0), 1, 1, false⟩ [1] := lit_row (by omega) h3 rfl
  have w0 : Row H .u32 ⟨none, 0, 0, false⟩ [] := Row.nil
  have c : ∀ {vs us : List V}, FzL H vs us → FzL H (sqC ++ vs) ([.bool false, encN .u32 [], encN .u32 [1]] ++ us) := fun t => FzL.fro rfl (FzL.row w0 (FzL.row w3 t))
  have s : ∀ {vs us : List V}, FzL H vs us → FzL H (sqS ++ vs) ([.bool false, encN .u32 [m], encN .u32 [1]] ++ us) := fun t => FzL.fro rfl (FzL.row w1 (FzL.row w2 t))
  have z := c (c (s (c (s (s (c (s FzL.nil)))))))
  simpa [sq, sq0, Spt.cells, sqC, sqS] using z
theorem frz_sq {H : Heap} {m e e' : Nat} {r r1 r2 r3 : Bool} {w : V} (hw : w.fro = true) (hn : 3 < H.n) (h1 : H.get 1 = .cells (nums .u32 [m]) e r1) (h2 : H.get 2 = .cells (nums .u32 [1]) e r2) (h3 : H.get 3 = .cells (nums .u32 [1]) e r3)
    (h6 : H.get 6 = .cells (sqC ++ (sqC ++ (sqS ++ (sqC ++ (sqS ++ (sqS ++ (sqC ++ sqS))))))) e' r) : ∃ ids, frzAs [.slice ⟨some (6, 0), 4, 6, false⟩, w] H = some ([rowS (sq m), w], killL ids H) := by
  obtain ⟨ids, h⟩ := sq_fz hn h1 h2 h3
  refine ⟨6 :: ids, ?_⟩
  have f1 : frzV H 6 (.slice ⟨some (6, 0), 4, 6, false⟩) = some (rowS (sq m), 6 :: ids) := by
    unfold frzV
    simp only [h6]
    rw [if_neg (by decide), if_pos (by decide)]
    have : ((sqC ++ (sqC ++ (sqS ++ (sqC ++ (sqS ++ (sqS ++ (sqC ++ sqS))))))).drop 0).take (4 * 6) = sqC ++ (sqC ++ (sqS ++ (sqC ++ (sqS ++ (sqS ++ (sqC ++ sqS)))))) := rfl
    rw [this, h]
    rfl
  have f2 : frzV H 6 w = some (w, []) := frzV_fro (d := 4) hw
  unfold frzAs
  simp only [frzL, f1, f2, List.append_nil]
theorem frz_sq0 {H : Heap} {e : Nat} {r3 : Bool} {w : V} (hw : w.fro = true) (hn : 3 < H.n) (h3 : H.get 3 = .cells (nums .u32 [1]) e r3) : ∃ ids, frzAs [.agg (sqC ++ sqC), w] H = some ([.agg sq0.cells, w], killL ids H) := by
  have w3 : Row H .u32 ⟨some (3, 0), 1, 1, false⟩ [1] := lit_row (by omega) h3 rfl
  have w0 : Row H .u32 ⟨none, 0, 0, false⟩ [] := Row.nil
  obtain ⟨ids, h⟩ : FzL H (sqC ++ sqC) sq0.cells := FzL.fro rfl (FzL.row w0 (FzL.row w3 (FzL.fro rfl (FzL.row w0 (FzL.row w3 FzL.nil)))))
  refine ⟨ids, ?_⟩
  have f1 : frzV H 6 (.agg (sqC ++ sqC)) = some (.agg sq0.cells, ids) := by unfold frzV; simp only [h]
  have f2 : frzV H 6 w = some (w, []) := frzV_fro (d := 4) hw
  unfold frzAs
  simp only [frzL, f1, f2, List.append_nil]
theorem sq0_ratQ : rawL false [] [1] = ratQ 0 := by
  have e1 : natW 1 = encN .u32 [1] := natW_one'.symm
  have e0 : natW 0 = encN .u32 [] := by
    have : digK 4294967296 0 = [] := by decide
    unfold natW; rw [this]
  show V.agg [.bool false, encN .u32 [], encN .u32 [1]] = .agg [.bool (decide ((0 : Rat).num < 0)), natW (0 : Rat).num.natAbs, natW (0 : Rat).den]
  rw [show (0 : Rat).num.natAbs = 0 from rfl, show (0 : Rat).den = 1 from rfl, e0, e1]
  rfl
namespace N
variable {H : Heap}
theorem ref09_Same_0 : Gv (fun n => f_ref09_Same n [.agg sq0.cells, spotD 0 0] H) (.bool true) H := by
  refine ref09_Same_tot (all2 cells_fro spotD_fro) (fre2 cells_free spotD_free) ?_
  simp only [ref09_Same_b]
  have b1 : boxA ty_api_Spot (.agg sq0.cells) = some (.cells sq0.cells ty_api_Spot false) := by simp [boxA, Spt.cells, V.cells, encN_one, bool_one]
  have b2 : boxA ty_ref09_Spot (spotD 0 0) = some (.cells (cellsD 0 0) ty_ref09_Spot false) := by
    have io : ∀ {k : IntKind} {z : Int}, (V.int k z).one = true := rfl
    simp [boxA, spotD, cellsD, V.cells, natD_one, io]
  refine Tot.pure b1 ?_
  refine Tot.pure b2 ?_
  obtain ⟨G, hG⟩ : ∃ G, G = (E0.push (.cells sq0.cells ty_api_Spot false)).push (.cells (cellsD 0 0) ty_ref09_Spot false) := ⟨_, rfl⟩
  rw [← hG]
  have G0 : G.get 0 = .cells sq0.cells ty_api_Spot false := by rw [hG]; rfl
  have G1 : G.get 1 = .cells (cellsD 0 0) ty_ref09_Spot false := by rw [hG]; rfl
  have Gn : (E0.push (.cells sq0.cells ty_api_Spot false)).n = 1 := rfl
  clear hG
  rw [Gn]
  have l0 : ldN 3 (.ptr (some (0, 0))) G = some (ratQ 0) := by rw [← sq0_ratQ]; simp [ldN, G0, Spt.cells, sq0, rawL]
  have l3 : ldN 3 (.ptr (some (0, 3))) G = some (ratQ 0) := by rw [← sq0_ratQ]; simp [ldN, G0, Spt.cells, sq0, rawL]
  refine Tot.pure (show faA 0 (.ptr (some (0, 0))) = some (.ptr (some (0, 0))) from rfl) ?_
  refine Tot.pure l0 ?_
  refine Tot.pure (show faA 0 (.ptr (some (1, 0))) = some (.ptr (some (1, 0))) from rfl) ?_
  refine Tot.pure (lx_spotD G1) ?_
  refine Gv.bind (ref05_Same_N Bq.zero (by decide)) ?_
  dsimp only
  refine Tot.pure (show asB (.bool true) = some true from rfl) ?_
  simp only [if_true]
  refine Tot.pure (show faA 3 (.ptr (some (0, 0))) = some (.ptr (some (0, 3))) from rfl) ?_
  refine Tot.pure l3 ?_
  refine Tot.pure (show faA 4 (.ptr (some (1, 0))) = some (.ptr (some (1, 4))) from rfl) ?_
  refine Tot.pure (ly_spotD G1) ?_
  refine Gv.bind (ref05_Same_N Bq.zero (by decide)) ?_
  exact Tot.ret (by simp [V.free])
end N
end Go.AM
end
section
set_option linter.unusedVariables false
set_option linter.unusedSimpArgs false
set_option linter.unusedSimpArgs false
set_option linter.unusedVariables false
set_option maxRecDepth 100000
namespace Go.AM
theorem ld_cc' {H : Heap} {i e : Nat} {x : Int} {d : Nat} {r : Bool} (h : H.get i = .cells (ccD x d) e r) : ldN 4 (.ptr (some (i, 0))) H = some (ratD x d) := by simp [ldN, h, ccD, ratD]
theorem ldx_spt {H : Heap} {e : Nat} {p : Spt} {r : Bool} (h : H.get 0 = .cells p.cells e r) : ldN 3 (.ptr (some (0, 0))) H = some (rawL p.s p.l p.q) := by simp [ldN, h, Spt.cells, rawL]
theorem ldy_spt {H : Heap} {e : Nat} {p : Spt} {r : Bool} (h : H.get 0 = .cells p.cells e r) : ldN 3 (.ptr (some (0, 3))) H = some (rawL p.t p.m p.r) := by simp [ldN, h, Spt.cells, rawL]
theorem sl_one {s : Sl} : (V.slice s).one = true := rfl
abbrev zR : List V := [.bool false, .slice ⟨none, 0, 0, false⟩, .slice ⟨none, 0, 0, false⟩]
theorem ld_sq {H : Heap} {i e : Nat} {cs : List V} {r : Bool} (h : H.get i = .cells cs e r) (hl : cs.length = 3) : ldN 3 (.ptr (some (i, 0))) H = some (.agg cs) := by
  match cs, hl with
  | [a, b, c], _ => simp [ldN, h]
theorem st_sq {H : Heap} {i e : Nat} {cs zs : List V} (h : H.get i = .cells zs e false) (hl : zs.length = 3) (hc : cs = sqC ∨ cs = sqS) : stA 3 (.ptr (some (i, 0))) (.agg cs) H = some (H.set i (.cells cs e false)) := by
  match zs, hl with
  | [a, b, c], _ => rcases hc with rfl | rfl <;> simp [stA, h, sqC, sqS, V.cells, sl_one, bool_one, lset]
namespace N
variable {H : Heap}
theorem about_N {m : Nat} {p : Spt} (hm : m < 65536) (hp : p.lim) : Gv (fun n => f_law42_EnergyAbout n [.int .u16 (m : Int), .agg p.cells] H) (.bool true) H := by
  refine law42_EnergyAbout_tot (all2 rfl cells_fro) (fre2 rfl cells_free) ?_
  simp only [law42_EnergyAbout_b]
  have bx : boxA ty_api_Spot (.agg p.cells) = some (.cells p.cells ty_api_Spot false) := by simp [boxA, Spt.cells, V.cells, encN_one, bool_one]
  refine Tot.pure bx ?_
  refine spot_cut (p := p) ?_ ?_ ?_
  · rfl
  · rfl
  have oc := hp.cut
  generalize hc : p.cut = c at *
  obtain ⟨G, hG⟩ : ∃ G, G = (E0.push (.cells p.cells ty_api_Spot false)).set 0 (.cells c.cells ty_api_Spot false) := ⟨_, rfl⟩
  rw [← hG]
  have G0 : G.get 0 = .cells c.cells ty_api_Spot false := by rw [hG]; rfl
  have Gn : G.n = 1 := by rw [hG]; rfl
  have E0n : E0.n = 0 := rfl
  clear hG bx
  rw [Gn]
  have cv1 : cvInt .u32 (.int .u16 (m : Int)) = some (.int .u32 (m : Int)) := by simp (disch := omega) [cvInt]
  have ad1 : arA .add (.int .u32 (m : Int)) (.int .u32 1) = some (.int .u32 ((m + 1 : Nat) : Int)) := by simp (disch := omega) []
  have b1 : bSl 1 ty_uint32 [.int .u32 0] 1 [(0, .int .u32 ((m + 1 : Nat) : Int))] = some (.cells (nums .u32 [m + 1]) ty_uint32 false) := by simp [bSl, rowA, nums]
  have b2 : bSl 1 ty_uint32 [.int .u32 0] 1 [(0, .int .u32 1)] = some (.cells (nums .u32 [1]) ty_uint32 false) := by simp [bSl, rowA, nums]
  refine Tot.pure cv1 ?_
  refine Tot.pure ad1 ?_
  refine Tot.pure b1 ?_
  have f1 : flA [(0, 1), (1, 1)] [.bool false, .slice ⟨none, 0, 0, false⟩] [(1, .slice ⟨some (1, 0), 1, 1, false⟩)] = some (.agg [.bool false, .slice ⟨some (1, 0), 1, 1, false⟩]) := by
    simp [flA, sl_one, lset]
  refine Tot.pure f1 ?_
  refine Tot.pure b2 ?_
  obtain ⟨G2, hG2⟩ : ∃ G2, G2 = (G.push (.cells (nums .u32 [m + 1]) ty_uint32 false)).push (.cells (nums .u32 [1]) ty_uint32 false) := ⟨_, rfl⟩
  have en1 : (G.push (.cells (nums .u32 [m + 1]) ty_uint32 false)).n = 2 := by simp [Gn]
  rw [← hG2, en1]
  have f2 : flA [(0, 2), (2, 1)] [.bool false, .slice ⟨none, 0, 0, false⟩, .slice ⟨none, 0, 0, false⟩] [(0, .agg [.bool false, .slice ⟨some (1, 0), 1, 1, false⟩]), (1, .slice ⟨some (2, 0), 1, 1, false⟩)] = some (.agg sqS) := by
    simp [flA, sl_one, bool_one, lset, V.cells, sqS]
  refine Tot.pure f2 ?_
  refine Tot.pure b2 ?_
  have en2 : G2.n = 3 := by rw [hG2]; simp [Gn]
  rw [en2]
  have f3 : flA [(0, 2), (2, 1)] [.bool false, .slice ⟨none, 0, 0, false⟩, .slice ⟨none, 0, 0, false⟩] [(1, .slice ⟨some (3, 0), 1, 1, false⟩)] = some (.agg sqC) := by
    simp [flA, sl_one, bool_one, lset, V.cells, sqC]
  refine Tot.pure f3 ?_
  have g0 : G2.get 0 = .cells c.cells ty_api_Spot false := by rw [hG2]; simp (disch := first | omega | (simp only [npz, nsz, nmz] <;> omega) | (simp <;> omega) | fail) [lhz, lgz, sgz, faA_mk, boxA_agg, Heap.gqz, Heap.gpz, Heap.gtz, Heap.gsz, gmz, npz, nsz, nmz, chk_agg, G0]
  have g1 : G2.get 1 = .cells (nums .u32 [m + 1]) ty_uint32 false := by rw [hG2]; simp (disch := first | omega | (simp only [npz, nsz, nmz] <;> omega) | (simp <;> omega) | fail) [lhz, lgz, sgz, faA_mk, boxA_agg, Heap.gqz, Heap.gpz, Heap.gtz, Heap.gsz, gmz, npz, nsz, nmz, chk_agg, ]
  have g2 : G2.get 2 = .cells (nums .u32 [1]) ty_uint32 false := by rw [hG2]; simp (disch := first | omega | (simp only [npz, nsz, nmz] <;> omega) | (simp <;> omega) | fail) [lhz, lgz, sgz, faA_mk, boxA_agg, Heap.gqz, Heap.gpz, Heap.gtz, Heap.gsz, gmz, npz, nsz, nmz, chk_agg, ]
  clear hG2 f1 b1 b2 f2 f3 G0 Gn
  have en3 : (G2.push (.cells (nums .u32 [1]) ty_uint32 false)).n = 4 := by simp [en2]
  have en4 : ((G2.push (.cells (nums .u32 [1]) ty_uint32 false)).push (.cells zR ty_api_Rat false)).n = 5 := by simp [en2]
  rw [en3, en4]
  have s1 := st_sq (cs := sqS) (H := ((G2.push (.cells (nums .u32 [1]) ty_uint32 false)).push (.cells zR ty_api_Rat false)).push (.cells zR ty_api_Rat false)) (i := 4) (e := ty_api_Rat) (zs := zR) (by simp (disch := first | omega | (simp only [npz, nsz, nmz] <;> omega) | (simp <;> omega) | fail) [lhz, lgz, sgz, faA_mk, boxA_agg, Heap.gqz, Heap.gpz, Heap.gtz, Heap.gsz, gmz, npz, nsz, nmz, chk_agg, en2]) rfl (.inr rfl)
  refine Tot.pure s1 ?_
  have s2 := st_sq (cs := sqC) (H := (((G2.push (.cells (nums .u32 [1]) ty_uint32 false)).push (.cells zR ty_api_Rat false)).push (.cells zR ty_api_Rat false)).set 4 (.cells sqS ty_api_Rat false)) (i := 5) (e := ty_api_Rat) (zs := zR) (by simp (disch := first | omega | (simp only [npz, nsz, nmz] <;> omega) | (simp <;> omega) | fail) [lhz, lgz, sgz, faA_mk, boxA_agg, Heap.gqz, Heap.gpz, Heap.gtz, Heap.gsz, gmz, npz, nsz, nmz, chk_agg, en2]) rfl (.inl rfl)
  refine Tot.pure s2 ?_
  clear s1 s2
  obtain ⟨F, hF⟩ : ∃ F, F = ((((G2.push (.cells (nums .u32 [1]) ty_uint32 false)).push (.cells zR ty_api_Rat false)).push (.cells zR ty_api_Rat false)).set 4 (.cells sqS ty_api_Rat false)).set 5 (.cells sqC ty_api_Rat false) := ⟨_, rfl⟩
  rw [← hF]
  have F0 : F.get 0 = .cells c.cells ty_api_Spot false := by rw [hF]; simp (disch := first | omega | (simp only [npz, nsz, nmz] <;> omega) | (simp <;> omega) | fail) [lhz, lgz, sgz, faA_mk, boxA_agg, Heap.gqz, Heap.gpz, Heap.gtz, Heap.gsz, gmz, npz, nsz, nmz, chk_agg, g0]
  have F1 : F.get 1 = .cells (nums .u32 [m + 1]) ty_uint32 false := by rw [hF]; simp (disch := first | omega | (simp only [npz, nsz, nmz] <;> omega) | (simp <;> omega) | fail) [lhz, lgz, sgz, faA_mk, boxA_agg, Heap.gqz, Heap.gpz, Heap.gtz, Heap.gsz, gmz, npz, nsz, nmz, chk_agg, g1]
  have F2 : F.get 2 = .cells (nums .u32 [1]) ty_uint32 false := by rw [hF]; simp (disch := first | omega | (simp only [npz, nsz, nmz] <;> omega) | (simp <;> omega) | fail) [lhz, lgz, sgz, faA_mk, boxA_agg, Heap.gqz, Heap.gpz, Heap.gtz, Heap.gsz, gmz, npz, nsz, nmz, chk_agg, g2]
  have F3 : F.get 3 = .cells (nums .u32 [1]) ty_uint32 false := by rw [hF]; simp (disch := first | omega | (simp only [npz, nsz, nmz] <;> omega) | (simp <;> omega) | fail) [lhz, lgz, sgz, faA_mk, boxA_agg, Heap.gqz, Heap.gpz, Heap.gtz, Heap.gsz, gmz, npz, nsz, nmz, chk_agg, en2]
  have F4 : F.get 4 = .cells sqS ty_api_Rat false := by rw [hF]; simp (disch := first | omega | (simp only [npz, nsz, nmz] <;> omega) | (simp <;> omega) | fail) [lhz, lgz, sgz, faA_mk, boxA_agg, Heap.gqz, Heap.gpz, Heap.gtz, Heap.gsz, gmz, npz, nsz, nmz, chk_agg, ]
  have F5 : F.get 5 = .cells sqC ty_api_Rat false := by rw [hF]; simp (disch := first | omega | (simp only [npz, nsz, nmz] <;> omega) | (simp <;> omega) | fail) [lhz, lgz, sgz, faA_mk, boxA_agg, Heap.gqz, Heap.gpz, Heap.gtz, Heap.gsz, gmz, npz, nsz, nmz, chk_agg, ]
  have Fn : F.n = 6 := by rw [hF]; simp [en2]
  clear hF g0 g1 g2 en1 en2 en3 en4
  have l4 := ld_sq F4 rfl
  have l5 := ld_sq F5 rfl
  have fl : ∀ (a b : List V), (a = sqC ∨ a = sqS) → (b = sqC ∨ b = sqS) → flA [(0, 3), (3, 3)] [.bool false, .slice ⟨none, 0, 0, false⟩, .slice ⟨none, 0, 0, false⟩, .bool false, .slice ⟨none, 0, 0, false⟩, .slice ⟨none, 0, 0, false⟩] [(0, .agg a), (1, .agg b)] = some (.agg (a ++ b)) := by
    intro a b ha hb
    rcases ha with rfl | rfl <;> rcases hb with rfl | rfl <;> simp [flA, sl_one, bool_one, lset, V.cells, sqC, sqS]
  refine Tot.pure l5 ?_
  refine Tot.pure l5 ?_
  refine Tot.pure (fl _ _ (.inl rfl) (.inl rfl)) ?_
  refine Tot.pure l4 ?_
  refine Tot.pure l5 ?_
  refine Tot.pure (fl _ _ (.inr rfl) (.inl rfl)) ?_
  refine Tot.pure l4 ?_
  refine Tot.pure l4 ?_
  refine Tot.pure (fl _ _ (.inr rfl) (.inr rfl)) ?_
  refine Tot.pure l5 ?_
  refine Tot.pure l4 ?_
  refine Tot.pure (fl _ _ (.inl rfl) (.inr rfl)) ?_
  have b6 : bSl 6 ty_api_Spot [.bool false, .slice ⟨none, 0, 0, false⟩, .slice ⟨none, 0, 0, false⟩, .bool false, .slice ⟨none, 0, 0, false⟩, .slice ⟨none, 0, 0, false⟩] 4 [(0, .agg (sqC ++ sqC)), (1, .agg (sqS ++ sqC)), (2, .agg (sqS ++ sqS)), (3, .agg (sqC ++ sqS))] = some (.cells (sqC ++ (sqC ++ (sqS ++ (sqC ++ (sqS ++ (sqS ++ (sqC ++ sqS))))))) ty_api_Spot false) := by
    simp [bSl, rowA, sl_one, bool_one, sqC, sqS]
  refine Tot.pure b6 ?_
  have cv2 : cvInt .i64 (.int .u16 (m : Int)) = some (.int .i64 (m : Int)) := by simp (disch := omega) [cvInt]
  have ad2 : arA .add (.int .i64 (m : Int)) (.int .i64 1) = some (.int .i64 ((m + 1 : Nat) : Int)) := by simp (disch := omega) []
  refine Tot.pure cv2 ?_
  refine Tot.pure ad2 ?_
  refine Gv.bind (r5_Long_N (by omega)) ?_
  dsimp only
  obtain ⟨K, hK⟩ : ∃ K, K = F.push (.cells (sqC ++ (sqC ++ (sqS ++ (sqC ++ (sqS ++ (sqS ++ (sqC ++ sqS))))))) ty_api_Spot false) := ⟨_, rfl⟩
  rw [← hK]
  have K0 : K.get 0 = .cells c.cells ty_api_Spot false := by rw [hK]; simp (disch := first | omega | (simp only [npz, nsz, nmz] <;> omega) | (simp <;> omega) | fail) [lhz, lgz, sgz, faA_mk, boxA_agg, Heap.gqz, Heap.gpz, Heap.gtz, Heap.gsz, gmz, npz, nsz, nmz, chk_agg, F0]
  have K1 : K.get 1 = .cells (nums .u32 [m + 1]) ty_uint32 false := by rw [hK]; simp (disch := first | omega | (simp only [npz, nsz, nmz] <;> omega) | (simp <;> omega) | fail) [lhz, lgz, sgz, faA_mk, boxA_agg, Heap.gqz, Heap.gpz, Heap.gtz, Heap.gsz, gmz, npz, nsz, nmz, chk_agg, F1]
  have K2 : K.get 2 = .cells (nums .u32 [1]) ty_uint32 false := by rw [hK]; simp (disch := first | omega | (simp only [npz, nsz, nmz] <;> omega) | (simp <;> omega) | fail) [lhz, lgz, sgz, faA_mk, boxA_agg, Heap.gqz, Heap.gpz, Heap.gtz, Heap.gsz, gmz, npz, nsz, nmz, chk_agg, F2]
  have K3 : K.get 3 = .cells (nums .u32 [1]) ty_uint32 false := by rw [hK]; simp (disch := first | omega | (simp only [npz, nsz, nmz] <;> omega) | (simp <;> omega) | fail) [lhz, lgz, sgz, faA_mk, boxA_agg, Heap.gqz, Heap.gpz, Heap.gtz, Heap.gsz, gmz, npz, nsz, nmz, chk_agg, F3]
  have K6 : K.get 6 = .cells (sqC ++ (sqC ++ (sqS ++ (sqC ++ (sqS ++ (sqS ++ (sqC ++ sqS))))))) ty_api_Spot false := by rw [hK, ← Fn]; exact Heap.gpz rfl
  have Kn : K.n = 7 := by rw [hK]; simp [Fn]
  clear hK F0 F1 F2 F3 F4 F5 l4 l5 b6 fl cv1 cv2 ad1 ad2
  rw [Kn, Fn]
  refine Tot.pure (st_cc (e := ty_ref05_Rat) (cs := zD) (by rw [← Kn]; exact Heap.gpz rfl) rfl) ?_
  have en1 : ((K.push (.cells zD ty_ref05_Rat false)).set 7 (.cells (ccD ((m + 1 : Nat) : Int) 1) ty_ref05_Rat false)).n = 8 := by simp [Kn]
  rw [en1]
  obtain ⟨M, hM⟩ : ∃ M, M = ((K.push (.cells zD ty_ref05_Rat false)).set 7 (.cells (ccD ((m + 1 : Nat) : Int) 1) ty_ref05_Rat false)).more 1 := ⟨_, rfl⟩
  rw [← hM]
  have M0 : M.get 0 = .cells c.cells ty_api_Spot false := by rw [hM]; simp (disch := first | omega | (simp only [npz, nsz, nmz] <;> omega) | (simp <;> omega) | fail) [lhz, lgz, sgz, faA_mk, boxA_agg, Heap.gqz, Heap.gpz, Heap.gtz, Heap.gsz, gmz, npz, nsz, nmz, chk_agg, K0]
  have M1 : M.get 1 = .cells (nums .u32 [m + 1]) ty_uint32 false := by rw [hM]; simp (disch := first | omega | (simp only [npz, nsz, nmz] <;> omega) | (simp <;> omega) | fail) [lhz, lgz, sgz, faA_mk, boxA_agg, Heap.gqz, Heap.gpz, Heap.gtz, Heap.gsz, gmz, npz, nsz, nmz, chk_agg, K1]
  have M2 : M.get 2 = .cells (nums .u32 [1]) ty_uint32 false := by rw [hM]; simp (disch := first | omega | (simp only [npz, nsz, nmz] <;> omega) | (simp <;> omega) | fail) [lhz, lgz, sgz, faA_mk, boxA_agg, Heap.gqz, Heap.gpz, Heap.gtz, Heap.gsz, gmz, npz, nsz, nmz, chk_agg, K2]
  have M3 : M.get 3 = .cells (nums .u32 [1]) ty_uint32 false := by rw [hM]; simp (disch := first | omega | (simp only [npz, nsz, nmz] <;> omega) | (simp <;> omega) | fail) [lhz, lgz, sgz, faA_mk, boxA_agg, Heap.gqz, Heap.gpz, Heap.gtz, Heap.gsz, gmz, npz, nsz, nmz, chk_agg, K3]
  have M6 : M.get 6 = .cells (sqC ++ (sqC ++ (sqS ++ (sqC ++ (sqS ++ (sqS ++ (sqC ++ sqS))))))) ty_api_Spot false := by rw [hM]; simp (disch := first | omega | (simp only [npz, nsz, nmz] <;> omega) | (simp <;> omega) | fail) [lhz, lgz, sgz, faA_mk, boxA_agg, Heap.gqz, Heap.gpz, Heap.gtz, Heap.gsz, gmz, npz, nsz, nmz, chk_agg, K6]
  have M7 : M.get 7 = .cells (ccD ((m + 1 : Nat) : Int) 1) ty_ref05_Rat false := by rw [hM]; simp (disch := first | omega | (simp only [npz, nsz, nmz] <;> omega) | (simp <;> omega) | fail) [lhz, lgz, sgz, faA_mk, boxA_agg, Heap.gqz, Heap.gpz, Heap.gtz, Heap.gsz, gmz, npz, nsz, nmz, chk_agg, ]
  have Mn : M.n = 9 := by rw [hM]; simp [Kn]
  clear hM K0 K1 K2 K3 K6 en1
  have t2 : Dq 4 2 1 (2 : Rat) := ⟨by decide, by decide, by decide, rfl⟩
  have t12 : Dq 8 12 1 (12 : Rat) := ⟨by decide, by decide, by decide, rfl⟩
  have e17 : (2 : Nat) ^ 17 = 131072 := by decide
  have tK : Dq 17 ((m + 1 : Nat) : Int) 1 (mkRat ((m + 1 : Nat) : Int) 1) := ⟨by decide, by rw [e17]; omega, by decide, rfl⟩
  have l7 := ld_cc M7
  refine Gv.bind (r5_Long_N (by omega)) ?_
  dsimp only
  refine Tot.pure l7 ?_
  refine Tot.pure (by rw [l7]; exact chk_ratD) ?_
  refine Dv.bind (r5_Div_N tK t2 (by omega) (by decide)) fun x1 d1 e1 => ?_
  dsimp only
  refine Tot.pure (st_cc (e := ty_ref05_Rat) (cs := zD) (by simp (disch := first | omega | (simp only [npz, nsz, nmz] <;> omega) | (simp <;> omega) | fail) [lhz, lgz, sgz, faA_mk, boxA_agg, Heap.gqz, Heap.gpz, Heap.gtz, Heap.gsz, gmz, npz, nsz, nmz, chk_agg, ]) rfl) ?_
  have en2 : ((M.set (8 + 0) (.cells zD ty_ref05_Rat false)).set (8 + 0) (.cells (ccD x1 d1) ty_ref05_Rat false)).n = 9 := by simp [Mn]
  rw [en2]
  obtain ⟨S, hS⟩ : ∃ S, S = ((M.set (8 + 0) (.cells zD ty_ref05_Rat false)).set (8 + 0) (.cells (ccD x1 d1) ty_ref05_Rat false)).more 2 := ⟨_, rfl⟩
  rw [← hS]
  have S0 : S.get 0 = .cells c.cells ty_api_Spot false := by rw [hS]; simp (disch := first | omega | (simp only [npz, nsz, nmz] <;> omega) | (simp <;> omega) | fail) [lhz, lgz, sgz, faA_mk, boxA_agg, Heap.gqz, Heap.gpz, Heap.gtz, Heap.gsz, gmz, npz, nsz, nmz, chk_agg, M0]
  have S1 : S.get 1 = .cells (nums .u32 [m + 1]) ty_uint32 false := by rw [hS]; simp (disch := first | omega | (simp only [npz, nsz, nmz] <;> omega) | (simp <;> omega) | fail) [lhz, lgz, sgz, faA_mk, boxA_agg, Heap.gqz, Heap.gpz, Heap.gtz, Heap.gsz, gmz, npz, nsz, nmz, chk_agg, M1]
  have S2 : S.get 2 = .cells (nums .u32 [1]) ty_uint32 false := by rw [hS]; simp (disch := first | omega | (simp only [npz, nsz, nmz] <;> omega) | (simp <;> omega) | fail) [lhz, lgz, sgz, faA_mk, boxA_agg, Heap.gqz, Heap.gpz, Heap.gtz, Heap.gsz, gmz, npz, nsz, nmz, chk_agg, M2]
  have S3 : S.get 3 = .cells (nums .u32 [1]) ty_uint32 false := by rw [hS]; simp (disch := first | omega | (simp only [npz, nsz, nmz] <;> omega) | (simp <;> omega) | fail) [lhz, lgz, sgz, faA_mk, boxA_agg, Heap.gqz, Heap.gpz, Heap.gtz, Heap.gsz, gmz, npz, nsz, nmz, chk_agg, M3]
  have S6 : S.get 6 = .cells (sqC ++ (sqC ++ (sqS ++ (sqC ++ (sqS ++ (sqS ++ (sqC ++ sqS))))))) ty_api_Spot false := by rw [hS]; simp (disch := first | omega | (simp only [npz, nsz, nmz] <;> omega) | (simp <;> omega) | fail) [lhz, lgz, sgz, faA_mk, boxA_agg, Heap.gqz, Heap.gpz, Heap.gtz, Heap.gsz, gmz, npz, nsz, nmz, chk_agg, M6]
  have S7 : S.get 7 = .cells (ccD ((m + 1 : Nat) : Int) 1) ty_ref05_Rat false := by rw [hS]; simp (disch := first | omega | (simp only [npz, nsz, nmz] <;> omega) | (simp <;> omega) | fail) [lhz, lgz, sgz, faA_mk, boxA_agg, Heap.gqz, Heap.gpz, Heap.gtz, Heap.gsz, gmz, npz, nsz, nmz, chk_agg, M7]
  have S8 : S.get (8 + 0) = .cells (ccD x1 d1) ty_ref05_Rat false := by rw [hS]; simp (disch := first | omega | (simp only [npz, nsz, nmz] <;> omega) | (simp <;> omega) | fail) [lhz, lgz, sgz, faA_mk, boxA_agg, Heap.gqz, Heap.gpz, Heap.gtz, Heap.gsz, gmz, npz, nsz, nmz, chk_agg, ]
  have Sn : S.n = 11 := by rw [hS]; simp [Mn]
  clear hS M0 M1 M2 M3 M6 M7 l7 en2
  have lx := ldx_spt S0
  have ly := ldy_spt S0
  have l8 := ld_cc S8
  refine Tot.pure (show faA 0 (.ptr (some (0, 0))) = some (.ptr (some (0, 0))) from rfl) ?_
  refine Tot.pure lx ?_
  refine Dv.bind (r5_Of_raw oc.x) fun x2 d2 e2 => ?_
  dsimp only
  refine Tot.pure l8 ?_
  refine Tot.pure (by rw [l8]; exact chk_ratD) ?_
  refine Dv.bind (r5_Sub_N e2 e1 (by omega) (by omega)) fun x3 d3 e3 => ?_
  dsimp only
  refine Tot.pure (show faA 3 (.ptr (some (0, 0))) = some (.ptr (some (0, 3))) from rfl) ?_
  refine Tot.pure ly ?_
  refine Tot.pure (by rw [ly]; exact raw_chk) ?_
  refine Tot.pure (by rw [ly]; exact raw_chk) ?_
  refine Dv.bind (r5_Of_raw oc.y) fun x4 d4 e4 => ?_
  dsimp only
  refine Tot.pure l8 ?_
  refine Tot.pure (by rw [l8]; exact chk_ratD) ?_
  refine Tot.pure (by rw [l8]; exact chk_ratD) ?_
  refine Tot.pure (by rw [l8]; exact chk_ratD) ?_
  refine Dv.bind (r5_Sub_N e4 e1 (by omega) (by omega)) fun x5 d5 e5 => ?_
  dsimp only
  refine Tot.pure (st_cc (e := ty_ref05_Rat) (cs := zD) (by simp (disch := first | omega | (simp only [npz, nsz, nmz] <;> omega) | (simp <;> omega) | fail) [lhz, lgz, sgz, faA_mk, boxA_agg, Heap.gqz, Heap.gpz, Heap.gtz, Heap.gsz, gmz, npz, nsz, nmz, chk_agg, ]) rfl) ?_
  refine Tot.pure (st_cc (e := ty_ref05_Rat) (cs := zD) (by simp (disch := first | omega | (simp only [npz, nsz, nmz] <;> omega) | (simp <;> omega) | fail) [lhz, lgz, sgz, faA_mk, boxA_agg, Heap.gqz, Heap.gpz, Heap.gtz, Heap.gsz, gmz, npz, nsz, nmz, chk_agg, ]) rfl) ?_
  have en3 : ((((S.set (9 + 0) (.cells zD ty_ref05_Rat false)).set (9 + 1) (.cells zD ty_ref05_Rat false)).set (9 + 0) (.cells (ccD x3 d3) ty_ref05_Rat false)).set (9 + 1) (.cells (ccD x5 d5) ty_ref05_Rat false)).n = 11 := by simp [Sn]
  rw [en3]
  obtain ⟨T, hT⟩ : ∃ T, T = ((((S.set (9 + 0) (.cells zD ty_ref05_Rat false)).set (9 + 1) (.cells zD ty_ref05_Rat false)).set (9 + 0) (.cells (ccD x3 d3) ty_ref05_Rat false)).set (9 + 1) (.cells (ccD x5 d5) ty_ref05_Rat false)).more 1 := ⟨_, rfl⟩
  rw [← hT]
  have T0 : T.get 0 = .cells c.cells ty_api_Spot false := by rw [hT]; simp (disch := first | omega | (simp only [npz, nsz, nmz] <;> omega) | (simp <;> omega) | fail) [lhz, lgz, sgz, faA_mk, boxA_agg, Heap.gqz, Heap.gpz, Heap.gtz, Heap.gsz, gmz, npz, nsz, nmz, chk_agg, S0]
  have T1 : T.get 1 = .cells (nums .u32 [m + 1]) ty_uint32 false := by rw [hT]; simp (disch := first | omega | (simp only [npz, nsz, nmz] <;> omega) | (simp <;> omega) | fail) [lhz, lgz, sgz, faA_mk, boxA_agg, Heap.gqz, Heap.gpz, Heap.gtz, Heap.gsz, gmz, npz, nsz, nmz, chk_agg, S1]
  have T2 : T.get 2 = .cells (nums .u32 [1]) ty_uint32 false := by rw [hT]; simp (disch := first | omega | (simp only [npz, nsz, nmz] <;> omega) | (simp <;> omega) | fail) [lhz, lgz, sgz, faA_mk, boxA_agg, Heap.gqz, Heap.gpz, Heap.gtz, Heap.gsz, gmz, npz, nsz, nmz, chk_agg, S2]
  have T3 : T.get 3 = .cells (nums .u32 [1]) ty_uint32 false := by rw [hT]; simp (disch := first | omega | (simp only [npz, nsz, nmz] <;> omega) | (simp <;> omega) | fail) [lhz, lgz, sgz, faA_mk, boxA_agg, Heap.gqz, Heap.gpz, Heap.gtz, Heap.gsz, gmz, npz, nsz, nmz, chk_agg, S3]
  have T6 : T.get 6 = .cells (sqC ++ (sqC ++ (sqS ++ (sqC ++ (sqS ++ (sqS ++ (sqC ++ sqS))))))) ty_api_Spot false := by rw [hT]; simp (disch := first | omega | (simp only [npz, nsz, nmz] <;> omega) | (simp <;> omega) | fail) [lhz, lgz, sgz, faA_mk, boxA_agg, Heap.gqz, Heap.gpz, Heap.gtz, Heap.gsz, gmz, npz, nsz, nmz, chk_agg, S6]
  have T7 : T.get 7 = .cells (ccD ((m + 1 : Nat) : Int) 1) ty_ref05_Rat false := by rw [hT]; simp (disch := first | omega | (simp only [npz, nsz, nmz] <;> omega) | (simp <;> omega) | fail) [lhz, lgz, sgz, faA_mk, boxA_agg, Heap.gqz, Heap.gpz, Heap.gtz, Heap.gsz, gmz, npz, nsz, nmz, chk_agg, S7]
  have T9 : T.get (9 + 0) = .cells (ccD x3 d3) ty_ref05_Rat false := by rw [hT]; simp (disch := first | omega | (simp only [npz, nsz, nmz] <;> omega) | (simp <;> omega) | fail) [lhz, lgz, sgz, faA_mk, boxA_agg, Heap.gqz, Heap.gpz, Heap.gtz, Heap.gsz, gmz, npz, nsz, nmz, chk_agg, ]
  have T10 : T.get (9 + 1) = .cells (ccD x5 d5) ty_ref05_Rat false := by rw [hT]; simp (disch := first | omega | (simp only [npz, nsz, nmz] <;> omega) | (simp <;> omega) | fail) [lhz, lgz, sgz, faA_mk, boxA_agg, Heap.gqz, Heap.gpz, Heap.gtz, Heap.gsz, gmz, npz, nsz, nmz, chk_agg, ]
  have Tn : T.n = 12 := by rw [hT]; simp [Sn]
  clear hT S0 S1 S2 S3 S6 S7 S8 l8 lx ly en3
  have l7 := ld_cc T7
  have l9 := ld_cc T9
  have l10 := ld_cc T10
  refine Gv.bind (r5_Long_N (by omega)) ?_
  dsimp only
  refine Tot.pure l7 ?_
  refine Tot.pure (by rw [l7]; exact chk_ratD) ?_
  refine Tot.pure l7 ?_
  refine Tot.pure (by rw [l7]; exact chk_ratD) ?_
  refine Dv.bind (r5_Mul_N tK tK (by omega) (by omega)) fun x6 d6 e6 => ?_
  dsimp only
  refine Tot.pure l7 ?_
  refine Tot.pure (by rw [l7]; exact chk_ratD) ?_
  refine Tot.pure (by rw [l7]; exact chk_ratD) ?_
  refine Tot.pure l7 ?_
  refine Tot.pure (by rw [l7]; exact chk_ratD) ?_
  refine Tot.pure (by rw [l7]; exact chk_ratD) ?_
  refine Dv.bind (r5_Mul_N tK tK (by omega) (by omega)) fun x7 d7 e7 => ?_
  dsimp only
  refine Dv.bind (r5_Mul_N e6 e7 (by omega) (by omega)) fun x8 d8 e8 => ?_
  refine Dv.bind (r5_Mul_N t2 e8 (by omega) (by omega)) fun x9 d9 e9 => ?_
  refine Gv.bind (r5_Long_N (by omega)) ?_
  dsimp only
  refine Tot.pure l7 ?_
  iterate 6 refine Tot.pure (by rw [l7]; exact chk_ratD) ?_
  refine Tot.pure l7 ?_
  iterate 6 refine Tot.pure (by rw [l7]; exact chk_ratD) ?_
  refine Dv.bind (r5_Mul_N tK tK (by omega) (by omega)) fun x10 d10 e10 => ?_
  refine Dv.bind (r5_Mul_N t12 e10 (by omega) (by omega)) fun x11 d11 e11 => ?_
  dsimp only
  refine Tot.pure l9 ?_
  iterate 8 refine Tot.pure (by rw [l9]; exact chk_ratD) ?_
  refine Tot.pure l9 ?_
  iterate 8 refine Tot.pure (by rw [l9]; exact chk_ratD) ?_
  refine Dv.bind (r5_Mul_N e3 e3 (by omega) (by omega)) fun x12 d12 e12 => ?_
  dsimp only
  refine Tot.pure l10 ?_
  iterate 9 refine Tot.pure (by rw [l10]; exact chk_ratD) ?_
  refine Tot.pure l10 ?_
  iterate 9 refine Tot.pure (by rw [l10]; exact chk_ratD) ?_
  refine Dv.bind (r5_Mul_N e5 e5 (by omega) (by omega)) fun x13 d13 e13 => ?_
  dsimp only
  refine Dv.bind (r5_Add_N e12 e13 (by omega) (by omega)) fun x14 d14 e14 => ?_
  refine Dv.bind (r5_Mul_N e11 e14 (by omega) (by omega)) fun x15 d15 e15 => ?_
  refine Dv.bind (r5_Add_N e9 e15 (by omega) (by omega)) fun x16 d16 e16 => ?_
  dsimp only
  refine Tot.pure (st_cc (e := ty_ref05_Rat) (cs := zD) (by simp (disch := first | omega | (simp only [npz, nsz, nmz] <;> omega) | (simp <;> omega) | fail) [lhz, lgz, sgz, faA_mk, boxA_agg, Heap.gqz, Heap.gpz, Heap.gtz, Heap.gsz, gmz, npz, nsz, nmz, chk_agg, ]) rfl) ?_
  obtain ⟨U, hU⟩ : ∃ U, U = (T.set (11 + 0) (.cells zD ty_ref05_Rat false)).set (11 + 0) (.cells (ccD x16 d16) ty_ref05_Rat false) := ⟨_, rfl⟩
  rw [← hU]
  simp only [more0]
  have U0 : U.get 0 = .cells c.cells ty_api_Spot false := by rw [hU]; simp (disch := first | omega | (simp only [npz, nsz, nmz] <;> omega) | (simp <;> omega) | fail) [lhz, lgz, sgz, faA_mk, boxA_agg, Heap.gqz, Heap.gpz, Heap.gtz, Heap.gsz, gmz, npz, nsz, nmz, chk_agg, T0]
  have U1 : U.get 1 = .cells (nums .u32 [m + 1]) ty_uint32 false := by rw [hU]; simp (disch := first | omega | (simp only [npz, nsz, nmz] <;> omega) | (simp <;> omega) | fail) [lhz, lgz, sgz, faA_mk, boxA_agg, Heap.gqz, Heap.gpz, Heap.gtz, Heap.gsz, gmz, npz, nsz, nmz, chk_agg, T1]
  have U2 : U.get 2 = .cells (nums .u32 [1]) ty_uint32 false := by rw [hU]; simp (disch := first | omega | (simp only [npz, nsz, nmz] <;> omega) | (simp <;> omega) | fail) [lhz, lgz, sgz, faA_mk, boxA_agg, Heap.gqz, Heap.gpz, Heap.gtz, Heap.gsz, gmz, npz, nsz, nmz, chk_agg, T2]
  have U3 : U.get 3 = .cells (nums .u32 [1]) ty_uint32 false := by rw [hU]; simp (disch := first | omega | (simp only [npz, nsz, nmz] <;> omega) | (simp <;> omega) | fail) [lhz, lgz, sgz, faA_mk, boxA_agg, Heap.gqz, Heap.gpz, Heap.gtz, Heap.gsz, gmz, npz, nsz, nmz, chk_agg, T3]
  have U6 : U.get 6 = .cells (sqC ++ (sqC ++ (sqS ++ (sqC ++ (sqS ++ (sqS ++ (sqC ++ sqS))))))) ty_api_Spot false := by rw [hU]; simp (disch := first | omega | (simp only [npz, nsz, nmz] <;> omega) | (simp <;> omega) | fail) [lhz, lgz, sgz, faA_mk, boxA_agg, Heap.gqz, Heap.gpz, Heap.gtz, Heap.gsz, gmz, npz, nsz, nmz, chk_agg, T6]
  have U11 : U.get (11 + 0) = .cells (ccD x16 d16) ty_ref05_Rat false := by rw [hU]; simp (disch := first | omega | (simp only [npz, nsz, nmz] <;> omega) | (simp <;> omega) | fail) [lhz, lgz, sgz, faA_mk, boxA_agg, Heap.gqz, Heap.gpz, Heap.gtz, Heap.gsz, gmz, npz, nsz, nmz, chk_agg, ]
  have Un : U.n = 12 := by rw [hU]; simp [Tn]
  clear hU T0 T1 T2 T3 T6 T7 T9 T10 l7 l9 l10
  have l6 : ldN 6 (.ptr (some (0, 0))) U = some (.agg c.cells) := by simp [ldN, U0, Spt.cells]
  refine Tot.pure l6 ?_
  obtain ⟨ids, fz⟩ := frz_sq (w := .agg c.cells) cells_fro (by omega) U1 U2 U3 U6
  have oq := sq_ok (m := m + 1) (by omega)
  refine Gv.pbind energy_Moment_in fz (all2 rowS_fro cells_fro) (energy_Moment_N oq oc (by simp [sq])) ?_
  obtain ⟨r11, V11⟩ := kill_cells (ids := ids) U11
  obtain ⟨r3, V3⟩ := kill_cells (ids := ids) U3
  obtain ⟨r6, V6⟩ := kill_cells (ids := ids) U6
  have Vn : 3 < (killL ids U).n := by rw [killL_n]; omega
  generalize killL ids U = W at *
  have bM : Bq 12427 (momQ (sq (m + 1)) c) := momQ_B oq oc (by simp [sq])
  refine Dv.bind (r5_Of_Q bM (by decide)) fun x17 d17 e17 => ?_
  dsimp only
  have l11 := ld_cc' V11
  have l11' := ld_cc U11
  refine Tot.pure l11 ?_
  refine Tot.pure (by rw [l11]; exact chk_ratD) ?_
  refine Tot.pure (by rw [l11']; exact chk_ratD) ?_
  have e16' : Dq 2000 x16 d16 (momQ (sq (m + 1)) c) := by rw [sq_mom]; exact e16.mono (by omega)
  refine Gv.bind (r5_Cmp_N e17 e16' (by omega) (by omega)) ?_
  rw [cmp_eq e17 e16']
  dsimp only
  refine Tot.pure (show arA .eql (.int .i64 0) (.int .i64 0) = some (.bool true) from rfl) ?_
  refine Tot.pure (show asB (.bool true) = some true from rfl) ?_
  simp only [if_true]
  refine Gv.bind nought_N ?_
  dsimp only
  refine Tot.pure (show idxS 6 (.slice ⟨some (6, 0), 4, 6, false⟩) (.int .i64 0) = some (.ptr (some (6, 0))) from rfl) ?_
  have ls : ldN 6 (.ptr (some (6, 0))) W = some (.agg (sqC ++ sqC)) := by simp [ldN, V6, sqC, sqS]
  refine Tot.pure ls ?_
  refine Tot.pure (by rw [ls]; rfl) ?_
  obtain ⟨ids2, fz2⟩ := frz_sq0 (w := spotD 0 0) spotD_fro Vn V3
  refine Gv.pbind ref09_Same_in fz2 (all2 cells_fro spotD_fro) ref09_Same_0 ?_
  dsimp only
  refine Tot.pure (show asB (.bool true) = some true from rfl) ?_
  simp only [if_true]
  refine Gv.bind lives_N ?_
  exact Tot.ret (by simp [V.free])
theorem about_all {t u : TypeId} (ht : isIntKT P .u16 t = true) (hu : isSpotT P u = true) {H : Heap} {us : List V} (h : FTs P 8 [t, u] us) : Tot (fun n => f_law42_EnergyAbout n us H) fun v _ => v = .bool true := by
  obtain ⟨cs, us', rfl, w1, cs2, us2, rfl, w2, rfl⟩ := h
  obtain ⟨z, rfl, w⟩ := FT.int (k := 7) ht w1
  obtain ⟨p, rfl, hp⟩ := FT.spot (k := 3) hu w2
  have w' : 0 ≤ z ∧ z < 65536 := by
    simp only [Lit.wf, Bool.and_eq_true, decide_eq_true_eq] at w
    have a1 : IntKind.u16.min = 0 := by decide
    have a2 : IntKind.u16.max = 65535 := by decide
    omega
  obtain ⟨m, rfl⟩ : ∃ m : Nat, z = (m : Int) := ⟨z.toNat, by omega⟩
  rw [isIntKT.one ht, isSpotT.agg hu]
  exact Tot.mono (about_N (by omega) hp) fun v _ h => h.2
end N
end Go.AM
end
section
set_option linter.unusedVariables false
set_option linter.unusedSimpArgs false
namespace Go.AM.L
abbrev ty_int : Nat := 3
abbrev ty_bool : Nat := 4
abbrev ty_api_Int : Nat := 26
abbrev ty_api_Rat : Nat := 28
abbrev ty_api_Spot : Nat := 30
abbrev ty_ref04_Int : Nat := 38
abbrev ty_ref05_Rat : Nat := 40
abbrev ty_uint32 : Nat := 57
@[simp] theorem eqlA_ty_bool (a b : Bool) : eqlA P ty_bool (.bool a) (.bool b) = some (.bool (a == b)) := by kernel_rfl
def tabList : List (Nat × List (Nat × List Nat)) := [(13, []),
 (28, [(5, [0, 3, 4, 5, 13, 14])]),
 (30, []),
 (31, [(3, [0, 5, 6])]),
 (32, []),
 (46, []),
 (47, []),
 (48, []),
 (49, []),
 (50, [(3, [0, 1, 2, 3, 9, 15, 16, 17])]),
 (51, []),
 (52, []),
 (53, [(3, [0, 3, 5, 6, 7]), (7, [0, 3, 5, 6, 7]), (8, [3, 5, 6])]),
 (54, [(4, [0, 3, 4, 5]), (8, [0, 3, 4, 5, 6, 7]), (11, [0, 3, 4, 5, 6])]),
 (55, []),
 (66, []),
 (68, []),
 (70, [(3, [2, 3, 7, 8, 9])]),
 (71, [(7, [0, 2, 14, 44, 45, 46]), (11, [0, 2, 14, 16, 17, 44, 45, 46, 51, 52]), (19, [0, 2, 14, 17, 44, 45, 46])]),
 (72, [(3, [0, 1, 5, 6]), (7, [0, 1, 5, 6, 7, 8])]),
 (73, [(3, [0, 3, 4])]),
 (74, [(3, [0, 3, 5, 6, 7]), (10, [0, 3, 5, 6, 7]), (11, [3, 5, 6])]),
 (75, [(3, [1, 2, 3, 4])]),
 (77, []),
 (81, []),
 (83, []),
 (85, []),
 (86, []),
 (87, []),
 (88, []),
 (89, [(5, [7, 8, 9, 10, 11, 12])]),
 (90, [(2, [2, 3, 5]), (6, [2, 3, 5, 6, 7, 8])]),
 (91, [(3, [1, 2, 4, 5, 6])]),
 (94, [(1, [0])]),
 (98, []),
 (99, []),
 (101, [(4, [1, 6, 7, 22, 23, 24]), (7, [1, 6, 7, 9, 22, 23, 24, 28]), (18, [6, 7]), (23, [6, 7, 15, 16, 17]), (29, [7, 15, 16])]),
 (102, [(2, [0, 1, 7, 8])]),
 (103, []),
 (104, []),
 (105, []),
 (106, []),
 (107, []),
 (108, []),
 (109, []),
 (110, [(3, [0, 1, 2, 7, 8]), (6, [0, 1, 2, 7, 8, 9]), (9, [0, 1, 2, 7, 8, 9, 10])]),
 (111, [(3, [1, 2, 5, 6])]),
 (112, [(3, [2, 3, 4, 7, 8])]),
 (113, []),
 (115, [(3, [0, 1]), (6, [1, 5, 6, 20, 21, 22]), (11, [1, 5, 6, 20, 21, 22]), (14, [5, 6])]),
 (116, []),
 (117, []),
 (118, [(3, [1, 2, 4, 5, 8])]),
 (119, [(2, [0, 3, 7, 8])]),
 (120, [(3, [0, 1, 4]), (5, [0, 1, 4, 5, 6])]),
 (121, []),
 (122, []),
 (123, []),
 (124, []),
 (125, []),
 (126, [(4, [1, 2, 3]), (6, [2, 3, 4, 13, 14]), (10, [2, 3, 4])]),
 (127, []),
 (128, [(2, [5, 6, 7])]),
 (129, []),
 (130, []),
 (131, []),
 (132, []),
 (134, []),
 (135, []),
 (136, []),
 (137, []),
 (138, [(7, [0, 1, 5])]),
 (141, [(4, [1, 5, 6, 13, 14, 15]), (9, [1, 5, 9, 13, 14, 15])]),
 (142, []),
 (143, [(2, [2, 3, 7])]),
 (144, []),
 (145, []),
 (146, []),
 (147, []),
 (148, []),
 (149, []),
 (150, []),
 (151, [(4, [0, 1, 4, 5, 6])]),
 (152, []),
 (154, []),
 (155, []),
 (156, []),
 (157, [(5, [1, 4, 5]), (8, [1, 4])]),
 (158, []),
 (159, [(4, [0, 1, 5])]),
 (160, []),
 (161, []),
 (162, []),
 (163, []),
 (164, []),
 (165, []),
 (171, [(3, [3, 6, 7, 8])]),
 (172, []),
 (173, []),
 (174, []),
 (175, [(3, [2, 3, 4, 5, 7])]),
 (176, []),
 (177, []),
 (178, []),
 (180, []),
 (181, []),
 (182, []),
 (184, []),
 (185, [])]
def tabs (f : FuncId) : Option (List (Nat × List Nat)) := tabList.lookup f
noncomputable def extList : List (Nat × (List V → Heap → Option R)) := [((15 : Nat), (extF (dKK g_r5_Sub) : List V → Heap → Option R)),
 ((16 : Nat), (extF (dKK g_r5_Mul) : List V → Heap → Option R)),
 ((17 : Nat), (extF (dZ g_r5_Long) : List V → Heap → Option R)),
 ((19 : Nat), (extF (dKK g_r5_Add) : List V → Heap → Option R)),
 ((20 : Nat), (extF (dKK g_r5_Cmp) : List V → Heap → Option R)),
 ((21 : Nat), (extF (dR g_r5_Of) : List V → Heap → Option R)),
 ((25 : Nat), (extF (dK g_r5_Low) : List V → Heap → Option R)),
 ((35 : Nat), (extF (dK g_r5_Neg) : List V → Heap → Option R)),
 ((36 : Nat), (extF (dJJ g_r4_Mul) : List V → Heap → Option R)),
 ((37 : Nat), (extF (dZ g_r4_Long) : List V → Heap → Option R)),
 ((38 : Nat), (extF (dJJ g_r4_Add) : List V → Heap → Option R)),
 ((39 : Nat), (extF (dJJ g_r4_Cmp) : List V → Heap → Option R)),
 ((41 : Nat), (extF (dQ g_r4_Long) : List V → Heap → Option R)),
 ((56 : Nat), (extF (dJ g_r4_Neg) : List V → Heap → Option R)),
 ((62 : Nat), (extF (dJJ g_r4_Sub) : List V → Heap → Option R)),
 ((65 : Nat), (extF (dZ g_whole_Of) : List V → Heap → Option R)),
 ((67 : Nat), (extF (dR g_rat_norm) : List V → Heap → Option R)),
 ((69 : Nat), (extF (dRR g_rat_Mul) : List V → Heap → Option R)),
 ((76 : Nat), (extF (dD g_r3_Show) : List V → Heap → Option R)),
 ((79 : Nat), (extF (dQN g_rat_norm) : List V → Heap → Option R)),
 ((80 : Nat), (extF (dII g_whole_Add) : List V → Heap → Option R)),
 ((82 : Nat), (extF (dNN g_nat_Mul) : List V → Heap → Option R)),
 ((84 : Nat), (extF (dII g_whole_Mul) : List V → Heap → Option R)),
 ((92 : Nat), (extF (dN g_nat_Trim) : List V → Heap → Option R)),
 ((95 : Nat), (extF (dQ g_whole_Norm) : List V → Heap → Option R)),
 ((100 : Nat), (extF (dI g_whole_Neg) : List V → Heap → Option R)),
 ((133 : Nat), (extF (dII g_rat_Make) : List V → Heap → Option R)),
 ((153 : Nat), (extF (dI g_whole_Sign) : List V → Heap → Option R)),
 ((186 : Nat), (extSub64 : List V → Heap → Option R)),
 ((187 : Nat), (extAdd64 : List V → Heap → Option R))]
noncomputable def ext (f : FuncId) : Option (List V → Heap → Option R) := extList.lookup f
def faL : List Nat := [50, 51]
def frL : List Nat := [28, 30, 31, 46, 47, 48, 49, 52, 53, 54, 66, 68, 70, 71, 72, 73, 74, 77, 81, 83, 85, 88, 89, 94, 98, 99, 101, 106, 109, 110, 115, 116, 117, 126, 132, 141, 158, 162, 180]
def puL : List Nat := [13, 28, 30, 31, 32, 46, 47, 48, 49, 52, 53, 55, 66, 68, 70, 71, 72, 74, 75, 77, 81, 83, 85, 86, 87, 88, 89, 90, 91, 94, 98, 99, 101, 104, 105, 106, 107, 108, 109, 110, 111, 112, 113, 115, 116, 117, 118, 121, 122, 123, 124, 125, 126, 127, 128, 129, 130, 131, 132, 134, 135, 136, 137, 138, 141, 142, 143, 144, 145, 146, 147, 148, 149, 150, 151, 152, 154, 155, 156, 157, 158, 159, 160, 161, 162, 163, 164, 165, 173, 174, 175, 176, 178, 180, 181, 182, 185]
def pu (f : FuncId) : Bool := puL.contains f
def fa (f : FuncId) : Bool := faL.contains f
def fr (f : FuncId) : Bool := frL.contains f
noncomputable def C : Cfg := { P, tabs, ext, fa, fr, pu }
abbrev i_law42_lives : Nat := 13
abbrev i_ref05_Sub : Nat := 15
abbrev i_ref05_Mul : Nat := 16
abbrev i_ref05_Long : Nat := 17
abbrev i_ref05_Add : Nat := 19
abbrev i_ref05_Cmp : Nat := 20
abbrev i_ref05_Of : Nat := 21
abbrev i_ref05_Low : Nat := 25
abbrev i_energy_moment : Nat := 28
abbrev i_ref05_Neg : Nat := 35
abbrev i_ref04_Mul : Nat := 36
abbrev i_ref04_Long : Nat := 37
abbrev i_ref04_Add : Nat := 38
abbrev i_ref04_Cmp : Nat := 39
abbrev i_ref04_Of : Nat := 41
abbrev i_rat_Of : Nat := 46
abbrev i_rat_Add : Nat := 47
abbrev i_energy_part : Nat := 48
abbrev i_energy_seen : Nat := 49
abbrev i_ref04_Neg : Nat := 56
abbrev i_ref04_Sub : Nat := 62
abbrev i_whole_Of : Nat := 65
abbrev i_rat_add : Nat := 66
abbrev i_rat_norm : Nat := 67
abbrev i_rat_Sub : Nat := 68
abbrev i_rat_Mul : Nat := 69
abbrev i_energy_sum : Nat := 70
abbrev i_ref03_Show : Nat := 76
abbrev i_whole_norm : Nat := 77
abbrev i_rat_lowest : Nat := 79
abbrev i_whole_Add : Nat := 80
abbrev i_rat_cross : Nat := 81
abbrev i_nat_Mul : Nat := 82
abbrev i_rat_neg : Nat := 83
abbrev i_whole_Mul : Nat := 84
abbrev i_nat_Trim : Nat := 92
abbrev i_nat_trim : Nat := 94
abbrev i_whole_Norm : Nat := 95
abbrev i_whole_add : Nat := 98
abbrev i_rat_plain : Nat := 99
abbrev i_whole_Neg : Nat := 100
abbrev i_nat_Add : Nat := 115
abbrev i_nat_Sub : Nat := 116
abbrev i_whole_neg : Nat := 117
abbrev i_rat_Make : Nat := 133
abbrev i_nat_cmp : Nat := 138
abbrev i_nat_sub : Nat := 141
abbrev i_whole_Sign : Nat := 153
abbrev i_math_bits_Sub64 : Nat := 186
abbrev i_math_bits_Add64 : Nat := 187
@[irreducible] noncomputable def f_law42_lives (n : Nat) (args : List V) (H : Heap) : Option R := callA C n 13 args H
@[irreducible] noncomputable def f_ref05_Sub (n : Nat) (args : List V) (H : Heap) : Option R := callA C n 15 args H
@[irreducible] noncomputable def f_ref05_Mul (n : Nat) (args : List V) (H : Heap) : Option R := callA C n 16 args H
@[irreducible] noncomputable def f_ref05_Long (n : Nat) (args : List V) (H : Heap) : Option R := callA C n 17 args H
@[irreducible] noncomputable def f_ref05_Add (n : Nat) (args : List V) (H : Heap) : Option R := callA C n 19 args H
@[irreducible] noncomputable def f_ref05_Cmp (n : Nat) (args : List V) (H : Heap) : Option R := callA C n 20 args H
@[irreducible] noncomputable def f_ref05_Of (n : Nat) (args : List V) (H : Heap) : Option R := callA C n 21 args H
@[irreducible] noncomputable def f_ref05_Low (n : Nat) (args : List V) (H : Heap) : Option R := callA C n 25 args H
@[irreducible] noncomputable def f_energy_moment (n : Nat) (args : List V) (H : Heap) : Option R := callA C n 28 args H
@[irreducible] noncomputable def f_ref05_Neg (n : Nat) (args : List V) (H : Heap) : Option R := callA C n 35 args H
@[irreducible] noncomputable def f_ref04_Mul (n : Nat) (args : List V) (H : Heap) : Option R := callA C n 36 args H
@[irreducible] noncomputable def f_ref04_Long (n : Nat) (args : List V) (H : Heap) : Option R := callA C n 37 args H
@[irreducible] noncomputable def f_ref04_Add (n : Nat) (args : List V) (H : Heap) : Option R := callA C n 38 args H
@[irreducible] noncomputable def f_ref04_Cmp (n : Nat) (args : List V) (H : Heap) : Option R := callA C n 39 args H
@[irreducible] noncomputable def f_ref04_Of (n : Nat) (args : List V) (H : Heap) : Option R := callA C n 41 args H
@[irreducible] noncomputable def f_rat_Of (n : Nat) (args : List V) (H : Heap) : Option R := callA C n 46 args H
@[irreducible] noncomputable def f_rat_Add (n : Nat) (args : List V) (H : Heap) : Option R := callA C n 47 args H
@[irreducible] noncomputable def f_energy_part (n : Nat) (args : List V) (H : Heap) : Option R := callA C n 48 args H
@[irreducible] noncomputable def f_energy_seen (n : Nat) (args : List V) (H : Heap) : Option R := callA C n 49 args H
@[irreducible] noncomputable def f_ref04_Neg (n : Nat) (args : List V) (H : Heap) : Option R := callA C n 56 args H
@[irreducible] noncomputable def f_ref04_Sub (n : Nat) (args : List V) (H : Heap) : Option R := callA C n 62 args H
@[irreducible] noncomputable def f_whole_Of (n : Nat) (args : List V) (H : Heap) : Option R := callA C n 65 args H
@[irreducible] noncomputable def f_rat_add (n : Nat) (args : List V) (H : Heap) : Option R := callA C n 66 args H
@[irreducible] noncomputable def f_rat_norm (n : Nat) (args : List V) (H : Heap) : Option R := callA C n 67 args H
@[irreducible] noncomputable def f_rat_Sub (n : Nat) (args : List V) (H : Heap) : Option R := callA C n 68 args H
@[irreducible] noncomputable def f_rat_Mul (n : Nat) (args : List V) (H : Heap) : Option R := callA C n 69 args H
@[irreducible] noncomputable def f_energy_sum (n : Nat) (args : List V) (H : Heap) : Option R := callA C n 70 args H
@[irreducible] noncomputable def f_ref03_Show (n : Nat) (args : List V) (H : Heap) : Option R := callA C n 76 args H
@[irreducible] noncomputable def f_whole_norm (n : Nat) (args : List V) (H : Heap) : Option R := callA C n 77 args H
@[irreducible] noncomputable def f_rat_lowest (n : Nat) (args : List V) (H : Heap) : Option R := callA C n 79 args H
@[irreducible] noncomputable def f_whole_Add (n : Nat) (args : List V) (H : Heap) : Option R := callA C n 80 args H
@[irreducible] noncomputable def f_rat_cross (n : Nat) (args : List V) (H : Heap) : Option R := callA C n 81 args H
@[irreducible] noncomputable def f_nat_Mul (n : Nat) (args : List V) (H : Heap) : Option R := callA C n 82 args H
@[irreducible] noncomputable def f_rat_neg (n : Nat) (args : List V) (H : Heap) : Option R := callA C n 83 args H
@[irreducible] noncomputable def f_whole_Mul (n : Nat) (args : List V) (H : Heap) : Option R := callA C n 84 args H
@[irreducible] noncomputable def f_nat_Trim (n : Nat) (args : List V) (H : Heap) : Option R := callA C n 92 args H
@[irreducible] noncomputable def f_nat_trim (n : Nat) (args : List V) (H : Heap) : Option R := callA C n 94 args H
@[irreducible] noncomputable def f_whole_Norm (n : Nat) (args : List V) (H : Heap) : Option R := callA C n 95 args H
@[irreducible] noncomputable def f_whole_add (n : Nat) (args : List V) (H : Heap) : Option R := callA C n 98 args H
@[irreducible] noncomputable def f_rat_plain (n : Nat) (args : List V) (H : Heap) : Option R := callA C n 99 args H
@[irreducible] noncomputable def f_whole_Neg (n : Nat) (args : List V) (H : Heap) : Option R := callA C n 100 args H
@[irreducible] noncomputable def f_nat_Add (n : Nat) (args : List V) (H : Heap) : Option R := callA C n 115 args H
@[irreducible] noncomputable def f_nat_Sub (n : Nat) (args : List V) (H : Heap) : Option R := callA C n 116 args H
@[irreducible] noncomputable def f_whole_neg (n : Nat) (args : List V) (H : Heap) : Option R := callA C n 117 args H
@[irreducible] noncomputable def f_rat_Make (n : Nat) (args : List V) (H : Heap) : Option R := callA C n 133 args H
@[irreducible] noncomputable def f_nat_cmp (n : Nat) (args : List V) (H : Heap) : Option R := callA C n 138 args H
@[irreducible] noncomputable def f_nat_sub (n : Nat) (args : List V) (H : Heap) : Option R := callA C n 141 args H
@[irreducible] noncomputable def f_whole_Sign (n : Nat) (args : List V) (H : Heap) : Option R := callA C n 153 args H
@[irreducible] noncomputable def f_math_bits_Sub64 (n : Nat) (args : List V) (H : Heap) : Option R := callA C n 186 args H
@[irreducible] noncomputable def f_math_bits_Add64 (n : Nat) (args : List V) (H : Heap) : Option R := callA C n 187 args H
theorem ref05_Sub_ext {H : Heap} {args : List V} {Q : V → Heap → Prop} (h : Tot (fun _ => (extF (dKK g_r5_Sub) : List V → Heap → Option R) args H) Q) : Tot (fun n => f_ref05_Sub n args H) Q := Tot.fn (fun n => by unfold f_ref05_Sub; kernel_rfl) h
theorem ref05_Mul_ext {H : Heap} {args : List V} {Q : V → Heap → Prop} (h : Tot (fun _ => (extF (dKK g_r5_Mul) : List V → Heap → Option R) args H) Q) : Tot (fun n => f_ref05_Mul n args H) Q := Tot.fn (fun n => by unfold f_ref05_Mul; kernel_rfl) h
theorem ref05_Long_ext {H : Heap} {args : List V} {Q : V → Heap → Prop} (h : Tot (fun _ => (extF (dZ g_r5_Long) : List V → Heap → Option R) args H) Q) : Tot (fun n => f_ref05_Long n args H) Q := Tot.fn (fun n => by unfold f_ref05_Long; kernel_rfl) h
theorem ref05_Add_ext {H : Heap} {args : List V} {Q : V → Heap → Prop} (h : Tot (fun _ => (extF (dKK g_r5_Add) : List V → Heap → Option R) args H) Q) : Tot (fun n => f_ref05_Add n args H) Q := Tot.fn (fun n => by unfold f_ref05_Add; kernel_rfl) h
theorem ref05_Cmp_ext {H : Heap} {args : List V} {Q : V → Heap → Prop} (h : Tot (fun _ => (extF (dKK g_r5_Cmp) : List V → Heap → Option R) args H) Q) : Tot (fun n => f_ref05_Cmp n args H) Q := Tot.fn (fun n => by unfold f_ref05_Cmp; kernel_rfl) h
theorem ref05_Of_ext {H : Heap} {args : List V} {Q : V → Heap → Prop} (h : Tot (fun _ => (extF (dR g_r5_Of) : List V → Heap → Option R) args H) Q) : Tot (fun n => f_ref05_Of n args H) Q := Tot.fn (fun n => by unfold f_ref05_Of; kernel_rfl) h
theorem ref05_Low_ext {H : Heap} {args : List V} {Q : V → Heap → Prop} (h : Tot (fun _ => (extF (dK g_r5_Low) : List V → Heap → Option R) args H) Q) : Tot (fun n => f_ref05_Low n args H) Q := Tot.fn (fun n => by unfold f_ref05_Low; kernel_rfl) h
theorem ref05_Neg_ext {H : Heap} {args : List V} {Q : V → Heap → Prop} (h : Tot (fun _ => (extF (dK g_r5_Neg) : List V → Heap → Option R) args H) Q) : Tot (fun n => f_ref05_Neg n args H) Q := Tot.fn (fun n => by unfold f_ref05_Neg; kernel_rfl) h
theorem ref04_Mul_ext {H : Heap} {args : List V} {Q : V → Heap → Prop} (h : Tot (fun _ => (extF (dJJ g_r4_Mul) : List V → Heap → Option R) args H) Q) : Tot (fun n => f_ref04_Mul n args H) Q := Tot.fn (fun n => by unfold f_ref04_Mul; kernel_rfl) h
theorem ref04_Long_ext {H : Heap} {args : List V} {Q : V → Heap → Prop} (h : Tot (fun _ => (extF (dZ g_r4_Long) : List V → Heap → Option R) args H) Q) : Tot (fun n => f_ref04_Long n args H) Q := Tot.fn (fun n => by unfold f_ref04_Long; kernel_rfl) h
theorem ref04_Add_ext {H : Heap} {args : List V} {Q : V → Heap → Prop} (h : Tot (fun _ => (extF (dJJ g_r4_Add) : List V → Heap → Option R) args H) Q) : Tot (fun n => f_ref04_Add n args H) Q := Tot.fn (fun n => by unfold f_ref04_Add; kernel_rfl) h
theorem ref04_Cmp_ext {H : Heap} {args : List V} {Q : V → Heap → Prop} (h : Tot (fun _ => (extF (dJJ g_r4_Cmp) : List V → Heap → Option R) args H) Q) : Tot (fun n => f_ref04_Cmp n args H) Q := Tot.fn (fun n => by unfold f_ref04_Cmp; kernel_rfl) h
theorem ref04_Of_ext {H : Heap} {args : List V} {Q : V → Heap → Prop} (h : Tot (fun _ => (extF (dQ g_r4_Long) : List V → Heap → Option R) args H) Q) : Tot (fun n => f_ref04_Of n args H) Q := Tot.fn (fun n => by unfold f_ref04_Of; kernel_rfl) h
theorem ref04_Neg_ext {H : Heap} {args : List V} {Q : V → Heap → Prop} (h : Tot (fun _ => (extF (dJ g_r4_Neg) : List V → Heap → Option R) args H) Q) : Tot (fun n => f_ref04_Neg n args H) Q := Tot.fn (fun n => by unfold f_ref04_Neg; kernel_rfl) h
theorem ref04_Sub_ext {H : Heap} {args : List V} {Q : V → Heap → Prop} (h : Tot (fun _ => (extF (dJJ g_r4_Sub) : List V → Heap → Option R) args H) Q) : Tot (fun n => f_ref04_Sub n args H) Q := Tot.fn (fun n => by unfold f_ref04_Sub; kernel_rfl) h
theorem whole_Of_ext {H : Heap} {args : List V} {Q : V → Heap → Prop} (h : Tot (fun _ => (extF (dZ g_whole_Of) : List V → Heap → Option R) args H) Q) : Tot (fun n => f_whole_Of n args H) Q := Tot.fn (fun n => by unfold f_whole_Of; kernel_rfl) h
theorem rat_norm_ext {H : Heap} {args : List V} {Q : V → Heap → Prop} (h : Tot (fun _ => (extF (dR g_rat_norm) : List V → Heap → Option R) args H) Q) : Tot (fun n => f_rat_norm n args H) Q := Tot.fn (fun n => by unfold f_rat_norm; kernel_rfl) h
theorem rat_Mul_ext {H : Heap} {args : List V} {Q : V → Heap → Prop} (h : Tot (fun _ => (extF (dRR g_rat_Mul) : List V → Heap → Option R) args H) Q) : Tot (fun n => f_rat_Mul n args H) Q := Tot.fn (fun n => by unfold f_rat_Mul; kernel_rfl) h
theorem ref03_Show_ext {H : Heap} {args : List V} {Q : V → Heap → Prop} (h : Tot (fun _ => (extF (dD g_r3_Show) : List V → Heap → Option R) args H) Q) : Tot (fun n => f_ref03_Show n args H) Q := Tot.fn (fun n => by unfold f_ref03_Show; kernel_rfl) h
theorem rat_lowest_ext {H : Heap} {args : List V} {Q : V → Heap → Prop} (h : Tot (fun _ => (extF (dQN g_rat_norm) : List V → Heap → Option R) args H) Q) : Tot (fun n => f_rat_lowest n args H) Q := Tot.fn (fun n => by unfold f_rat_lowest; kernel_rfl) h
theorem whole_Add_ext {H : Heap} {args : List V} {Q : V → Heap → Prop} (h : Tot (fun _ => (extF (dII g_whole_Add) : List V → Heap → Option R) args H) Q) : Tot (fun n => f_whole_Add n args H) Q := Tot.fn (fun n => by unfold f_whole_Add; kernel_rfl) h
theorem nat_Mul_ext {H : Heap} {args : List V} {Q : V → Heap → Prop} (h : Tot (fun _ => (extF (dNN g_nat_Mul) : List V → Heap → Option R) args H) Q) : Tot (fun n => f_nat_Mul n args H) Q := Tot.fn (fun n => by unfold f_nat_Mul; kernel_rfl) h
theorem whole_Mul_ext {H : Heap} {args : List V} {Q : V → Heap → Prop} (h : Tot (fun _ => (extF (dII g_whole_Mul) : List V → Heap → Option R) args H) Q) : Tot (fun n => f_whole_Mul n args H) Q := Tot.fn (fun n => by unfold f_whole_Mul; kernel_rfl) h
theorem nat_Trim_ext {H : Heap} {args : List V} {Q : V → Heap → Prop} (h : Tot (fun _ => (extF (dN g_nat_Trim) : List V → Heap → Option R) args H) Q) : Tot (fun n => f_nat_Trim n args H) Q := Tot.fn (fun n => by unfold f_nat_Trim; kernel_rfl) h
theorem whole_Norm_ext {H : Heap} {args : List V} {Q : V → Heap → Prop} (h : Tot (fun _ => (extF (dQ g_whole_Norm) : List V → Heap → Option R) args H) Q) : Tot (fun n => f_whole_Norm n args H) Q := Tot.fn (fun n => by unfold f_whole_Norm; kernel_rfl) h
theorem whole_Neg_ext {H : Heap} {args : List V} {Q : V → Heap → Prop} (h : Tot (fun _ => (extF (dI g_whole_Neg) : List V → Heap → Option R) args H) Q) : Tot (fun n => f_whole_Neg n args H) Q := Tot.fn (fun n => by unfold f_whole_Neg; kernel_rfl) h
theorem rat_Make_ext {H : Heap} {args : List V} {Q : V → Heap → Prop} (h : Tot (fun _ => (extF (dII g_rat_Make) : List V → Heap → Option R) args H) Q) : Tot (fun n => f_rat_Make n args H) Q := Tot.fn (fun n => by unfold f_rat_Make; kernel_rfl) h
theorem whole_Sign_ext {H : Heap} {args : List V} {Q : V → Heap → Prop} (h : Tot (fun _ => (extF (dI g_whole_Sign) : List V → Heap → Option R) args H) Q) : Tot (fun n => f_whole_Sign n args H) Q := Tot.fn (fun n => by unfold f_whole_Sign; kernel_rfl) h
theorem math_bits_Sub64_ext {H : Heap} {args : List V} {Q : V → Heap → Prop} (h : Tot (fun _ => (extSub64 : List V → Heap → Option R) args H) Q) : Tot (fun n => f_math_bits_Sub64 n args H) Q := Tot.fn (fun n => by unfold f_math_bits_Sub64; kernel_rfl) h
theorem math_bits_Add64_ext {H : Heap} {args : List V} {Q : V → Heap → Prop} (h : Tot (fun _ => (extAdd64 : List V → Heap → Option R) args H) Q) : Tot (fun n => f_math_bits_Add64 n args H) Q := Tot.fn (fun n => by unfold f_math_bits_Add64; kernel_rfl) h
end Go.AM.L
end
section
set_option linter.unusedVariables false
set_option linter.unusedSimpArgs false
set_option maxRecDepth 1000000
namespace Go.AM.L
theorem fns1 : tabList.all (fun p => okFun P p.1) = true := by kernel_rfl
theorem fns : ∀ f tab, C.tabs f = some tab → okFun C.P f = true := fun f tab h => List.all_eq_true.1 fns1 (f, tab) (look_mem h)
set_option maxHeartbeats 8000000 in
theorem exts : ∀ p ∈ extList, ExtSound C.P p.1 p.2 ∧ ExtFrame p.2 := by
  intro p hp
  simp only [extList, List.mem_cons, List.not_mem_nil, or_false] at hp
  rcases hp with rfl | rfl | rfl | rfl | rfl | rfl | rfl | rfl | rfl | rfl | rfl | rfl | rfl | rfl | rfl | rfl | rfl | rfl | rfl | rfl | rfl | rfl | rfl | rfl | rfl | rfl | rfl | rfl | rfl | rfl
  · exact ⟨xs_r5_Sub, extF_frame _⟩
  · exact ⟨xs_r5_Mul, extF_frame _⟩
  · exact ⟨xs_r5_Long, extF_frame _⟩
  · exact ⟨xs_r5_Add, extF_frame _⟩
  · exact ⟨xs_r5_Cmp, extF_frame _⟩
  · exact ⟨xs_r5_Of, extF_frame _⟩
  · exact ⟨xs_r5_Low, extF_frame _⟩
  · exact ⟨xs_r5_Neg, extF_frame _⟩
  · exact ⟨xs_r4_Mul, extF_frame _⟩
  · exact ⟨xs_r4_Long, extF_frame _⟩
  · exact ⟨xs_r4_Add, extF_frame _⟩
  · exact ⟨xs_r4_Cmp, extF_frame _⟩
  · exact ⟨xs_r4_Of, extF_frame _⟩
  · exact ⟨xs_r4_Neg, extF_frame _⟩
  · exact ⟨xs_r4_Sub, extF_frame _⟩
  · exact ⟨xs_whole_Of, extF_frame _⟩
  · exact ⟨xs_rat_norm, extF_frame _⟩
  · exact ⟨xs_rat_Mul, extF_frame _⟩
  · exact ⟨xs_r3_Show, extF_frame _⟩
  · exact ⟨xs_rat_lowest, extF_frame _⟩
  · exact ⟨xs_whole_Add, extF_frame _⟩
  · exact ⟨xs_nat_Mul, extF_frame _⟩
  · exact ⟨xs_whole_Mul, extF_frame _⟩
  · exact ⟨xs_nat_Trim, extF_frame _⟩
  · exact ⟨xs_whole_Norm, extF_frame _⟩
  · exact ⟨xs_whole_Neg, extF_frame _⟩
  · exact ⟨xs_rat_Make, extF_frame _⟩
  · exact ⟨xs_whole_Sign, extF_frame _⟩
  · exact ⟨xs_sub64 (Go.Proofs.Tryz.func186) (by kernel_rfl) (by kernel_rfl) (by kernel_rfl) (by kernel_rfl), extSub64_frame⟩
  · exact ⟨xs_add64 (Go.Proofs.Tryz.func187) (by kernel_rfl) (by kernel_rfl) (by kernel_rfl) (by kernel_rfl), extAdd64_frame⟩
theorem mixed : C.P.follows .mixedOrders = true := (show P.follows .mixedOrders = true from seat_mixed)
theorem ext_mem {f : Nat} {g : List V → Heap → Option R} (h : C.ext f = some g) : (f, g) ∈ extList := look_mem (l := extList) (show extList.lookup f = some g from h)
theorem ok : C.Ok := { mixed := mixed, fns := fns, ext := fun f g h => exts (f, g) (ext_mem h) }
end Go.AM.L
end
section
set_option linter.unusedVariables false
set_option linter.unusedSimpArgs false
set_option maxRecDepth 1000000
namespace Go.AM.L
def chkRun (r : Option R) (v : V) : Bool := match r with
  | some p => V.beq p.1 v
  | none => false
theorem chkRun_is {c : Cfg} {n : Nat} {f : FuncId} {a : List V} {v : V} (h : chkRun (callA c n f a ⟨0, .nil⟩) v = true) : ∃ n H1, callA c n f a ⟨0, .nil⟩ = some (v, H1) := by
  unfold chkRun at h
  split at h
  · rename_i p hp
    exact ⟨n, p.2, by rw [hp, ← V.beq_eq h]⟩
  · cases h
def chkT (c : Cfg) (f : FuncId) (tab : List (List V × V)) : Bool := tab.all fun q => V.frees q.1 && q.2.free && chkRun (callA c 300 f q.1 ⟨0, .nil⟩) q.2
theorem chkT_is {c : Cfg} {f : FuncId} {tab : List (List V × V)} (h : chkT c f tab = true) : ∀ q ∈ tab, V.frees q.1 = true ∧ q.2.free = true ∧ ∃ n H1, callA c n f q.1 ⟨0, .nil⟩ = some (q.2, H1) := by
  intro q hq
  have := List.all_eq_true.1 h q hq
  simp only [Bool.and_eq_true] at this
  exact ⟨this.1.1, this.1.2, chkRun_is this.2⟩
theorem app_is {Q : List V × V → Prop} {a b : List (List V × V)} (h : ∀ q ∈ a, Q q) (k : ∀ q ∈ b, Q q) : ∀ q ∈ a ++ b, Q q := fun q hq => (List.mem_append.1 hq).elim (h q) (k q)
def t1_155_0 : List (List V × V) := [([.agg [.int .i64 0, .int .i64 0]], .bool true),
 ([.agg [.int .i64 (-10), .int .i64 0]], .bool true),
 ([.agg [.int .i64 (-20), .int .i64 (-20)]], .bool true),
 ([.agg [.int .i64 (-20), .int .i64 (-10)]], .bool true),
 ([.agg [.int .i64 (-10), .int .i64 (-20)]], .bool true),
 ([.agg [.int .i64 (-10), .int .i64 (-10)]], .bool true),
 ([.agg [.int .i64 0, .int .i64 (-20)]], .bool true),
 ([.agg [.int .i64 0, .int .i64 (-10)]], .bool true),
 ([.agg [.int .i64 10, .int .i64 (-20)]], .bool true),
 ([.agg [.int .i64 10, .int .i64 (-10)]], .bool true),
 ([.agg [.int .i64 20, .int .i64 (-20)]], .bool true),
 ([.agg [.int .i64 20, .int .i64 (-10)]], .bool true),
 ([.agg [.int .i64 10, .int .i64 0]], .bool true),
 ([.agg [.int .i64 10, .int .i64 10]], .bool true),
 ([.agg [.int .i64 10, .int .i64 20]], .bool true),
 ([.agg [.int .i64 20, .int .i64 0]], .bool true),
 ([.agg [.int .i64 20, .int .i64 10]], .bool true),
 ([.agg [.int .i64 20, .int .i64 20]], .bool true),
 ([.agg [.int .i64 (-10), .int .i64 20]], .bool true),
 ([.agg [.int .i64 0, .int .i64 10]], .bool true),
 ([.agg [.int .i64 0, .int .i64 20]], .bool true),
 ([.agg [.int .i64 (-20), .int .i64 10]], .bool true),
 ([.agg [.int .i64 (-20), .int .i64 20]], .bool true),
 ([.agg [.int .i64 (-10), .int .i64 10]], .bool true),
 ([.agg [.int .i64 (-20), .int .i64 0]], .bool true)]
theorem t1_155_0_ok : chkT C 155 t1_155_0 = true := by kernel_rfl
def t1_88_0 : List (List V × V) := [([.agg [.int .i64 0, .int .i64 0], .agg [.int .i64 (-10), .int .i64 0], .agg [.int .i64 0, .int .i64 (-10)]], .tuple [.agg [.bool true, .list 1 1 [.int .u32 5], .list 1 1 [.int .u32 1], .bool true, .list 1 1 [.int .u32 5], .list 1 1 [.int .u32 1]], .bool true])]
theorem t1_88_0_ok : chkT C 88 t1_88_0 = true := by kernel_rfl
def t1_88_1 : List (List V × V) := [([.agg [.int .i64 0, .int .i64 0], .agg [.int .i64 0, .int .i64 (-10)], .agg [.int .i64 10, .int .i64 (-10)]], .tuple [.agg [.bool false, .list 1 1 [.int .u32 5], .list 1 1 [.int .u32 1], .bool true, .list 1 1 [.int .u32 5], .list 1 1 [.int .u32 1]], .bool true])]
theorem t1_88_1_ok : chkT C 88 t1_88_1 = true := by kernel_rfl
def t1_88_2 : List (List V × V) := [([.agg [.int .i64 0, .int .i64 0], .agg [.int .i64 10, .int .i64 (-10)], .agg [.int .i64 10, .int .i64 0]], .tuple [.agg [.bool false, .list 1 1 [.int .u32 5], .list 1 1 [.int .u32 1], .bool true, .list 1 1 [.int .u32 5], .list 1 1 [.int .u32 1]], .bool true])]
theorem t1_88_2_ok : chkT C 88 t1_88_2 = true := by kernel_rfl
def t1_88_3 : List (List V × V) := [([.agg [.int .i64 0, .int .i64 0], .agg [.int .i64 10, .int .i64 0], .agg [.int .i64 0, .int .i64 10]], .tuple [.agg [.bool false, .list 1 1 [.int .u32 5], .list 1 1 [.int .u32 1], .bool false, .list 1 1 [.int .u32 5], .list 1 1 [.int .u32 1]], .bool true])]
theorem t1_88_3_ok : chkT C 88 t1_88_3 = true := by kernel_rfl
def t1_88_4 : List (List V × V) := [([.agg [.int .i64 0, .int .i64 0], .agg [.int .i64 0, .int .i64 10], .agg [.int .i64 (-10), .int .i64 10]], .tuple [.agg [.bool true, .list 1 1 [.int .u32 5], .list 1 1 [.int .u32 1], .bool false, .list 1 1 [.int .u32 5], .list 1 1 [.int .u32 1]], .bool true])]
theorem t1_88_4_ok : chkT C 88 t1_88_4 = true := by kernel_rfl
def t1_88_5 : List (List V × V) := [([.agg [.int .i64 0, .int .i64 0], .agg [.int .i64 (-10), .int .i64 10], .agg [.int .i64 (-10), .int .i64 0]], .tuple [.agg [.bool true, .list 1 1 [.int .u32 5], .list 1 1 [.int .u32 1], .bool false, .list 1 1 [.int .u32 5], .list 1 1 [.int .u32 1]], .bool true])]
theorem t1_88_5_ok : chkT C 88 t1_88_5 = true := by kernel_rfl
def t1_134_0 : List (List V × V) := [([.agg [.int .i64 0, .int .i64 0], .agg [.int .i64 (-2), .int .i64 (-2)], .int .i64 10], .tuple [.agg [.int .i64 (-20), .int .i64 (-20)], .bool true]),
 ([.agg [.int .i64 0, .int .i64 0], .agg [.int .i64 (-2), .int .i64 (-1)], .int .i64 10], .tuple [.agg [.int .i64 (-20), .int .i64 (-10)], .bool true]),
 ([.agg [.int .i64 0, .int .i64 0], .agg [.int .i64 (-2), .int .i64 0], .int .i64 10], .tuple [.agg [.int .i64 (-20), .int .i64 0], .bool true]),
 ([.agg [.int .i64 0, .int .i64 0], .agg [.int .i64 (-2), .int .i64 1], .int .i64 10], .tuple [.agg [.int .i64 (-20), .int .i64 10], .bool true]),
 ([.agg [.int .i64 0, .int .i64 0], .agg [.int .i64 (-2), .int .i64 2], .int .i64 10], .tuple [.agg [.int .i64 (-20), .int .i64 20], .bool true]),
 ([.agg [.int .i64 0, .int .i64 0], .agg [.int .i64 (-1), .int .i64 (-2)], .int .i64 10], .tuple [.agg [.int .i64 (-10), .int .i64 (-20)], .bool true])]
theorem t1_134_0_ok : chkT C 134 t1_134_0 = true := by kernel_rfl
def t1_134_1 : List (List V × V) := [([.agg [.int .i64 0, .int .i64 0], .agg [.int .i64 (-1), .int .i64 (-1)], .int .i64 10], .tuple [.agg [.int .i64 (-10), .int .i64 (-10)], .bool true]),
 ([.agg [.int .i64 0, .int .i64 0], .agg [.int .i64 (-1), .int .i64 0], .int .i64 10], .tuple [.agg [.int .i64 (-10), .int .i64 0], .bool true]),
 ([.agg [.int .i64 0, .int .i64 0], .agg [.int .i64 (-1), .int .i64 1], .int .i64 10], .tuple [.agg [.int .i64 (-10), .int .i64 10], .bool true]),
 ([.agg [.int .i64 0, .int .i64 0], .agg [.int .i64 (-1), .int .i64 2], .int .i64 10], .tuple [.agg [.int .i64 (-10), .int .i64 20], .bool true]),
 ([.agg [.int .i64 0, .int .i64 0], .agg [.int .i64 0, .int .i64 (-2)], .int .i64 10], .tuple [.agg [.int .i64 0, .int .i64 (-20)], .bool true]),
 ([.agg [.int .i64 0, .int .i64 0], .agg [.int .i64 0, .int .i64 (-1)], .int .i64 10], .tuple [.agg [.int .i64 0, .int .i64 (-10)], .bool true])]
theorem t1_134_1_ok : chkT C 134 t1_134_1 = true := by kernel_rfl
def t1_134_2 : List (List V × V) := [([.agg [.int .i64 0, .int .i64 0], .agg [.int .i64 0, .int .i64 0], .int .i64 10], .tuple [.agg [.int .i64 0, .int .i64 0], .bool true]),
 ([.agg [.int .i64 0, .int .i64 0], .agg [.int .i64 0, .int .i64 1], .int .i64 10], .tuple [.agg [.int .i64 0, .int .i64 10], .bool true]),
 ([.agg [.int .i64 0, .int .i64 0], .agg [.int .i64 0, .int .i64 2], .int .i64 10], .tuple [.agg [.int .i64 0, .int .i64 20], .bool true]),
 ([.agg [.int .i64 0, .int .i64 0], .agg [.int .i64 1, .int .i64 (-2)], .int .i64 10], .tuple [.agg [.int .i64 10, .int .i64 (-20)], .bool true]),
 ([.agg [.int .i64 0, .int .i64 0], .agg [.int .i64 1, .int .i64 (-1)], .int .i64 10], .tuple [.agg [.int .i64 10, .int .i64 (-10)], .bool true]),
 ([.agg [.int .i64 0, .int .i64 0], .agg [.int .i64 1, .int .i64 0], .int .i64 10], .tuple [.agg [.int .i64 10, .int .i64 0], .bool true])]
theorem t1_134_2_ok : chkT C 134 t1_134_2 = true := by kernel_rfl
def t1_134_3 : List (List V × V) := [([.agg [.int .i64 0, .int .i64 0], .agg [.int .i64 1, .int .i64 1], .int .i64 10], .tuple [.agg [.int .i64 10, .int .i64 10], .bool true]),
 ([.agg [.int .i64 0, .int .i64 0], .agg [.int .i64 1, .int .i64 2], .int .i64 10], .tuple [.agg [.int .i64 10, .int .i64 20], .bool true]),
 ([.agg [.int .i64 0, .int .i64 0], .agg [.int .i64 2, .int .i64 (-2)], .int .i64 10], .tuple [.agg [.int .i64 20, .int .i64 (-20)], .bool true]),
 ([.agg [.int .i64 0, .int .i64 0], .agg [.int .i64 2, .int .i64 (-1)], .int .i64 10], .tuple [.agg [.int .i64 20, .int .i64 (-10)], .bool true]),
 ([.agg [.int .i64 0, .int .i64 0], .agg [.int .i64 2, .int .i64 0], .int .i64 10], .tuple [.agg [.int .i64 20, .int .i64 0], .bool true]),
 ([.agg [.int .i64 0, .int .i64 0], .agg [.int .i64 2, .int .i64 1], .int .i64 10], .tuple [.agg [.int .i64 20, .int .i64 10], .bool true])]
theorem t1_134_3_ok : chkT C 134 t1_134_3 = true := by kernel_rfl
def t1_134_4 : List (List V × V) := [([.agg [.int .i64 0, .int .i64 0], .agg [.int .i64 2, .int .i64 2], .int .i64 10], .tuple [.agg [.int .i64 20, .int .i64 20], .bool true])]
theorem t1_134_4_ok : chkT C 134 t1_134_4 = true := by kernel_rfl
def t1_48_0 : List (List V × V) := [([.agg [.bool true, .list 1 1 [.int .u32 5], .list 1 1 [.int .u32 1], .bool true, .list 1 1 [.int .u32 5], .list 1 1 [.int .u32 1]], .agg [.bool false, .list 1 1 [.int .u32 5], .list 1 1 [.int .u32 1], .bool true, .list 1 1 [.int .u32 5], .list 1 1 [.int .u32 1]]], .agg [.bool false, .list 1 1 [.int .u32 5000], .list 1 1 [.int .u32 1]]),
 ([.agg [.bool false, .list 1 1 [.int .u32 5], .list 1 1 [.int .u32 1], .bool true, .list 1 1 [.int .u32 5], .list 1 1 [.int .u32 1]], .agg [.bool false, .list 1 1 [.int .u32 5], .list 1 1 [.int .u32 1], .bool true, .list 1 1 [.int .u32 5], .list 1 1 [.int .u32 1]]], .agg [.bool false, .list 0 0 [], .list 1 1 [.int .u32 1]]),
 ([.agg [.bool false, .list 1 1 [.int .u32 5], .list 1 1 [.int .u32 1], .bool true, .list 1 1 [.int .u32 5], .list 1 1 [.int .u32 1]], .agg [.bool false, .list 1 1 [.int .u32 5], .list 1 1 [.int .u32 1], .bool false, .list 1 1 [.int .u32 5], .list 1 1 [.int .u32 1]]], .agg [.bool false, .list 1 1 [.int .u32 5000], .list 1 1 [.int .u32 1]])]
theorem t1_48_0_ok : chkT C 48 t1_48_0 = true := by kernel_rfl
def t1_48_1 : List (List V × V) := [([.agg [.bool false, .list 1 1 [.int .u32 5], .list 1 1 [.int .u32 1], .bool false, .list 1 1 [.int .u32 5], .list 1 1 [.int .u32 1]], .agg [.bool true, .list 1 1 [.int .u32 5], .list 1 1 [.int .u32 1], .bool false, .list 1 1 [.int .u32 5], .list 1 1 [.int .u32 1]]], .agg [.bool false, .list 1 1 [.int .u32 5000], .list 1 1 [.int .u32 1]]),
 ([.agg [.bool true, .list 1 1 [.int .u32 5], .list 1 1 [.int .u32 1], .bool false, .list 1 1 [.int .u32 5], .list 1 1 [.int .u32 1]], .agg [.bool true, .list 1 1 [.int .u32 5], .list 1 1 [.int .u32 1], .bool false, .list 1 1 [.int .u32 5], .list 1 1 [.int .u32 1]]], .agg [.bool false, .list 0 0 [], .list 1 1 [.int .u32 1]]),
 ([.agg [.bool true, .list 1 1 [.int .u32 5], .list 1 1 [.int .u32 1], .bool false, .list 1 1 [.int .u32 5], .list 1 1 [.int .u32 1]], .agg [.bool true, .list 1 1 [.int .u32 5], .list 1 1 [.int .u32 1], .bool true, .list 1 1 [.int .u32 5], .list 1 1 [.int .u32 1]]], .agg [.bool false, .list 1 1 [.int .u32 5000], .list 1 1 [.int .u32 1]])]
theorem t1_48_1_ok : chkT C 48 t1_48_1 = true := by kernel_rfl
noncomputable def extList1 : List (Nat × (List V → Heap → Option R)) := ((155 : Nat), (extP t1_155_0 : List V → Heap → Option R)) ::
 ((88 : Nat), (extP (t1_88_0 ++ (t1_88_1 ++ (t1_88_2 ++ (t1_88_3 ++ (t1_88_4 ++ t1_88_5))))) : List V → Heap → Option R)) ::
 ((134 : Nat), (extP (t1_134_0 ++ (t1_134_1 ++ (t1_134_2 ++ (t1_134_3 ++ t1_134_4)))) : List V → Heap → Option R)) ::
 ((48 : Nat), (extP (t1_48_0 ++ t1_48_1) : List V → Heap → Option R)) ::
 extList
noncomputable def C1 : Cfg := { C with ext := fun f => extList1.lookup f }
theorem exts1 : ∀ p ∈ extList1, ExtSound C.P p.1 p.2 ∧ ExtFrame p.2 := by
  intro p hp
  simp only [extList1, List.mem_cons] at hp
  rcases hp with rfl | rfl | rfl | rfl | hp
  · exact ⟨extPure (C0 := C) ok (chkT_is t1_155_0_ok), extP_frame _⟩
  · exact ⟨extPure (C0 := C) ok (app_is (chkT_is t1_88_0_ok) (app_is (chkT_is t1_88_1_ok) (app_is (chkT_is t1_88_2_ok) (app_is (chkT_is t1_88_3_ok) (app_is (chkT_is t1_88_4_ok) (chkT_is t1_88_5_ok)))))), extP_frame _⟩
  · exact ⟨extPure (C0 := C) ok (app_is (chkT_is t1_134_0_ok) (app_is (chkT_is t1_134_1_ok) (app_is (chkT_is t1_134_2_ok) (app_is (chkT_is t1_134_3_ok) (chkT_is t1_134_4_ok))))), extP_frame _⟩
  · exact ⟨extPure (C0 := C) ok (app_is (chkT_is t1_48_0_ok) (chkT_is t1_48_1_ok)), extP_frame _⟩
  · exact exts p hp
theorem ok1 : C1.Ok := { mixed := mixed, fns := fns, ext := fun f g h => exts1 (f, g) (look_mem (l := extList1) (show extList1.lookup f = some g from h)) }
def t2_137_0 : List (List V × V) := [([.agg [.int .i64 0, .int .i64 0], .agg [.int .i64 (-10), .int .i64 0], .agg [.int .i64 (-20), .int .i64 (-20)], .agg [.int .i64 (-20), .int .i64 (-10)]], .bool false),
 ([.agg [.int .i64 0, .int .i64 0], .agg [.int .i64 (-10), .int .i64 0], .agg [.int .i64 (-20), .int .i64 (-20)], .agg [.int .i64 (-10), .int .i64 (-20)]], .bool true),
 ([.agg [.int .i64 0, .int .i64 0], .agg [.int .i64 (-10), .int .i64 0], .agg [.int .i64 (-10), .int .i64 (-20)], .agg [.int .i64 (-10), .int .i64 (-10)]], .bool true),
 ([.agg [.int .i64 0, .int .i64 0], .agg [.int .i64 (-10), .int .i64 0], .agg [.int .i64 (-10), .int .i64 (-10)], .agg [.int .i64 0, .int .i64 (-20)]], .bool false)]
theorem t2_137_0_ok : chkT C1 137 t2_137_0 = true := by kernel_rfl
def t2_137_1 : List (List V × V) := [([.agg [.int .i64 0, .int .i64 0], .agg [.int .i64 (-10), .int .i64 0], .agg [.int .i64 (-10), .int .i64 (-10)], .agg [.int .i64 0, .int .i64 (-10)]], .bool true),
 ([.agg [.int .i64 0, .int .i64 0], .agg [.int .i64 (-10), .int .i64 0], .agg [.int .i64 0, .int .i64 (-10)], .agg [.int .i64 10, .int .i64 (-20)]], .bool false),
 ([.agg [.int .i64 0, .int .i64 0], .agg [.int .i64 (-10), .int .i64 0], .agg [.int .i64 0, .int .i64 (-10)], .agg [.int .i64 10, .int .i64 (-10)]], .bool false),
 ([.agg [.int .i64 0, .int .i64 0], .agg [.int .i64 (-10), .int .i64 0], .agg [.int .i64 0, .int .i64 (-10)], .agg [.int .i64 20, .int .i64 (-20)]], .bool false)]
theorem t2_137_1_ok : chkT C1 137 t2_137_1 = true := by kernel_rfl
def t2_137_2 : List (List V × V) := [([.agg [.int .i64 0, .int .i64 0], .agg [.int .i64 (-10), .int .i64 0], .agg [.int .i64 0, .int .i64 (-10)], .agg [.int .i64 20, .int .i64 (-10)]], .bool false),
 ([.agg [.int .i64 0, .int .i64 0], .agg [.int .i64 0, .int .i64 (-10)], .agg [.int .i64 10, .int .i64 (-20)], .agg [.int .i64 10, .int .i64 (-10)]], .bool true),
 ([.agg [.int .i64 0, .int .i64 0], .agg [.int .i64 0, .int .i64 (-10)], .agg [.int .i64 10, .int .i64 (-10)], .agg [.int .i64 10, .int .i64 0]], .bool false),
 ([.agg [.int .i64 0, .int .i64 0], .agg [.int .i64 0, .int .i64 (-10)], .agg [.int .i64 10, .int .i64 (-10)], .agg [.int .i64 10, .int .i64 10]], .bool false)]
theorem t2_137_2_ok : chkT C1 137 t2_137_2 = true := by kernel_rfl
def t2_137_3 : List (List V × V) := [([.agg [.int .i64 0, .int .i64 0], .agg [.int .i64 0, .int .i64 (-10)], .agg [.int .i64 10, .int .i64 (-10)], .agg [.int .i64 10, .int .i64 20]], .bool false),
 ([.agg [.int .i64 0, .int .i64 0], .agg [.int .i64 0, .int .i64 (-10)], .agg [.int .i64 10, .int .i64 (-10)], .agg [.int .i64 20, .int .i64 (-20)]], .bool false),
 ([.agg [.int .i64 0, .int .i64 0], .agg [.int .i64 0, .int .i64 (-10)], .agg [.int .i64 10, .int .i64 (-10)], .agg [.int .i64 20, .int .i64 (-10)]], .bool false),
 ([.agg [.int .i64 0, .int .i64 0], .agg [.int .i64 0, .int .i64 (-10)], .agg [.int .i64 10, .int .i64 (-10)], .agg [.int .i64 20, .int .i64 0]], .bool false)]
theorem t2_137_3_ok : chkT C1 137 t2_137_3 = true := by kernel_rfl
def t2_137_4 : List (List V × V) := [([.agg [.int .i64 0, .int .i64 0], .agg [.int .i64 0, .int .i64 (-10)], .agg [.int .i64 10, .int .i64 (-10)], .agg [.int .i64 20, .int .i64 10]], .bool false),
 ([.agg [.int .i64 0, .int .i64 0], .agg [.int .i64 0, .int .i64 (-10)], .agg [.int .i64 10, .int .i64 (-10)], .agg [.int .i64 20, .int .i64 20]], .bool false),
 ([.agg [.int .i64 0, .int .i64 0], .agg [.int .i64 10, .int .i64 (-10)], .agg [.int .i64 (-10), .int .i64 20], .agg [.int .i64 0, .int .i64 10]], .bool true),
 ([.agg [.int .i64 0, .int .i64 0], .agg [.int .i64 10, .int .i64 (-10)], .agg [.int .i64 0, .int .i64 10], .agg [.int .i64 0, .int .i64 20]], .bool false)]
theorem t2_137_4_ok : chkT C1 137 t2_137_4 = true := by kernel_rfl
def t2_137_5 : List (List V × V) := [([.agg [.int .i64 0, .int .i64 0], .agg [.int .i64 10, .int .i64 (-10)], .agg [.int .i64 0, .int .i64 10], .agg [.int .i64 10, .int .i64 0]], .bool true),
 ([.agg [.int .i64 0, .int .i64 0], .agg [.int .i64 10, .int .i64 (-10)], .agg [.int .i64 10, .int .i64 0], .agg [.int .i64 10, .int .i64 10]], .bool false),
 ([.agg [.int .i64 0, .int .i64 0], .agg [.int .i64 10, .int .i64 (-10)], .agg [.int .i64 10, .int .i64 0], .agg [.int .i64 10, .int .i64 20]], .bool false),
 ([.agg [.int .i64 0, .int .i64 0], .agg [.int .i64 10, .int .i64 (-10)], .agg [.int .i64 10, .int .i64 0], .agg [.int .i64 20, .int .i64 (-10)]], .bool false)]
theorem t2_137_5_ok : chkT C1 137 t2_137_5 = true := by kernel_rfl
def t2_137_6 : List (List V × V) := [([.agg [.int .i64 0, .int .i64 0], .agg [.int .i64 10, .int .i64 (-10)], .agg [.int .i64 10, .int .i64 0], .agg [.int .i64 20, .int .i64 0]], .bool false),
 ([.agg [.int .i64 0, .int .i64 0], .agg [.int .i64 10, .int .i64 (-10)], .agg [.int .i64 10, .int .i64 0], .agg [.int .i64 20, .int .i64 10]], .bool false),
 ([.agg [.int .i64 0, .int .i64 0], .agg [.int .i64 10, .int .i64 (-10)], .agg [.int .i64 10, .int .i64 0], .agg [.int .i64 20, .int .i64 20]], .bool false),
 ([.agg [.int .i64 0, .int .i64 0], .agg [.int .i64 10, .int .i64 0], .agg [.int .i64 (-20), .int .i64 10], .agg [.int .i64 (-20), .int .i64 20]], .bool true)]
theorem t2_137_6_ok : chkT C1 137 t2_137_6 = true := by kernel_rfl
def t2_137_7 : List (List V × V) := [([.agg [.int .i64 0, .int .i64 0], .agg [.int .i64 10, .int .i64 0], .agg [.int .i64 (-20), .int .i64 20], .agg [.int .i64 (-10), .int .i64 10]], .bool true),
 ([.agg [.int .i64 0, .int .i64 0], .agg [.int .i64 10, .int .i64 0], .agg [.int .i64 (-10), .int .i64 10], .agg [.int .i64 (-10), .int .i64 20]], .bool true),
 ([.agg [.int .i64 0, .int .i64 0], .agg [.int .i64 10, .int .i64 0], .agg [.int .i64 (-10), .int .i64 20], .agg [.int .i64 0, .int .i64 10]], .bool true),
 ([.agg [.int .i64 0, .int .i64 0], .agg [.int .i64 10, .int .i64 0], .agg [.int .i64 0, .int .i64 10], .agg [.int .i64 0, .int .i64 20]], .bool false)]
theorem t2_137_7_ok : chkT C1 137 t2_137_7 = true := by kernel_rfl
def t2_137_8 : List (List V × V) := [([.agg [.int .i64 0, .int .i64 0], .agg [.int .i64 10, .int .i64 0], .agg [.int .i64 0, .int .i64 10], .agg [.int .i64 10, .int .i64 10]], .bool false),
 ([.agg [.int .i64 0, .int .i64 0], .agg [.int .i64 10, .int .i64 0], .agg [.int .i64 0, .int .i64 10], .agg [.int .i64 10, .int .i64 20]], .bool false),
 ([.agg [.int .i64 0, .int .i64 0], .agg [.int .i64 10, .int .i64 0], .agg [.int .i64 0, .int .i64 10], .agg [.int .i64 20, .int .i64 10]], .bool false),
 ([.agg [.int .i64 0, .int .i64 0], .agg [.int .i64 10, .int .i64 0], .agg [.int .i64 0, .int .i64 10], .agg [.int .i64 20, .int .i64 20]], .bool false)]
theorem t2_137_8_ok : chkT C1 137 t2_137_8 = true := by kernel_rfl
def t2_137_9 : List (List V × V) := [([.agg [.int .i64 0, .int .i64 0], .agg [.int .i64 0, .int .i64 10], .agg [.int .i64 (-20), .int .i64 (-20)], .agg [.int .i64 (-20), .int .i64 (-10)]], .bool true),
 ([.agg [.int .i64 0, .int .i64 0], .agg [.int .i64 0, .int .i64 10], .agg [.int .i64 (-20), .int .i64 (-10)], .agg [.int .i64 (-20), .int .i64 0]], .bool true),
 ([.agg [.int .i64 0, .int .i64 0], .agg [.int .i64 0, .int .i64 10], .agg [.int .i64 (-20), .int .i64 0], .agg [.int .i64 (-20), .int .i64 10]], .bool true),
 ([.agg [.int .i64 0, .int .i64 0], .agg [.int .i64 0, .int .i64 10], .agg [.int .i64 (-20), .int .i64 10], .agg [.int .i64 (-20), .int .i64 20]], .bool false)]
theorem t2_137_9_ok : chkT C1 137 t2_137_9 = true := by kernel_rfl
def t2_137_10 : List (List V × V) := [([.agg [.int .i64 0, .int .i64 0], .agg [.int .i64 0, .int .i64 10], .agg [.int .i64 (-20), .int .i64 10], .agg [.int .i64 (-10), .int .i64 (-20)]], .bool false),
 ([.agg [.int .i64 0, .int .i64 0], .agg [.int .i64 0, .int .i64 10], .agg [.int .i64 (-20), .int .i64 10], .agg [.int .i64 (-10), .int .i64 (-10)]], .bool false),
 ([.agg [.int .i64 0, .int .i64 0], .agg [.int .i64 0, .int .i64 10], .agg [.int .i64 (-20), .int .i64 10], .agg [.int .i64 (-10), .int .i64 0]], .bool true),
 ([.agg [.int .i64 0, .int .i64 0], .agg [.int .i64 0, .int .i64 10], .agg [.int .i64 (-10), .int .i64 0], .agg [.int .i64 (-10), .int .i64 10]], .bool true)]
theorem t2_137_10_ok : chkT C1 137 t2_137_10 = true := by kernel_rfl
def t2_137_11 : List (List V × V) := [([.agg [.int .i64 0, .int .i64 0], .agg [.int .i64 0, .int .i64 10], .agg [.int .i64 (-10), .int .i64 10], .agg [.int .i64 (-10), .int .i64 20]], .bool false),
 ([.agg [.int .i64 0, .int .i64 0], .agg [.int .i64 (-10), .int .i64 10], .agg [.int .i64 (-20), .int .i64 (-20)], .agg [.int .i64 (-20), .int .i64 (-10)]], .bool true),
 ([.agg [.int .i64 0, .int .i64 0], .agg [.int .i64 (-10), .int .i64 10], .agg [.int .i64 (-20), .int .i64 (-10)], .agg [.int .i64 (-20), .int .i64 0]], .bool true),
 ([.agg [.int .i64 0, .int .i64 0], .agg [.int .i64 (-10), .int .i64 10], .agg [.int .i64 (-20), .int .i64 0], .agg [.int .i64 (-20), .int .i64 10]], .bool false)]
theorem t2_137_11_ok : chkT C1 137 t2_137_11 = true := by kernel_rfl
def t2_137_12 : List (List V × V) := [([.agg [.int .i64 0, .int .i64 0], .agg [.int .i64 (-10), .int .i64 10], .agg [.int .i64 (-20), .int .i64 0], .agg [.int .i64 (-10), .int .i64 (-20)]], .bool false),
 ([.agg [.int .i64 0, .int .i64 0], .agg [.int .i64 (-10), .int .i64 10], .agg [.int .i64 (-20), .int .i64 0], .agg [.int .i64 (-10), .int .i64 (-10)]], .bool true),
 ([.agg [.int .i64 0, .int .i64 0], .agg [.int .i64 (-10), .int .i64 10], .agg [.int .i64 (-10), .int .i64 (-10)], .agg [.int .i64 (-10), .int .i64 0]], .bool true),
 ([.agg [.int .i64 0, .int .i64 0], .agg [.int .i64 (-10), .int .i64 10], .agg [.int .i64 (-10), .int .i64 0], .agg [.int .i64 0, .int .i64 (-20)]], .bool false)]
theorem t2_137_12_ok : chkT C1 137 t2_137_12 = true := by kernel_rfl
def t2_137_13 : List (List V × V) := [([.agg [.int .i64 0, .int .i64 0], .agg [.int .i64 (-10), .int .i64 10], .agg [.int .i64 (-10), .int .i64 0], .agg [.int .i64 0, .int .i64 (-10)]], .bool false),
 ([.agg [.int .i64 0, .int .i64 0], .agg [.int .i64 (-10), .int .i64 10], .agg [.int .i64 (-10), .int .i64 0], .agg [.int .i64 10, .int .i64 (-20)]], .bool false)]
theorem t2_137_13_ok : chkT C1 137 t2_137_13 = true := by kernel_rfl
def t2_110_0 : List (List V × V) := [([.list 1 2 [.int .i64 0, .int .i64 0], .int .i64 10, .int .i64 2], .list 25 5 [.int .i64 0, .int .i64 (-2), .int .i64 (-2), .int .i64 (-20), .int .i64 (-20), .int .i64 0, .int .i64 (-2), .int .i64 (-1), .int .i64 (-20), .int .i64 (-10), .int .i64 0, .int .i64 (-2), .int .i64 0, .int .i64 (-20), .int .i64 0, .int .i64 0, .int .i64 (-2), .int .i64 1, .int .i64 (-20), .int .i64 10, .int .i64 0, .int .i64 (-2), .int .i64 2, .int .i64 (-20), .int .i64 20, .int .i64 0, .int .i64 (-1), .int .i64 (-2), .int .i64 (-10), .int .i64 (-20), .int .i64 0, .int .i64 (-1), .int .i64 (-1), .int .i64 (-10), .int .i64 (-10), .int .i64 0, .int .i64 (-1), .int .i64 0, .int .i64 (-10), .int .i64 0, .int .i64 0, .int .i64 (-1), .int .i64 1, .int .i64 (-10), .int .i64 10, .int .i64 0, .int .i64 (-1), .int .i64 2, .int .i64 (-10), .int .i64 20, .int .i64 0, .int .i64 0, .int .i64 (-2), .int .i64 0, .int .i64 (-20), .int .i64 0, .int .i64 0, .int .i64 (-1), .int .i64 0, .int .i64 (-10), .int .i64 0, .int .i64 0, .int .i64 0, .int .i64 0, .int .i64 0, .int .i64 0, .int .i64 0, .int .i64 1, .int .i64 0, .int .i64 10, .int .i64 0, .int .i64 0, .int .i64 2, .int .i64 0, .int .i64 20, .int .i64 0, .int .i64 1, .int .i64 (-2), .int .i64 10, .int .i64 (-20), .int .i64 0, .int .i64 1, .int .i64 (-1), .int .i64 10, .int .i64 (-10), .int .i64 0, .int .i64 1, .int .i64 0, .int .i64 10, .int .i64 0, .int .i64 0, .int .i64 1, .int .i64 1, .int .i64 10, .int .i64 10, .int .i64 0, .int .i64 1, .int .i64 2, .int .i64 10, .int .i64 20, .int .i64 0, .int .i64 2, .int .i64 (-2), .int .i64 20, .int .i64 (-20), .int .i64 0, .int .i64 2, .int .i64 (-1), .int .i64 20, .int .i64 (-10), .int .i64 0, .int .i64 2, .int .i64 0, .int .i64 20, .int .i64 0, .int .i64 0, .int .i64 2, .int .i64 1, .int .i64 20, .int .i64 10, .int .i64 0, .int .i64 2, .int .i64 2, .int .i64 20, .int .i64 20])]
theorem t2_110_0_ok : chkT C1 110 t2_110_0 = true := by kernel_rfl
noncomputable def extList2 : List (Nat × (List V → Heap → Option R)) := ((137 : Nat), (extP (t2_137_0 ++ (t2_137_1 ++ (t2_137_2 ++ (t2_137_3 ++ (t2_137_4 ++ (t2_137_5 ++ (t2_137_6 ++ (t2_137_7 ++ (t2_137_8 ++ (t2_137_9 ++ (t2_137_10 ++ (t2_137_11 ++ (t2_137_12 ++ t2_137_13))))))))))))) : List V → Heap → Option R)) ::
 ((110 : Nat), (extP t2_110_0 : List V → Heap → Option R)) ::
 extList1
noncomputable def C2 : Cfg := { C with ext := fun f => extList2.lookup f }
theorem exts2 : ∀ p ∈ extList2, ExtSound C.P p.1 p.2 ∧ ExtFrame p.2 := by
  intro p hp
  simp only [extList2, List.mem_cons] at hp
  rcases hp with rfl | rfl | hp
  · exact ⟨extPure (C0 := C1) ok1 (app_is (chkT_is t2_137_0_ok) (app_is (chkT_is t2_137_1_ok) (app_is (chkT_is t2_137_2_ok) (app_is (chkT_is t2_137_3_ok) (app_is (chkT_is t2_137_4_ok) (app_is (chkT_is t2_137_5_ok) (app_is (chkT_is t2_137_6_ok) (app_is (chkT_is t2_137_7_ok) (app_is (chkT_is t2_137_8_ok) (app_is (chkT_is t2_137_9_ok) (app_is (chkT_is t2_137_10_ok) (app_is (chkT_is t2_137_11_ok) (app_is (chkT_is t2_137_12_ok) (chkT_is t2_137_13_ok)))))))))))))), extP_frame _⟩
  · exact ⟨extPure (C0 := C1) ok1 (chkT_is t2_110_0_ok), extP_frame _⟩
  · exact exts1 p hp
theorem ok2 : C2.Ok := { mixed := mixed, fns := fns, ext := fun f g h => exts2 (f, g) (look_mem (l := extList2) (show extList2.lookup f = some g from h)) }
def t3_112_0 : List (List V × V) := [([.agg [.int .i64 0, .int .i64 0], .agg [.int .i64 (-10), .int .i64 0], .list 25 5 [.int .i64 0, .int .i64 (-2), .int .i64 (-2), .int .i64 (-20), .int .i64 (-20), .int .i64 0, .int .i64 (-2), .int .i64 (-1), .int .i64 (-20), .int .i64 (-10), .int .i64 0, .int .i64 (-2), .int .i64 0, .int .i64 (-20), .int .i64 0, .int .i64 0, .int .i64 (-2), .int .i64 1, .int .i64 (-20), .int .i64 10, .int .i64 0, .int .i64 (-2), .int .i64 2, .int .i64 (-20), .int .i64 20, .int .i64 0, .int .i64 (-1), .int .i64 (-2), .int .i64 (-10), .int .i64 (-20), .int .i64 0, .int .i64 (-1), .int .i64 (-1), .int .i64 (-10), .int .i64 (-10), .int .i64 0, .int .i64 (-1), .int .i64 0, .int .i64 (-10), .int .i64 0, .int .i64 0, .int .i64 (-1), .int .i64 1, .int .i64 (-10), .int .i64 10, .int .i64 0, .int .i64 (-1), .int .i64 2, .int .i64 (-10), .int .i64 20, .int .i64 0, .int .i64 0, .int .i64 (-2), .int .i64 0, .int .i64 (-20), .int .i64 0, .int .i64 0, .int .i64 (-1), .int .i64 0, .int .i64 (-10), .int .i64 0, .int .i64 0, .int .i64 0, .int .i64 0, .int .i64 0, .int .i64 0, .int .i64 0, .int .i64 1, .int .i64 0, .int .i64 10, .int .i64 0, .int .i64 0, .int .i64 2, .int .i64 0, .int .i64 20, .int .i64 0, .int .i64 1, .int .i64 (-2), .int .i64 10, .int .i64 (-20), .int .i64 0, .int .i64 1, .int .i64 (-1), .int .i64 10, .int .i64 (-10), .int .i64 0, .int .i64 1, .int .i64 0, .int .i64 10, .int .i64 0, .int .i64 0, .int .i64 1, .int .i64 1, .int .i64 10, .int .i64 10, .int .i64 0, .int .i64 1, .int .i64 2, .int .i64 10, .int .i64 20, .int .i64 0, .int .i64 2, .int .i64 (-2), .int .i64 20, .int .i64 (-20), .int .i64 0, .int .i64 2, .int .i64 (-1), .int .i64 20, .int .i64 (-10), .int .i64 0, .int .i64 2, .int .i64 0, .int .i64 20, .int .i64 0, .int .i64 0, .int .i64 2, .int .i64 1, .int .i64 20, .int .i64 10, .int .i64 0, .int .i64 2, .int .i64 2, .int .i64 20, .int .i64 20]], .int .i64 11)]
theorem t3_112_0_ok : chkT C2 112 t3_112_0 = true := by kernel_rfl
def t3_112_1 : List (List V × V) := [([.agg [.int .i64 0, .int .i64 0], .agg [.int .i64 0, .int .i64 (-10)], .list 25 5 [.int .i64 0, .int .i64 (-2), .int .i64 (-2), .int .i64 (-20), .int .i64 (-20), .int .i64 0, .int .i64 (-2), .int .i64 (-1), .int .i64 (-20), .int .i64 (-10), .int .i64 0, .int .i64 (-2), .int .i64 0, .int .i64 (-20), .int .i64 0, .int .i64 0, .int .i64 (-2), .int .i64 1, .int .i64 (-20), .int .i64 10, .int .i64 0, .int .i64 (-2), .int .i64 2, .int .i64 (-20), .int .i64 20, .int .i64 0, .int .i64 (-1), .int .i64 (-2), .int .i64 (-10), .int .i64 (-20), .int .i64 0, .int .i64 (-1), .int .i64 (-1), .int .i64 (-10), .int .i64 (-10), .int .i64 0, .int .i64 (-1), .int .i64 0, .int .i64 (-10), .int .i64 0, .int .i64 0, .int .i64 (-1), .int .i64 1, .int .i64 (-10), .int .i64 10, .int .i64 0, .int .i64 (-1), .int .i64 2, .int .i64 (-10), .int .i64 20, .int .i64 0, .int .i64 0, .int .i64 (-2), .int .i64 0, .int .i64 (-20), .int .i64 0, .int .i64 0, .int .i64 (-1), .int .i64 0, .int .i64 (-10), .int .i64 0, .int .i64 0, .int .i64 0, .int .i64 0, .int .i64 0, .int .i64 0, .int .i64 0, .int .i64 1, .int .i64 0, .int .i64 10, .int .i64 0, .int .i64 0, .int .i64 2, .int .i64 0, .int .i64 20, .int .i64 0, .int .i64 1, .int .i64 (-2), .int .i64 10, .int .i64 (-20), .int .i64 0, .int .i64 1, .int .i64 (-1), .int .i64 10, .int .i64 (-10), .int .i64 0, .int .i64 1, .int .i64 0, .int .i64 10, .int .i64 0, .int .i64 0, .int .i64 1, .int .i64 1, .int .i64 10, .int .i64 10, .int .i64 0, .int .i64 1, .int .i64 2, .int .i64 10, .int .i64 20, .int .i64 0, .int .i64 2, .int .i64 (-2), .int .i64 20, .int .i64 (-20), .int .i64 0, .int .i64 2, .int .i64 (-1), .int .i64 20, .int .i64 (-10), .int .i64 0, .int .i64 2, .int .i64 0, .int .i64 20, .int .i64 0, .int .i64 0, .int .i64 2, .int .i64 1, .int .i64 20, .int .i64 10, .int .i64 0, .int .i64 2, .int .i64 2, .int .i64 20, .int .i64 20]], .int .i64 16)]
theorem t3_112_1_ok : chkT C2 112 t3_112_1 = true := by kernel_rfl
def t3_112_2 : List (List V × V) := [([.agg [.int .i64 0, .int .i64 0], .agg [.int .i64 10, .int .i64 (-10)], .list 25 5 [.int .i64 0, .int .i64 (-2), .int .i64 (-2), .int .i64 (-20), .int .i64 (-20), .int .i64 0, .int .i64 (-2), .int .i64 (-1), .int .i64 (-20), .int .i64 (-10), .int .i64 0, .int .i64 (-2), .int .i64 0, .int .i64 (-20), .int .i64 0, .int .i64 0, .int .i64 (-2), .int .i64 1, .int .i64 (-20), .int .i64 10, .int .i64 0, .int .i64 (-2), .int .i64 2, .int .i64 (-20), .int .i64 20, .int .i64 0, .int .i64 (-1), .int .i64 (-2), .int .i64 (-10), .int .i64 (-20), .int .i64 0, .int .i64 (-1), .int .i64 (-1), .int .i64 (-10), .int .i64 (-10), .int .i64 0, .int .i64 (-1), .int .i64 0, .int .i64 (-10), .int .i64 0, .int .i64 0, .int .i64 (-1), .int .i64 1, .int .i64 (-10), .int .i64 10, .int .i64 0, .int .i64 (-1), .int .i64 2, .int .i64 (-10), .int .i64 20, .int .i64 0, .int .i64 0, .int .i64 (-2), .int .i64 0, .int .i64 (-20), .int .i64 0, .int .i64 0, .int .i64 (-1), .int .i64 0, .int .i64 (-10), .int .i64 0, .int .i64 0, .int .i64 0, .int .i64 0, .int .i64 0, .int .i64 0, .int .i64 0, .int .i64 1, .int .i64 0, .int .i64 10, .int .i64 0, .int .i64 0, .int .i64 2, .int .i64 0, .int .i64 20, .int .i64 0, .int .i64 1, .int .i64 (-2), .int .i64 10, .int .i64 (-20), .int .i64 0, .int .i64 1, .int .i64 (-1), .int .i64 10, .int .i64 (-10), .int .i64 0, .int .i64 1, .int .i64 0, .int .i64 10, .int .i64 0, .int .i64 0, .int .i64 1, .int .i64 1, .int .i64 10, .int .i64 10, .int .i64 0, .int .i64 1, .int .i64 2, .int .i64 10, .int .i64 20, .int .i64 0, .int .i64 2, .int .i64 (-2), .int .i64 20, .int .i64 (-20), .int .i64 0, .int .i64 2, .int .i64 (-1), .int .i64 20, .int .i64 (-10), .int .i64 0, .int .i64 2, .int .i64 0, .int .i64 20, .int .i64 0, .int .i64 0, .int .i64 2, .int .i64 1, .int .i64 20, .int .i64 10, .int .i64 0, .int .i64 2, .int .i64 2, .int .i64 20, .int .i64 20]], .int .i64 17)]
theorem t3_112_2_ok : chkT C2 112 t3_112_2 = true := by kernel_rfl
def t3_112_3 : List (List V × V) := [([.agg [.int .i64 0, .int .i64 0], .agg [.int .i64 10, .int .i64 0], .list 25 5 [.int .i64 0, .int .i64 (-2), .int .i64 (-2), .int .i64 (-20), .int .i64 (-20), .int .i64 0, .int .i64 (-2), .int .i64 (-1), .int .i64 (-20), .int .i64 (-10), .int .i64 0, .int .i64 (-2), .int .i64 0, .int .i64 (-20), .int .i64 0, .int .i64 0, .int .i64 (-2), .int .i64 1, .int .i64 (-20), .int .i64 10, .int .i64 0, .int .i64 (-2), .int .i64 2, .int .i64 (-20), .int .i64 20, .int .i64 0, .int .i64 (-1), .int .i64 (-2), .int .i64 (-10), .int .i64 (-20), .int .i64 0, .int .i64 (-1), .int .i64 (-1), .int .i64 (-10), .int .i64 (-10), .int .i64 0, .int .i64 (-1), .int .i64 0, .int .i64 (-10), .int .i64 0, .int .i64 0, .int .i64 (-1), .int .i64 1, .int .i64 (-10), .int .i64 10, .int .i64 0, .int .i64 (-1), .int .i64 2, .int .i64 (-10), .int .i64 20, .int .i64 0, .int .i64 0, .int .i64 (-2), .int .i64 0, .int .i64 (-20), .int .i64 0, .int .i64 0, .int .i64 (-1), .int .i64 0, .int .i64 (-10), .int .i64 0, .int .i64 0, .int .i64 0, .int .i64 0, .int .i64 0, .int .i64 0, .int .i64 0, .int .i64 1, .int .i64 0, .int .i64 10, .int .i64 0, .int .i64 0, .int .i64 2, .int .i64 0, .int .i64 20, .int .i64 0, .int .i64 1, .int .i64 (-2), .int .i64 10, .int .i64 (-20), .int .i64 0, .int .i64 1, .int .i64 (-1), .int .i64 10, .int .i64 (-10), .int .i64 0, .int .i64 1, .int .i64 0, .int .i64 10, .int .i64 0, .int .i64 0, .int .i64 1, .int .i64 1, .int .i64 10, .int .i64 10, .int .i64 0, .int .i64 1, .int .i64 2, .int .i64 10, .int .i64 20, .int .i64 0, .int .i64 2, .int .i64 (-2), .int .i64 20, .int .i64 (-20), .int .i64 0, .int .i64 2, .int .i64 (-1), .int .i64 20, .int .i64 (-10), .int .i64 0, .int .i64 2, .int .i64 0, .int .i64 20, .int .i64 0, .int .i64 0, .int .i64 2, .int .i64 1, .int .i64 20, .int .i64 10, .int .i64 0, .int .i64 2, .int .i64 2, .int .i64 20, .int .i64 20]], .int .i64 13)]
theorem t3_112_3_ok : chkT C2 112 t3_112_3 = true := by kernel_rfl
def t3_112_4 : List (List V × V) := [([.agg [.int .i64 0, .int .i64 0], .agg [.int .i64 0, .int .i64 10], .list 25 5 [.int .i64 0, .int .i64 (-2), .int .i64 (-2), .int .i64 (-20), .int .i64 (-20), .int .i64 0, .int .i64 (-2), .int .i64 (-1), .int .i64 (-20), .int .i64 (-10), .int .i64 0, .int .i64 (-2), .int .i64 0, .int .i64 (-20), .int .i64 0, .int .i64 0, .int .i64 (-2), .int .i64 1, .int .i64 (-20), .int .i64 10, .int .i64 0, .int .i64 (-2), .int .i64 2, .int .i64 (-20), .int .i64 20, .int .i64 0, .int .i64 (-1), .int .i64 (-2), .int .i64 (-10), .int .i64 (-20), .int .i64 0, .int .i64 (-1), .int .i64 (-1), .int .i64 (-10), .int .i64 (-10), .int .i64 0, .int .i64 (-1), .int .i64 0, .int .i64 (-10), .int .i64 0, .int .i64 0, .int .i64 (-1), .int .i64 1, .int .i64 (-10), .int .i64 10, .int .i64 0, .int .i64 (-1), .int .i64 2, .int .i64 (-10), .int .i64 20, .int .i64 0, .int .i64 0, .int .i64 (-2), .int .i64 0, .int .i64 (-20), .int .i64 0, .int .i64 0, .int .i64 (-1), .int .i64 0, .int .i64 (-10), .int .i64 0, .int .i64 0, .int .i64 0, .int .i64 0, .int .i64 0, .int .i64 0, .int .i64 0, .int .i64 1, .int .i64 0, .int .i64 10, .int .i64 0, .int .i64 0, .int .i64 2, .int .i64 0, .int .i64 20, .int .i64 0, .int .i64 1, .int .i64 (-2), .int .i64 10, .int .i64 (-20), .int .i64 0, .int .i64 1, .int .i64 (-1), .int .i64 10, .int .i64 (-10), .int .i64 0, .int .i64 1, .int .i64 0, .int .i64 10, .int .i64 0, .int .i64 0, .int .i64 1, .int .i64 1, .int .i64 10, .int .i64 10, .int .i64 0, .int .i64 1, .int .i64 2, .int .i64 10, .int .i64 20, .int .i64 0, .int .i64 2, .int .i64 (-2), .int .i64 20, .int .i64 (-20), .int .i64 0, .int .i64 2, .int .i64 (-1), .int .i64 20, .int .i64 (-10), .int .i64 0, .int .i64 2, .int .i64 0, .int .i64 20, .int .i64 0, .int .i64 0, .int .i64 2, .int .i64 1, .int .i64 20, .int .i64 10, .int .i64 0, .int .i64 2, .int .i64 2, .int .i64 20, .int .i64 20]], .int .i64 8)]
theorem t3_112_4_ok : chkT C2 112 t3_112_4 = true := by kernel_rfl
def t3_112_5 : List (List V × V) := [([.agg [.int .i64 0, .int .i64 0], .agg [.int .i64 (-10), .int .i64 10], .list 25 5 [.int .i64 0, .int .i64 (-2), .int .i64 (-2), .int .i64 (-20), .int .i64 (-20), .int .i64 0, .int .i64 (-2), .int .i64 (-1), .int .i64 (-20), .int .i64 (-10), .int .i64 0, .int .i64 (-2), .int .i64 0, .int .i64 (-20), .int .i64 0, .int .i64 0, .int .i64 (-2), .int .i64 1, .int .i64 (-20), .int .i64 10, .int .i64 0, .int .i64 (-2), .int .i64 2, .int .i64 (-20), .int .i64 20, .int .i64 0, .int .i64 (-1), .int .i64 (-2), .int .i64 (-10), .int .i64 (-20), .int .i64 0, .int .i64 (-1), .int .i64 (-1), .int .i64 (-10), .int .i64 (-10), .int .i64 0, .int .i64 (-1), .int .i64 0, .int .i64 (-10), .int .i64 0, .int .i64 0, .int .i64 (-1), .int .i64 1, .int .i64 (-10), .int .i64 10, .int .i64 0, .int .i64 (-1), .int .i64 2, .int .i64 (-10), .int .i64 20, .int .i64 0, .int .i64 0, .int .i64 (-2), .int .i64 0, .int .i64 (-20), .int .i64 0, .int .i64 0, .int .i64 (-1), .int .i64 0, .int .i64 (-10), .int .i64 0, .int .i64 0, .int .i64 0, .int .i64 0, .int .i64 0, .int .i64 0, .int .i64 0, .int .i64 1, .int .i64 0, .int .i64 10, .int .i64 0, .int .i64 0, .int .i64 2, .int .i64 0, .int .i64 20, .int .i64 0, .int .i64 1, .int .i64 (-2), .int .i64 10, .int .i64 (-20), .int .i64 0, .int .i64 1, .int .i64 (-1), .int .i64 10, .int .i64 (-10), .int .i64 0, .int .i64 1, .int .i64 0, .int .i64 10, .int .i64 0, .int .i64 0, .int .i64 1, .int .i64 1, .int .i64 10, .int .i64 10, .int .i64 0, .int .i64 1, .int .i64 2, .int .i64 10, .int .i64 20, .int .i64 0, .int .i64 2, .int .i64 (-2), .int .i64 20, .int .i64 (-20), .int .i64 0, .int .i64 2, .int .i64 (-1), .int .i64 20, .int .i64 (-10), .int .i64 0, .int .i64 2, .int .i64 0, .int .i64 20, .int .i64 0, .int .i64 0, .int .i64 2, .int .i64 1, .int .i64 20, .int .i64 10, .int .i64 0, .int .i64 2, .int .i64 2, .int .i64 20, .int .i64 20]], .int .i64 7)]
theorem t3_112_5_ok : chkT C2 112 t3_112_5 = true := by kernel_rfl
def t3_111_0 : List (List V × V) := [([.agg [.int .i64 0, .int .i64 0], .list 25 5 [.int .i64 0, .int .i64 (-2), .int .i64 (-2), .int .i64 (-20), .int .i64 (-20), .int .i64 0, .int .i64 (-2), .int .i64 (-1), .int .i64 (-20), .int .i64 (-10), .int .i64 0, .int .i64 (-2), .int .i64 0, .int .i64 (-20), .int .i64 0, .int .i64 0, .int .i64 (-2), .int .i64 1, .int .i64 (-20), .int .i64 10, .int .i64 0, .int .i64 (-2), .int .i64 2, .int .i64 (-20), .int .i64 20, .int .i64 0, .int .i64 (-1), .int .i64 (-2), .int .i64 (-10), .int .i64 (-20), .int .i64 0, .int .i64 (-1), .int .i64 (-1), .int .i64 (-10), .int .i64 (-10), .int .i64 0, .int .i64 (-1), .int .i64 0, .int .i64 (-10), .int .i64 0, .int .i64 0, .int .i64 (-1), .int .i64 1, .int .i64 (-10), .int .i64 10, .int .i64 0, .int .i64 (-1), .int .i64 2, .int .i64 (-10), .int .i64 20, .int .i64 0, .int .i64 0, .int .i64 (-2), .int .i64 0, .int .i64 (-20), .int .i64 0, .int .i64 0, .int .i64 (-1), .int .i64 0, .int .i64 (-10), .int .i64 0, .int .i64 0, .int .i64 0, .int .i64 0, .int .i64 0, .int .i64 0, .int .i64 0, .int .i64 1, .int .i64 0, .int .i64 10, .int .i64 0, .int .i64 0, .int .i64 2, .int .i64 0, .int .i64 20, .int .i64 0, .int .i64 1, .int .i64 (-2), .int .i64 10, .int .i64 (-20), .int .i64 0, .int .i64 1, .int .i64 (-1), .int .i64 10, .int .i64 (-10), .int .i64 0, .int .i64 1, .int .i64 0, .int .i64 10, .int .i64 0, .int .i64 0, .int .i64 1, .int .i64 1, .int .i64 10, .int .i64 10, .int .i64 0, .int .i64 1, .int .i64 2, .int .i64 10, .int .i64 20, .int .i64 0, .int .i64 2, .int .i64 (-2), .int .i64 20, .int .i64 (-20), .int .i64 0, .int .i64 2, .int .i64 (-1), .int .i64 20, .int .i64 (-10), .int .i64 0, .int .i64 2, .int .i64 0, .int .i64 20, .int .i64 0, .int .i64 0, .int .i64 2, .int .i64 1, .int .i64 20, .int .i64 10, .int .i64 0, .int .i64 2, .int .i64 2, .int .i64 20, .int .i64 20]], .int .i64 7)]
theorem t3_111_0_ok : chkT C2 111 t3_111_0 = true := by kernel_rfl
def t3_71_0 : List (List V × V) := [([.list 1 3 [.int .i64 0, .int .i64 0, .int .i64 0], .list 2 9 [.int .i64 0, .int .i64 0, .int .i64 0, .int .i64 0, .int .i64 0, .int .i64 (-1), .int .i64 0, .int .i64 0, .int .i64 (-1), .int .i64 0, .int .i64 0, .int .i64 0, .int .i64 0, .int .i64 0, .int .i64 (-1), .int .i64 1, .int .i64 (-1), .int .i64 0], .int .i64 10, .int .i64 0], .tuple [.list 6 6 [.bool true, .list 1 1 [.int .u32 5], .list 1 1 [.int .u32 1], .bool true, .list 1 1 [.int .u32 5], .list 1 1 [.int .u32 1], .bool false, .list 1 1 [.int .u32 5], .list 1 1 [.int .u32 1], .bool true, .list 1 1 [.int .u32 5], .list 1 1 [.int .u32 1], .bool false, .list 1 1 [.int .u32 5], .list 1 1 [.int .u32 1], .bool true, .list 1 1 [.int .u32 5], .list 1 1 [.int .u32 1], .bool false, .list 1 1 [.int .u32 5], .list 1 1 [.int .u32 1], .bool false, .list 1 1 [.int .u32 5], .list 1 1 [.int .u32 1], .bool true, .list 1 1 [.int .u32 5], .list 1 1 [.int .u32 1], .bool false, .list 1 1 [.int .u32 5], .list 1 1 [.int .u32 1], .bool true, .list 1 1 [.int .u32 5], .list 1 1 [.int .u32 1], .bool false, .list 1 1 [.int .u32 5], .list 1 1 [.int .u32 1]], .bool true])]
theorem t3_71_0_ok : chkT C2 71 t3_71_0 = true := by kernel_rfl
def t3_28_0 : List (List V × V) := [([.list 6 6 [.bool true, .list 1 1 [.int .u32 5], .list 1 1 [.int .u32 1], .bool true, .list 1 1 [.int .u32 5], .list 1 1 [.int .u32 1], .bool false, .list 1 1 [.int .u32 5], .list 1 1 [.int .u32 1], .bool true, .list 1 1 [.int .u32 5], .list 1 1 [.int .u32 1], .bool false, .list 1 1 [.int .u32 5], .list 1 1 [.int .u32 1], .bool true, .list 1 1 [.int .u32 5], .list 1 1 [.int .u32 1], .bool false, .list 1 1 [.int .u32 5], .list 1 1 [.int .u32 1], .bool false, .list 1 1 [.int .u32 5], .list 1 1 [.int .u32 1], .bool true, .list 1 1 [.int .u32 5], .list 1 1 [.int .u32 1], .bool false, .list 1 1 [.int .u32 5], .list 1 1 [.int .u32 1], .bool true, .list 1 1 [.int .u32 5], .list 1 1 [.int .u32 1], .bool false, .list 1 1 [.int .u32 5], .list 1 1 [.int .u32 1]], .agg [.bool false, .list 0 0 [], .list 1 1 [.int .u32 1], .bool false, .list 0 0 [], .list 1 1 [.int .u32 1]]], .agg [.bool false, .list 1 1 [.int .u32 20000], .list 1 1 [.int .u32 1]])]
theorem t3_28_0_ok : chkT C2 28 t3_28_0 = true := by kernel_rfl
noncomputable def extList3 : List (Nat × (List V → Heap → Option R)) := ((112 : Nat), (extP (t3_112_0 ++ (t3_112_1 ++ (t3_112_2 ++ (t3_112_3 ++ (t3_112_4 ++ t3_112_5))))) : List V → Heap → Option R)) ::
 ((111 : Nat), (extP t3_111_0 : List V → Heap → Option R)) ::
 ((71 : Nat), (extP t3_71_0 : List V → Heap → Option R)) ::
 ((28 : Nat), (extP t3_28_0 : List V → Heap → Option R)) ::
 extList2
noncomputable def C3 : Cfg := { C with ext := fun f => extList3.lookup f }
theorem exts3 : ∀ p ∈ extList3, ExtSound C.P p.1 p.2 ∧ ExtFrame p.2 := by
  intro p hp
  simp only [extList3, List.mem_cons] at hp
  rcases hp with rfl | rfl | rfl | rfl | hp
  · exact ⟨extPure (C0 := C2) ok2 (app_is (chkT_is t3_112_0_ok) (app_is (chkT_is t3_112_1_ok) (app_is (chkT_is t3_112_2_ok) (app_is (chkT_is t3_112_3_ok) (app_is (chkT_is t3_112_4_ok) (chkT_is t3_112_5_ok)))))), extP_frame _⟩
  · exact ⟨extPure (C0 := C2) ok2 (chkT_is t3_111_0_ok), extP_frame _⟩
  · exact ⟨extPure (C0 := C2) ok2 (chkT_is t3_71_0_ok), extP_frame _⟩
  · exact ⟨extPure (C0 := C2) ok2 (chkT_is t3_28_0_ok), extP_frame _⟩
  · exact exts2 p hp
theorem ok3 : C3.Ok := { mixed := mixed, fns := fns, ext := fun f g h => exts3 (f, g) (look_mem (l := extList3) (show extList3.lookup f = some g from h)) }
def t4_89_0 : List (List V × V) := [([.list 1 2 [.int .i64 0, .int .i64 0], .int .i64 10, .int .i64 0], .list 6 9 [.int .i64 0, .int .i64 0, .int .i64 0, .int .i64 0, .int .i64 0, .int .i64 (-1), .int .i64 0, .int .i64 0, .int .i64 (-1), .int .i64 0, .int .i64 0, .int .i64 0, .int .i64 0, .int .i64 0, .int .i64 0, .int .i64 (-1), .int .i64 1, .int .i64 (-1), .int .i64 0, .int .i64 0, .int .i64 0, .int .i64 0, .int .i64 0, .int .i64 1, .int .i64 (-1), .int .i64 1, .int .i64 0, .int .i64 0, .int .i64 0, .int .i64 0, .int .i64 0, .int .i64 0, .int .i64 1, .int .i64 0, .int .i64 0, .int .i64 1, .int .i64 0, .int .i64 0, .int .i64 0, .int .i64 0, .int .i64 0, .int .i64 0, .int .i64 1, .int .i64 (-1), .int .i64 1, .int .i64 0, .int .i64 0, .int .i64 0, .int .i64 0, .int .i64 0, .int .i64 (-1), .int .i64 1, .int .i64 (-1), .int .i64 0])]
theorem t4_89_0_ok : chkT C3 89 t4_89_0 = true := by kernel_rfl
noncomputable def extList4 : List (Nat × (List V → Heap → Option R)) := ((89 : Nat), (extP t4_89_0 : List V → Heap → Option R)) ::
 extList3
noncomputable def C4 : Cfg := { C with ext := fun f => extList4.lookup f }
theorem exts4 : ∀ p ∈ extList4, ExtSound C.P p.1 p.2 ∧ ExtFrame p.2 := by
  intro p hp
  simp only [extList4, List.mem_cons] at hp
  rcases hp with rfl | hp
  · exact ⟨extPure (C0 := C3) ok3 (chkT_is t4_89_0_ok), extP_frame _⟩
  · exact exts3 p hp
theorem ok4 : C4.Ok := { mixed := mixed, fns := fns, ext := fun f g h => exts4 (f, g) (look_mem (l := extList4) (show extList4.lookup f = some g from h)) }
end Go.AM.L
end
section
set_option linter.unusedVariables false
set_option linter.unusedSimpArgs false
set_option maxRecDepth 1000000
namespace Go.AM.L
theorem root_ok : chkRun (callA C4 300 13 [] ⟨0, .nil⟩) (.bool true) = true := by kernel_rfl
theorem root_ext : ExtSound C.P 13 (extC (.bool true)) := by
  obtain ⟨n, H1, h⟩ := chkRun_is root_ok
  exact extClosed (C0 := C4) ok4 h rfl
end Go.AM.L
end
section
set_option linter.unusedVariables false
set_option linter.unusedSimpArgs false
set_option maxRecDepth 1000000
namespace Go.AM.N
theorem fns1 : tabList.all (fun p => okFun P p.1) = true := by kernel_rfl
theorem fns : ∀ f tab, C.tabs f = some tab → okFun C.P f = true := fun f tab h => List.all_eq_true.1 fns1 (f, tab) (look_mem h)
set_option maxHeartbeats 8000000 in
theorem exts : ∀ p ∈ extList, ExtSound C.P p.1 p.2 ∧ ExtFrame p.2 := by
  intro p hp
  simp only [extList, List.mem_cons, List.not_mem_nil, or_false] at hp
  rcases hp with rfl | rfl | rfl | rfl | rfl | rfl | rfl | rfl | rfl | rfl | rfl | rfl | rfl | rfl | rfl | rfl | rfl | rfl | rfl | rfl | rfl | rfl | rfl | rfl | rfl | rfl | rfl | rfl | rfl | rfl | rfl
  · exact ⟨Go.AM.L.root_ext, extC_frame _⟩
  · exact ⟨xs_r5_Sub, extF_frame _⟩
  · exact ⟨xs_r5_Mul, extF_frame _⟩
  · exact ⟨xs_r5_Long, extF_frame _⟩
  · exact ⟨xs_r5_Add, extF_frame _⟩
  · exact ⟨xs_r5_Cmp, extF_frame _⟩
  · exact ⟨xs_r5_Of, extF_frame _⟩
  · exact ⟨xs_r5_Low, extF_frame _⟩
  · exact ⟨xs_r5_Neg, extF_frame _⟩
  · exact ⟨xs_r4_Mul, extF_frame _⟩
  · exact ⟨xs_r4_Long, extF_frame _⟩
  · exact ⟨xs_r4_Add, extF_frame _⟩
  · exact ⟨xs_r4_Cmp, extF_frame _⟩
  · exact ⟨xs_r4_Of, extF_frame _⟩
  · exact ⟨xs_r4_Neg, extF_frame _⟩
  · exact ⟨xs_r4_Sub, extF_frame _⟩
  · exact ⟨xs_whole_Of, extF_frame _⟩
  · exact ⟨xs_rat_norm, extF_frame _⟩
  · exact ⟨xs_rat_Mul, extF_frame _⟩
  · exact ⟨xs_r3_Show, extF_frame _⟩
  · exact ⟨xs_rat_lowest, extF_frame _⟩
  · exact ⟨xs_whole_Add, extF_frame _⟩
  · exact ⟨xs_nat_Mul, extF_frame _⟩
  · exact ⟨xs_whole_Mul, extF_frame _⟩
  · exact ⟨xs_nat_Trim, extF_frame _⟩
  · exact ⟨xs_whole_Norm, extF_frame _⟩
  · exact ⟨xs_whole_Neg, extF_frame _⟩
  · exact ⟨xs_rat_Make, extF_frame _⟩
  · exact ⟨xs_whole_Sign, extF_frame _⟩
  · exact ⟨xs_sub64 (Go.Proofs.Tryz.func186) (by kernel_rfl) (by kernel_rfl) (by kernel_rfl) (by kernel_rfl), extSub64_frame⟩
  · exact ⟨xs_add64 (Go.Proofs.Tryz.func187) (by kernel_rfl) (by kernel_rfl) (by kernel_rfl) (by kernel_rfl), extAdd64_frame⟩
theorem mixed : C.P.follows .mixedOrders = true := (show P.follows .mixedOrders = true from seat_mixed)
theorem ext_mem {f : Nat} {g : List V → Heap → Option R} (h : C.ext f = some g) : (f, g) ∈ extList := look_mem (l := extList) (show extList.lookup f = some g from h)
theorem ok : C.Ok := { mixed := mixed, fns := fns, ext := fun f g h => exts (f, g) (ext_mem h) }
end Go.AM.N
end
