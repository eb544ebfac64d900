/- Merged by program from: AmDraw AmDraw2 AmDraw3 AmFz AmCall LoB AmArg AmOut AmOut2 AmBits AmUns AmStx AmFro LoC LoQ0 LoQ1 LoQ. -/
import Derived.LoopN
import Derived.RangeFuncNested
import Derived.Test.YtjgebllpigiecaaGreatDoorProg
import Derived.Carry
import Derived.Laws.Externs
import Derived.Lib.MakeNoZero
import Derived.Lib.Builder
import Derived.Lib.Bytealg
import Derived.Test.YtjgebllpigiecaaGreatDoorX2
section
set_option linter.unusedVariables false
set_option linter.unusedSimpArgs false
set_option linter.unusedSimpArgs false
namespace Go.AM
open Go.RowKit (Below)
mutual
theorem V.beq_eq : ∀ {u v : V}, V.beq u v = true → u = v
  | .bool a, v, h => by cases v <;> simp [V.beq] at h; subst h; rfl
  | .int j a, v, h => by cases v <;> simp [V.beq] at h; obtain ⟨rfl, rfl⟩ := h; rfl
  | .str a, v, h => by cases v <;> simp [V.beq] at h; subst h; rfl
  | .ptr a, v, h => by cases v <;> simp [V.beq] at h; subst h; rfl
  | .slice s, v, h => by
    cases v <;> simp [V.beq] at h
    rename_i u
    obtain ⟨s1, s2, s3, s4⟩ := s
    obtain ⟨u1, u2, u3, u4⟩ := u
    simp at h
    obtain ⟨⟨⟨rfl, rfl⟩, rfl⟩, rfl⟩ := h
    rfl
  | .map a, v, h => by cases v <;> simp [V.beq] at h; subst h; rfl
  | .nilFunc, v, h => by cases v <;> simp [V.beq] at h; rfl
  | .nilIface, v, h => by cases v <;> simp [V.beq] at h; rfl
  | .iface t x, v, h => by
    cases v <;> simp [V.beq] at h
    rw [h.1, V.beq_eq h.2]
  | .agg a, v, h => by cases v <;> simp [V.beq] at h; rw [V.beqs_eq h]
  | .tuple a, v, h => by cases v <;> simp [V.beq] at h; rw [V.beqs_eq h]
  | .func f a b, v, h => by
    cases v <;> simp [V.beq] at h
    rw [h.1.1, V.beqs_eq h.1.2, V.beqs_eq h.2]
  | .dead, v, h => by cases v <;> simp [V.beq] at h
  | .list n z a, v, h => by
    cases v <;> simp [V.beq] at h
    rw [h.1.1, h.1.2, V.beqs_eq h.2]
  | .lptr a, v, h => by cases v <;> simp [V.beq] at h; rw [V.beqs_eq h]
theorem V.beqs_eq : ∀ {us vs : List V}, V.beqs us vs = true → us = vs
  | [], [], _ => rfl
  | [], _ :: _, h => by simp [V.beqs] at h
  | _ :: _, [], h => by simp [V.beqs] at h
  | u :: us, v :: vs, h => by
    simp [V.beqs] at h
    rw [V.beq_eq h.1, V.beqs_eq h.2]
end
theorem chk_eq {r : Option V} {v : V} (h : chk r v = some ()) : r = some v := by
  cases r with
  | none => simp [chk] at h
  | some u =>
    simp only [chk, Option.bind_some] at h
    split at h
    · rename_i hb; rw [V.beq_eq hb]
    · simp at h
structure DS where
  env : Env
  Hk : Heap
  hist : List Heap
  H : Heap
def DStepR (P : Program) (call : FuncId → List V → Heap → Option R) (ops : Array Oper) (base : Nat) (σ σ' : DS) (s : DStep) : Prop :=
  ∃ (o : Oper) (env' : Env) (b : Bool) (v : V), ops[s.i]? = some o ∧ (∀ t, lk t env' = lk t σ.env) ∧ (o.guard = none → b = true) ∧
    (∀ j want, o.guard = some (j, want) → ∃ t, (ops[j]?).bind (·.dst) = some t ∧ GV (lk t σ.env) want b) ∧
    (∀ t, lk t σ'.env = lk t (putV o.dst v σ.env)) ∧
    (s.kd = .eff → σ'.Hk = σ'.H ∧ σ'.hist = σ.Hk :: σ.hist) ∧ (s.kd ≠ .eff → σ'.Hk = σ.Hk ∧ σ'.hist = σ.hist) ∧
    (b = false → v = .tuple [] ∧ σ'.H = σ.H) ∧
    (b = true → (s.kd = .pure → valA P env' o.op ⟨0, .nil⟩ = some v ∧ σ'.H = σ.H) ∧
      (s.kd = .read → valA P env' o.op σ.Hk = some v ∧ (∀ H ∈ σ.hist.take s.past, valA P env' o.op H = some v) ∧ σ'.H = σ.H) ∧
      (s.kd = .make → ∃ obj f, makeA P env' o.op = some (obj, f) ∧ v = f (base + s.r) ∧ σ'.H = σ.H.set (base + s.r) obj) ∧
      (s.kd = .eff → ∀ k' : V → Heap → Option R, stepA P call none env' o.op σ.H k' = k' v σ'.H))
section
variable {P : Program} {B n0 : Nat} {w0 w w' w'' : World} {μ μ' μ'' ν : Mu} {H H' H'' : Heap}
theorem lk_putV {d : Option Tmp} {v : V} {e e' : Env} (h : ∀ t, lk t e = lk t e') (t : Nat) : lk t (putV d v e) = lk t (putV d v e') := by
  cases d with
  | none => exact h t
  | some d => simp only [putV, lk]; split; rfl; exact h t
theorem trace {call : FuncId → List V → Heap → Option R} (hc : FrameCall call) {ops : Array Oper} {base : Nat} {k : Env → Heap → Option R} {r : R} :
    ∀ (l : List DStep) (σ : DS), (∀ (p : Nat) (s : DStep), l[p]? = some s → ∃ o : Oper, ops[s.i]? = some o ∧ s.kd = kind P o.op) →
      runD P call ops (fun j => (ops[j]?).bind (·.dst)) base l σ.env σ.Hk σ.hist σ.H k = some r →
      ∃ σs : Nat → DS, σs 0 = σ ∧ (∀ (p : Nat) (s : DStep), l[p]? = some s → DStepR P call ops base (σs p) (σs (p + 1)) s) ∧ k (σs l.length).env (σs l.length).H = some r
  | [], σ, _, h => ⟨fun _ => σ, rfl, by simp, h⟩
  | s :: l, σ, hop, h => by
    have one : ∃ σ' : DS, DStepR P call ops base σ σ' s ∧ runD P call ops (fun j => (ops[j]?).bind (·.dst)) base l σ'.env σ'.Hk σ'.hist σ'.H k = some r := by
      unfold runD at h
      obtain ⟨o', ho', hkd'⟩ := hop 0 s rfl
      rw [ho'] at h
      simp only at h
      obtain ⟨env', b, _, h2, h3, h4, h5⟩ := guarded_spec h
      cases b with
      | false =>
        simp only [Bool.false_eq_true, if_false] at h2
        by_cases hk : s.kd = .eff
        · rw [hk] at h2
          exact ⟨⟨putN o'.dst env', σ.H, σ.Hk :: σ.hist, σ.H⟩, ⟨o', env', false, .tuple [], ho', h3, fun e => (h4 e).1, h5, fun t => (lk_putN t).trans (lk_putV h3 t), fun _ => ⟨rfl, rfl⟩, fun e => absurd hk e, fun _ => ⟨rfl, rfl⟩, by simp⟩, h2⟩
        · have h2' : runD P call ops (fun j => (ops[j]?).bind (·.dst)) base l (putN o'.dst env') σ.Hk σ.hist σ.H k = some r := by
            revert h2 hk
            cases s.kd <;> simp
          exact ⟨⟨putN o'.dst env', σ.Hk, σ.hist, σ.H⟩, ⟨o', env', false, .tuple [], ho', h3, fun e => (h4 e).1, h5, fun t => (lk_putN t).trans (lk_putV h3 t), fun e => absurd e hk, fun _ => ⟨rfl, rfl⟩, fun _ => ⟨rfl, rfl⟩, by simp⟩, h2'⟩
      | true =>
        simp only [if_true] at h2
        cases hkd : s.kd with
        | pure =>
          simp only [hkd] at h2
          cases hv : valA P env' o'.op ⟨0, .nil⟩ with
          | none => rw [hv] at h2; simp at h2
          | some v =>
            rw [hv] at h2
            exact ⟨⟨putV o'.dst v env', σ.Hk, σ.hist, σ.H⟩, ⟨o', env', true, v, ho', h3, fun _ => rfl, h5, lk_putV h3, by simp [hkd], fun _ => ⟨rfl, rfl⟩, by simp, by simp [hkd, hv]⟩, h2⟩
        | read =>
          simp only [hkd] at h2
          cases hv : valA P env' o'.op σ.Hk with
          | none => rw [hv] at h2; simp at h2
          | some v =>
            rw [hv] at h2
            obtain ⟨k1, k2⟩ := pastK_spec h2
            exact ⟨⟨putV o'.dst v env', σ.Hk, σ.hist, σ.H⟩, ⟨o', env', true, v, ho', h3, fun _ => rfl, h5, lk_putV h3, by simp [hkd], fun _ => ⟨rfl, rfl⟩, by simp,
              fun _ => ⟨by simp [hkd], fun _ => ⟨hv, fun H hm => chk_eq (k2 H hm), rfl⟩, by simp [hkd], by simp [hkd]⟩⟩, k1⟩
        | make =>
          simp only [hkd] at h2
          obtain ⟨obj, f, m1, m2⟩ := stepA_make (by rw [← hkd', hkd]) h2
          exact ⟨⟨putV o'.dst (f (base + s.r)) env', σ.Hk, σ.hist, σ.H.set (base + s.r) obj⟩, ⟨o', env', true, _, ho', h3, fun _ => rfl, h5, lk_putV h3, by simp [hkd], fun _ => ⟨rfl, rfl⟩, by simp,
            fun _ => ⟨by simp [hkd], by simp [hkd], fun _ => ⟨obj, f, m1, rfl, rfl⟩, by simp [hkd]⟩⟩, m2⟩
        | eff =>
          simp only [hkd] at h2
          have hE : Ext (fun _ => none) σ.H σ.H := ⟨rfl, by simp, fun _ _ => rfl⟩
          obtain ⟨v, H1, G1, g1, g2, g3⟩ := stepA_frame (P := P) hE hc (r := none) (by simp) h2
          rw [g3] at h2
          exact ⟨⟨putV o'.dst v env', G1, σ.Hk :: σ.hist, G1⟩, ⟨o', env', true, v, ho', h3, fun _ => rfl, h5, lk_putV h3, fun _ => ⟨rfl, rfl⟩, by simp [hkd], by simp,
            fun _ => ⟨by simp [hkd], by simp [hkd], by simp [hkd], fun _ => g3⟩⟩, h2⟩
    obtain ⟨σ', hs, hr⟩ := one
    obtain ⟨σs, t1, t2, t3⟩ := trace hc l σ' (fun p s hp => hop (p + 1) s (by simpa using hp)) hr
    refine ⟨fun p => match p with | 0 => σ | p + 1 => σs p, rfl, ?_, t3⟩
    intro p u hp
    cases p with
    | zero => simp at hp; subst hp; simp only; rw [t1]; exact hs
    | succ p => simp at hp; exact t2 p u hp
structure Tr (P : Program) (call : FuncId → List V → Heap → Option R) (ops : Array Oper) (base m : Nat) (l : List DStep) (σs : Nat → DS) : Prop where
  ok : PlanOk P ops m l
  fr : FrameCall call
  step : ∀ (p : Nat) (s : DStep), l[p]? = some s → DStepR P call ops base (σs p) (σs (p + 1)) s
  base0 : base + m = (σs 0).H.n
  none0 : ∀ i, base ≤ i → (σs 0).H.get i = .none
  hk0 : (σs 0).Hk = (σs 0).H
variable {call : FuncId → List V → Heap → Option R} {ops : Array Oper} {base m : Nat} {l : List DStep} {σs : Nat → DS}
theorem cntE_succ {p : Nat} {s : DStep} (h : l[p]? = some s) : cntE l (p + 1) = cntE l p + if s.kd = .eff then 1 else 0 := by
  unfold cntE
  rw [List.take_add_one, h]
  simp [List.countP_append, List.countP_cons]
theorem cntE_mono {p q : Nat} (h : q ≤ p) : cntE l q ≤ cntE l p := by
  unfold cntE
  have : l.take q = (l.take p).take q := by rw [List.take_take, Nat.min_eq_left h]
  rw [this]
  exact List.Sublist.countP_le (List.take_sublist _ _)
theorem Tr.ks (T : Tr P call ops base m l σs) {q : Nat} : ∀ (d : Nat), q + d ≤ l.length → ∃ pre, (σs (q + d)).Hk :: (σs (q + d)).hist = pre ++ ((σs q).Hk :: (σs q).hist) ∧ pre.length = cntE l (q + d) - cntE l q
  | 0, _ => ⟨[], rfl, by simp⟩
  | d + 1, h => by
    obtain ⟨pre, h1, h2⟩ := T.ks (q := q) d (by omega)
    obtain ⟨s, hs⟩ := getElem?_isSome_of_lt (show q + d < l.length by omega)
    obtain ⟨o, env', b, v, _, _, _, _, _, k1, k2, _⟩ := T.step _ _ hs
    have hm : cntE l q ≤ cntE l (q + d) := cntE_mono (by omega)
    rw [← Nat.add_assoc, cntE_succ hs]
    by_cases hk : s.kd = .eff
    · obtain ⟨e1, e2⟩ := k1 hk
      rw [if_pos hk, e2]
      refine ⟨(σs (q + d + 1)).Hk :: pre, ?_, by simp [h2]; omega⟩
      rw [List.cons_append, ← h1]
    · obtain ⟨e1, e2⟩ := k2 hk
      rw [if_neg hk, e1, e2]
      exact ⟨pre, h1, by simp [h2]⟩
theorem Tr.env (T : Tr P call ops base m l σs) {p t : Nat} : ∀ (d : Nat), p + d ≤ l.length → (∀ (q : Nat) (s : DStep) (o : Oper), p ≤ q → q < p + d → l[q]? = some s → ops[s.i]? = some o → o.dst ≠ some t) → lk t (σs (p + d)).env = lk t (σs p).env
  | 0, _, _ => rfl
  | d + 1, h, hn => by
    obtain ⟨s, hs⟩ := getElem?_isSome_of_lt (show p + d < l.length by omega)
    obtain ⟨o, env', b, v, ho, _, _, _, k, _⟩ := T.step _ _ hs
    rw [← Nat.add_assoc, k t]
    have := hn (p + d) s o (by omega) (by omega) hs ho
    have e : lk t (putV o.dst v (σs (p + d)).env) = lk t (σs (p + d)).env := by
      cases hd : o.dst with
      | none => rfl
      | some d' =>
        simp only [putV, lk]
        rw [if_neg]
        rintro rfl; exact this hd
    rw [e]
    exact T.env d (by omega) fun q s o h1 h2 => hn q s o h1 (by omega)
theorem Tr.val (T : Tr P call ops base m l σs) {p : Nat} {s : DStep} (hs : l[p]? = some s) {o : Oper} (ho : ops[s.i]? = some o) {t : Tmp} (ht : o.dst = some t) {v : V} (hv : ∀ t, lk t (σs (p + 1)).env = lk t (putV o.dst v (σs p).env)) :
    lk t (σs l.length).env = v := by
  have hp : p < l.length := (List.getElem?_eq_some_iff.1 hs).1
  have := T.env (p := p + 1) (t := t) (l.length - (p + 1)) (by omega) (by
    intro q u o' h1 h2 hu ho' hd
    have := T.ok.dst _ _ _ _ t ho ho' ht hd
    have := T.ok.inj _ _ _ _ hs hu this
    omega)
  rw [show p + 1 + (l.length - (p + 1)) = l.length by omega] at this
  rw [this, hv, ht]
  simp [putV, lk]
theorem Tr.looksE (T : Tr P call ops base m l σs) {p : Nat} {s : DStep} (hs : l[p]? = some s) {t : Tmp} {j : Nat} {oj : Oper} (hj : ops[j]? = some oj) (hd : oj.dst = some t) (hb : ((aheadOf ops).getD s.i 0).testBit j = true) : lk t (σs p).env = lk t (σs l.length).env := by
  have hp : p < l.length := (List.getElem?_eq_some_iff.1 hs).1
  have := T.env (p := p) (t := t) (l.length - p) (by omega) (by
    intro q u o' h1 h2 hu ho' hd'
    have e := T.ok.dst _ _ _ _ t ho' hj hd' hd
    have := T.ok.ord _ _ _ _ hs hu (by rw [e]; exact hb)
    omega)
  rw [show p + (l.length - p) = l.length by omega] at this
  exact this.symm
theorem Tr.looksS (T : Tr P call ops base m l σs) {p : Nat} {s : DStep} (hs : l[p]? = some s) {o : Oper} (ho : ops[s.i]? = some o) {t : Tmp} (ht : t ∈ o.looksAt ops) (hn : ∀ (j : Nat) (oj : Oper), ops[j]? = some oj → oj.dst = some t → ¬ ((aheadOf ops).getD s.i 0).testBit j = true) : lk t (σs p).env = lk t (σs 0).env := by
  have hp : p < l.length := (List.getElem?_eq_some_iff.1 hs).1
  have := T.env (p := 0) (t := t) p (by omega) (by
    intro q u o' h1 h2 hu ho' hd'
    rcases T.ok.wr _ _ _ _ t ho ho' hd' ht with h | h
    · exact hn _ _ ho' hd' h
    · have := T.ok.ord _ _ _ _ hu hs h
      omega)
  rw [Nat.zero_add] at this
  exact this
theorem Tr.fresh (T : Tr P call ops base m l σs) {p : Nat} {u : DStep} (hu : l[p]? = some u) (hk : u.kd = .make) : ∀ q, q ≤ p → (σs q).H.get (base + u.r) = .none ∧ base + u.r < (σs q).H.n
  | 0, _ => ⟨T.none0 _ (by omega), by rw [← T.base0]; have := T.ok.makeLt _ _ hu hk; omega⟩
  | q + 1, hq => by
    obtain ⟨i1, i2⟩ := T.fresh hu hk q (by omega)
    have hp : p < l.length := (List.getElem?_eq_some_iff.1 hu).1
    obtain ⟨s, hs⟩ := getElem?_isSome_of_lt (show q < l.length by omega)
    obtain ⟨o, env', b, v, ho, _, _, _, _, _, _, kf, kt⟩ := T.step _ _ hs
    cases b with
    | false => rw [(kf rfl).2]; exact ⟨i1, i2⟩
    | true =>
      obtain ⟨k1, k2, k3, k4⟩ := kt rfl
      cases hkd : s.kd with
      | pure => rw [(k1 hkd).2]; exact ⟨i1, i2⟩
      | read => rw [(k2 hkd).2.2]; exact ⟨i1, i2⟩
      | make =>
        obtain ⟨obj, f, _, _, e⟩ := k3 hkd
        rw [e, Heap.get_set]
        refine ⟨?_, i2⟩
        rw [if_neg]
        · exact i1
        · intro e
          have := T.ok.makeInj _ _ _ _ hu hs hk hkd (by omega)
          omega
      | eff =>
        have e := k4 hkd (fun v H => some (v, H))
        have hE : Ext (fun j => if j = base + u.r then some (.siter [] 0) else none) (σs q).H ((σs q).H.set (base + u.r) (.siter [] 0)) := by
          refine ⟨rfl, ?_, ?_⟩
          · intro j o hj
            split at hj
            · rename_i hj'; subst hj'
              simp at hj; subst hj
              exact ⟨i2, i1, by rw [Heap.get_set, if_pos rfl]⟩
            · simp at hj
          · intro j hj
            rw [Heap.get_set]
            split
            · rename_i hj'; simp [hj'] at hj
            · rfl
        obtain ⟨v1, H1, G1, g1, g2, _⟩ := stepA_frame (P := P) hE T.fr (r := Option.none) (by simp) e
        simp at g1
        obtain ⟨rfl, rfl⟩ := g1
        obtain ⟨x1, x2, _⟩ := g2.new (base + u.r) (.siter [] 0) (by simp)
        exact ⟨x2, x1⟩
theorem Tr.quiet (T : Tr P call ops base m l σs) {q : Nat} : ∀ (d : Nat), q + d ≤ l.length → (∀ (p : Nat) (s : DStep), q ≤ p → p < q + d → l[p]? = some s → s.kd ≠ .eff) →
    (σs (q + d)).H.n = (σs q).H.n ∧ (∀ id, (∀ (p : Nat) (s : DStep), q ≤ p → p < q + d → l[p]? = some s → s.kd = .make → base + s.r ≠ id) → (σs (q + d)).H.get id = (σs q).H.get id) ∧
      (∀ (p : Nat) (s : DStep), q ≤ p → p < q + d → l[p]? = some s → s.kd = .make → (σs (q + d)).H.get (base + s.r) = (σs (p + 1)).H.get (base + s.r))
  | 0, _, _ => ⟨rfl, fun _ _ => rfl, fun p s h1 h2 => by omega⟩
  | d + 1, h, hn => by
    obtain ⟨i1, i2, i3⟩ := T.quiet (q := q) d (by omega) fun p s h1 h2 => hn p s h1 (by omega)
    obtain ⟨s, hs⟩ := getElem?_isSome_of_lt (show q + d < l.length by omega)
    obtain ⟨o, env', b, v, ho, _, _, _, _, _, _, kf, kt⟩ := T.step _ _ hs
    have hne := hn _ _ (by omega) (by omega) hs
    have key : (σs (q + d + 1)).H.n = (σs (q + d)).H.n ∧ ∀ id, (s.kd = .make → base + s.r ≠ id) → (σs (q + d + 1)).H.get id = (σs (q + d)).H.get id := by
      cases b with
      | false => rw [(kf rfl).2]; exact ⟨rfl, fun _ _ => rfl⟩
      | true =>
        obtain ⟨k1, k2, k3, k4⟩ := kt rfl
        cases hkd : s.kd with
        | pure => rw [(k1 hkd).2]; exact ⟨rfl, fun _ _ => rfl⟩
        | read => rw [(k2 hkd).2.2]; exact ⟨rfl, fun _ _ => rfl⟩
        | make =>
          obtain ⟨obj, f, _, _, e⟩ := k3 hkd
          rw [e]
          refine ⟨rfl, fun id hid => ?_⟩
          rw [Heap.get_set, if_neg (Ne.symm (hid rfl))]
        | eff => exact absurd hkd hne
    rw [← Nat.add_assoc]
    refine ⟨key.1.trans i1, ?_, ?_⟩
    · intro id hid
      rw [key.2 id (fun hk => hid _ _ (by omega) (by omega) hs hk)]
      exact i2 id fun p s h1 h2 => hid p s h1 (by omega)
    · intro p u h1 h2 hu hk
      by_cases hp : p = q + d
      · subst hp; rfl
      · rw [key.2 _ (fun hk' e => by
          have := T.ok.makeInj _ _ _ _ hs hu hk' hk (by omega)
          omega)]
        exact i3 p u h1 (by omega) hu hk
end
end Go.AM
end
section
set_option linter.unusedVariables false
set_option linter.unusedSimpArgs false
set_option linter.unusedSimpArgs false
namespace Go.AM
open Go.RowKit (Below)
theorem makeA_congr {P : Program} {env env' : Env} {o : Op} (h : ∀ x ∈ o.operands, opd env x = opd env' x) : makeA P env o = makeA P env' o := by
  cases o with
  | box t x => simp only [makeA, Op.operands] at *; rw [h x (by simp)]
  | buildSlice t len ps => simp only [makeA, Op.operands] at *; rw [map_congr2 h]
  | makeSlice t l c => simp only [makeA, Op.operands] at *; rw [h l (by simp), h c (by simp)]
  | _ => rfl
theorem keep_mem {l : List Nat} {env : Env} {t : Nat} (h : t ∈ l) : lk t (keep (some l) env) = lk t env := by
  simp only [keep]
  induction l with
  | nil => simp at h
  | cons u l ih =>
    simp only [List.map_cons, lk]
    split
    · rename_i hu; rw [hu]
    · rename_i hu; exact ih ((List.mem_cons.1 h).resolve_left hu)
theorem keep_not {l : List Nat} {env : Env} {t : Nat} (h : t ∉ l) : lk t (keep (some l) env) = .dead := by
  simp only [keep]
  induction l with
  | nil => rfl
  | cons u l ih =>
    simp only [List.mem_cons, not_or] at h
    simp only [List.map_cons, lk]
    rw [if_neg h.1]; exact ih h.2
theorem Ext_of {H G : Heap} (hn : G.n = H.n) (h : ∀ id, G.get id = H.get id ∨ (id < H.n ∧ H.get id = .none)) :
    ∃ X : Nat → Option O, Ext X H G ∧ (∀ id, G.get id = H.get id → X id = none) ∧ (∀ id, G.get id ≠ H.get id → X id = some (G.get id)) := by
  classical
  refine ⟨fun id => if G.get id = H.get id then none else some (G.get id), ⟨hn, ?_, ?_⟩, ?_, ?_⟩
  · intro i o e
    split at e
    · simp at e
    · rename_i hne
      simp at e
      obtain ⟨h1, h2⟩ := (h i).resolve_left hne
      exact ⟨h1, h2, e⟩
  · intro i e
    split at e
    · assumption
    · simp at e
  · intro id e; exact if_pos e
  · intro id e; exact if_neg e
section
variable {P : Program} {B n0 N : Nat} {w0 w1 w w' w'' : World} {μ0 μ μ' μ'' ν : Mu} {H0 H H' H'' : Heap}
variable {call : FuncId → List V → Heap → Option R} {ops : Array Oper} {base m : Nat} {l : List DStep} {σs : Nat → DS} {dl : List Deferred} {ro : Option Nat}
theorem Rel.congr (hr : Rel B w0 μ H w) (hn : H'.n = H.n) (hg : ∀ id, H'.get id = H.get id) : Rel B w0 μ H' w :=
  ⟨hr.below, hr.size, fun i L e => by rw [hn, hg]; exact hr.dom i L e, fun i L e => by rw [hg]; exact hr.objs i L e, fun i j L M e1 e2 h l1 l2 l3 => by
    rw [hg] at l1 l2 l3; exact hr.sep i j L M e1 e2 h l1 l2 l3, fun i hi => by rw [hg]; exact hr.clean i (by omega), hr.frz, fun b vs hz j M e2 ho => hr.sepf b vs hz j M e2 (by rw [← hg]; exact ho), fun i L e ho => hr.flat i L e (by rw [← hg]; exact ho)⟩
theorem Step.congr (h : Step B w0 n0 μ H w μ' H' w') (hn : H''.n = H'.n) (hg : ∀ id, H''.get id = H'.get id) : Step B w0 n0 μ H w μ' H'' w' :=
  ⟨h.le, h.rel.congr hn hg, by rw [hn]; exact h.n, h.size, h.keeps, fun i L e => by rw [hg]; exact h.new i L e, h.znew⟩
theorem make_gives' (hr : Rel B w0 μ H w) {r : Option Nat} (hf : FreeId μ H n0 r) {env : Env} {ρ : Operand → Value} (hρ : ∀ x, VRel μ (opd env x) (ρ x)) {o : Oper} {obj : O} {f : Nat → V}
    (h : makeA P env o.op = some (obj, f)) :
    Gives P (fun x w' => ∃ μ', Step B w0 n0 μ H w μ' (newA r obj H).2 w' ∧ VRel μ' (f (newA r obj H).1) x ∧ ∀ j, j ≠ (newA r obj H).1 → μ' j = μ j) ((execOp ρ o).run P w) := by
  obtain ⟨cobj, sz, y, w', hrun, h1, h2, h3, h4, hν⟩ := make_run (P := P) hρ hr.size h
  rw [hrun]
  have hfree : μ (newA r obj H).1 = none := by
    cases r with
    | none => exact hr.fresh (Nat.le_refl _)
    | some k => exact hf.2.1
  have hle := Mu.le_put (L := ⟨w.heap.size, 0, sz⟩) hfree
  exact ⟨_, hr.alloc hf h1 h2 h3 h4 (hν _ hle).1, (hν _ hle).2 _ Mu.put_same, fun j hj => by simp only [Mu.put, if_neg hj]⟩
structure DInv (dl : List Deferred) (B n0 N : Nat) (w0 w1 : World) (μ0 : Mu) (H0 : Heap) (ops : Array Oper) (base m : Nat) (l : List DStep) (σs : Nat → DS) (D : Nat → Prop) (q : Nat) (μ : Mu) (HD : Heap) (a : Act) (w : World) : Prop where
  qle : q ≤ l.length
  done : ∀ (p : Nat) (s : DStep), p < q → l[p]? = some s → D s.i
  todo : ∀ (p : Nat) (s : DStep), q ≤ p → l[p]? = some s → s.kd = .eff → ¬ D s.i
  hk : (σs q).Hk = (σs q).H
  st : Step B w0 n0 μ0 H0 w1 μ HD w
  room : base + m ≤ HD.n
  n : HD.n = (σs q).H.n
  old : ∀ id, (∀ (p : Nat) (s : DStep), q ≤ p → l[p]? = some s → s.kd = .make → base + s.r ≠ id) → HD.get id = (σs q).H.get id
  made : ∀ (p : Nat) (s : DStep), q ≤ p → l[p]? = some s → s.kd = .make → D s.i → HD.get (base + s.r) = (σs (p + 1)).H.get (base + s.r)
  notyet : ∀ (p : Nat) (s : DStep), q ≤ p → l[p]? = some s → s.kd = .make → ¬ D s.i → HD.get (base + s.r) = .none
  free : ∀ (p : Nat) (s : DStep), l[p]? = some s → s.kd = .make → ¬ D s.i → μ (base + s.r) = none
  defers : a.defers = dl
  size : N ≤ a.tmps.size
  slot : ∀ t : Nat, (∀ (j : Nat) (o : Oper), ops[j]? = some o → o.dst = some t → D j) → VRel μ (lk t (σs l.length).env) (a.tmps.getD t undef)
  slot0 : ∀ t : Nat, (∀ (j : Nat) (o : Oper), ops[j]? = some o → o.dst = some t → ¬ D j) → VRel μ (lk t (σs 0).env) (a.tmps.getD t undef)
theorem DInv.step (T : Tr P call ops base m l σs) (hc : CallSound P call) (hn0 : n0 ≤ base) (hdst : ∀ o ∈ ops, okDst N o = true) {D : Nat → Prop} (hD : Closed ops D) (hlt : ∀ i, D i → i < ops.size) {q : Nat} {HD : Heap} {a : Act}
    (I : DInv dl B n0 N w0 w1 μ0 H0 ops base m l σs D q μ HD a w) {i : Nat} {o : Oper} (ho : ops[i]? = some o) (hi : ¬ D i) (he : ∀ e ∈ o.after, Region.binds .any e = true → D e.on) {Q : Exit → Act → World → Prop} :
    wpOpIn (FR ro) 0 P ops Q i (fun a' w' => ∃ q' μ' HD', DInv dl B n0 N w0 w1 μ0 H0 ops base m l σs (fun j => D j ∨ j = i) q' μ' HD' a' w') a w := by
  have hil : i < ops.size := (Array.getElem?_eq_some_iff.1 ho).1
  obtain ⟨p, s, hs, rfl⟩ := T.ok.all i hil
  have hpl : p < l.length := (List.getElem?_eq_some_iff.1 hs).1
  have hb := hD.before hlt _ _ ho he
  have hqp : q ≤ p := by
    rcases Nat.lt_or_ge p q with h | h
    · exact absurd (I.done p s h hs) hi
    · exact h
  have hinj : ∀ (p' : Nat) (u : DStep), l[p']? = some u → u.i = s.i → p' = p := fun p' u hu e => T.ok.inj _ _ _ _ hu hs e
  obtain ⟨o2, env', b, v, ho2, g1, g2, g3, g4, g5, g6, g7, g8⟩ := T.step p s hs
  rw [ho] at ho2; cases ho2
  let envD : Env := keep (some (o.looksAt ops)) (σs p).env
  have hslot : ∀ t, VRel μ (lk t envD) (a.tmps.getD t undef) := by
    intro t
    by_cases ht : t ∈ o.looksAt ops
    · rw [show lk t envD = lk t (σs p).env from keep_mem ht]
      by_cases hw : ∃ (j : Nat) (oj : Oper), ops[j]? = some oj ∧ oj.dst = some t ∧ ((aheadOf ops).getD s.i 0).testBit j = true
      · obtain ⟨j, oj, hj, hd, hbj⟩ := hw
        rw [T.looksE hs hj hd hbj]
        refine I.slot t fun j' oj' hj' hd' => ?_
        rw [T.ok.dst _ _ _ _ t hj' hj hd' hd]
        exact hb j hbj
      · have hnw : ∀ (j : Nat) (oj : Oper), ops[j]? = some oj → oj.dst = some t → ¬ ((aheadOf ops).getD s.i 0).testBit j = true := fun j oj hj hd h => hw ⟨j, oj, hj, hd, h⟩
        rw [T.looksS hs ho ht hnw]
        refine I.slot0 t fun j oj hj hd hDj => ?_
        rcases T.ok.wr _ _ _ _ t ho hj hd ht with h | h
        · exact hnw j oj hj hd h
        · exact hi (hD.back hlt hDj h)
    · rw [show lk t envD = .dead from keep_not ht]; simp [VRel]
  have hρ : ∀ x, VRel μ (opd envD x) (a.eval x) := opd_rel hslot
  have hlook : ∀ t ∈ o.looksAt ops, lk t env' = lk t envD := by
    intro t ht
    rw [g1, show lk t envD = lk t (σs p).env from keep_mem ht]
  have hopd : ∀ x ∈ o.op.operands, opd env' x = opd envD x := by
    intro x hx
    cases x with
    | tmp t => exact hlook t (List.mem_append_left _ (List.mem_filterMap.2 ⟨.tmp t, by simpa using hx, rfl⟩))
    | _ => rfl
  have hwant : Region.wanted o (yielded ops a.tmps) = b := by
    refine wanted_spec (ops := ops) (env := envD) hslot g2 ?_
    intro j want hg
    obtain ⟨t, t1, t2⟩ := g3 j want hg
    refine ⟨t, t1, ?_⟩
    rw [← hlook t (by simp [Oper.looksAt, hg, t1]), g1]; exact t2
  have hdo := okDst_spec (hdst o (Array.mem_of_getElem? ho))
  have hput : ∀ {μ' : Mu} {x : Value}, μ.le μ' → VRel μ' v x → (a.put o.dst x).defers = dl ∧ N ≤ (a.put o.dst x).tmps.size ∧
      (∀ t : Nat, (∀ (j : Nat) (oj : Oper), ops[j]? = some oj → oj.dst = some t → D j ∨ j = s.i) → VRel μ' (lk t (σs l.length).env) ((a.put o.dst x).tmps.getD t undef)) ∧
      ∀ t : Nat, (∀ (j : Nat) (oj : Oper), ops[j]? = some oj → oj.dst = some t → ¬ (D j ∨ j = s.i)) → VRel μ' (lk t (σs 0).env) ((a.put o.dst x).tmps.getD t undef) := by
    intro μ' x hle hx
    cases hd : o.dst with
    | none =>
      refine ⟨I.defers, I.size, fun t ht => VRel.mono hle _ _ (I.slot t fun j oj hj hdj => ?_), fun t ht => VRel.mono hle _ _ (I.slot0 t fun j oj hj hdj h => ht j oj hj hdj (.inl h))⟩
      rcases ht j oj hj hdj with h | rfl
      · exact h
      · rw [ho] at hj; cases hj; rw [hd] at hdj; cases hdj
    | some d =>
      have hdN : d < a.tmps.size := Nat.lt_of_lt_of_le (hdo d hd) I.size
      refine ⟨I.defers, by simp [Act.put, I.size], fun t ht => ?_, fun t ht => ?_⟩
      rotate_left
      · simp only [Act.put, getD_set hdN]
        split
        · rename_i htd; subst htd
          exact absurd (.inr rfl) (ht s.i o ho hd)
        · exact VRel.mono hle _ _ (I.slot0 t fun j oj hj hdj h => ht j oj hj hdj (.inl h))
      simp only [Act.put, getD_set hdN]
      split
      · rename_i htd; subst htd
        rw [T.val hs ho hd g4]; exact hx
      · rename_i htd
        refine VRel.mono hle _ _ (I.slot t fun j oj hj hdj => ?_)
        rcases ht j oj hj hdj with h | rfl
        · exact h
        · rw [ho] at hj; cases hj; rw [hd] at hdj; simp at hdj; exact absurd hdj.symm htd
  have hquiet : ∀ {μ' : Mu} {HD' : Heap} {x : Value} {w' : World}, s.kd ≠ .eff → Step B w0 (base + m) μ HD w μ' HD' w' ∨ Step B w0 n0 μ HD w μ' HD' w' → VRel μ' v x → HD'.n = HD.n →
      (∀ id, (s.kd = .make → base + s.r ≠ id) → HD'.get id = HD.get id) → (s.kd = .make → HD'.get (base + s.r) = (σs (p + 1)).H.get (base + s.r)) →
      (∀ (p' : Nat) (u : DStep), l[p']? = some u → u.kd = .make → ¬ (D u.i ∨ u.i = s.i) → μ' (base + u.r) = none) →
      ∃ q' μ' HD', DInv dl B n0 N w0 w1 μ0 H0 ops base m l σs (fun j => D j ∨ j = s.i) q' μ' HD' (a.put o.dst x) w' := by
    intro μ' HD' x w' hne hst hx hn hget hmk hfree
    have hst' : Step B w0 n0 μ HD w μ' HD' w' := hst.elim (fun h => h.mono (by omega)) id
    obtain ⟨p1, p2, p3, p4⟩ := hput hst'.le hx
    refine ⟨q, μ', HD', ⟨I.qle, fun p' u h1 h2 => .inl (I.done p' u h1 h2), ?_, I.hk, I.st.trans hst', by rw [hn]; exact I.room, hn.trans I.n, ?_, ?_, ?_, hfree, p1, p2, p3, p4⟩⟩
    · rintro p' u h1 h2 h3 (h | h)
      · exact I.todo p' u h1 h2 h3 h
      · have := hinj p' u h2 h; subst this
        rw [hs] at h2; cases h2; exact hne h3
    · intro id hid
      rw [hget id fun hk => hid p s hqp hs hk]
      exact I.old id hid
    · rintro p' u h1 h2 h3 (h | h)
      · rw [hget _ fun hk e => by
          have := T.ok.makeInj _ _ _ _ hs h2 hk h3 (by omega)
          subst this; rw [hs] at h2; cases h2; exact hi h]
        exact I.made p' u h1 h2 h3 h
      · have := hinj p' u h2 h; subst this
        rw [hs] at h2; cases h2; exact hmk h3
    · intro p' u h1 h2 h3 h
      rw [hget _ fun hk e => by
          have := T.ok.makeInj _ _ _ _ hs h2 hk h3 (by omega)
          subst this; rw [hs] at h2; cases h2; exact h (.inr rfl)]
      exact I.notyet p' u h1 h2 h3 fun h' => h (.inl h')
  have hahead : s.kd = .eff → ∀ (p' : Nat) (u : DStep), p' < p → l[p']? = some u → D u.i := fun hk p' u h1 h2 => hb _ (T.ok.eff _ _ _ _ h1 h2 hs hk)
  have heff0 : s.kd = .eff → HD.n = (σs p).H.n ∧ (∀ id, (∀ (p' : Nat) (u : DStep), p < p' → l[p']? = some u → u.kd = .make → base + u.r ≠ id) → HD.get id = (σs p).H.get id) ∧
      ∀ id, HD.get id = (σs p).H.get id ∨ (id < (σs p).H.n ∧ (σs p).H.get id = .none) := by
    intro hk
    have hnoeff : ∀ (p' : Nat) (u : DStep), q ≤ p' → p' < q + (p - q) → l[p']? = some u → u.kd ≠ .eff := fun p' u h1 h2 h3 h4 => I.todo p' u h1 h3 h4 (hahead hk p' u (by omega) h3)
    obtain ⟨q1, q2, q3⟩ := T.quiet (q := q) (p - q) (by omega) hnoeff
    rw [show q + (p - q) = p by omega] at q1 q2 q3
    have hold : ∀ id, (∀ (p' : Nat) (u : DStep), p < p' → l[p']? = some u → u.kd = .make → base + u.r ≠ id) → HD.get id = (σs p).H.get id := by
      intro id hid
      by_cases hex : ∃ (p' : Nat) (u : DStep), q ≤ p' ∧ p' < p ∧ l[p']? = some u ∧ u.kd = .make ∧ base + u.r = id
      · obtain ⟨p', u, h1, h2, h3, h4, rfl⟩ := hex
        rw [I.made p' u h1 h3 h4 (hahead hk p' u h2 h3), q3 p' u h1 h2 h3 h4]
      · have hnex : ∀ (p' : Nat) (u : DStep), q ≤ p' → l[p']? = some u → u.kd = .make → base + u.r ≠ id := by
          intro p' u h1 h2 h3 h4
          rcases Nat.lt_trichotomy p' p with h | h | h
          · exact hex ⟨p', u, h1, h, h2, h3, h4⟩
          · subst h; rw [hs] at h2; cases h2; rw [hk] at h3; cases h3
          · exact hid p' u h h2 h3 h4
        rw [I.old id hnex, q2 id fun p' u h1 h2 h3 h4 => hnex p' u h1 h3 h4]
    refine ⟨I.n.trans q1.symm, hold, ?_⟩
    intro id
    by_cases hex : ∃ (p' : Nat) (u : DStep), p < p' ∧ l[p']? = some u ∧ u.kd = .make ∧ base + u.r = id
    · obtain ⟨p', u, h1, h2, h3, rfl⟩ := hex
      obtain ⟨x1, x2⟩ := T.fresh h2 h3 p (by omega)
      exact .inr ⟨x2, x1⟩
    · exact .inl (hold id fun p' u h1 h2 h3 h4 => hex ⟨p', u, h1, h2, h3, h4⟩)
  have hdone : s.kd = .eff → ∀ {μ' : Mu} {HD' : Heap} {x : Value} {w' : World}, Step B w0 (base + m) μ HD w μ' HD' w' → VRel μ' v x → HD'.n = (σs (p + 1)).H.n →
      (∀ id, HD.get id = (σs p).H.get id → HD'.get id = (σs (p + 1)).H.get id) → (∀ id, HD.get id ≠ (σs p).H.get id → HD'.get id = HD.get id) →
      ∃ q' μ' HD', DInv dl B n0 N w0 w1 μ0 H0 ops base m l σs (fun j => D j ∨ j = s.i) q' μ' HD' (a.put o.dst x) w' := by
    intro hk μ' HD' x w' hst hx hn hget1 hget2
    obtain ⟨z1, z2, z3⟩ := heff0 hk
    obtain ⟨p1, p2, p3, p4⟩ := hput hst.le hx
    obtain ⟨e1, e2⟩ := g5 hk
    refine ⟨p + 1, μ', HD', ⟨by omega, ?_, ?_, e1, I.st.trans (hst.mono (by omega)), Nat.le_trans I.room hst.n, hn, ?_, ?_, ?_, ?_, p1, p2, p3, p4⟩⟩
    · intro p' u h1 h2
      by_cases h : p' = p
      · subst h; rw [hs] at h2; cases h2; exact .inr rfl
      · exact .inl (hahead hk p' u (by omega) h2)
    · rintro p' u h1 h2 h3 (h | h)
      · exact I.todo p' u (by omega) h2 h3 h
      · have := hinj p' u h2 h; omega
    · intro id hid
      exact hget1 id (z2 id fun p' u h1 h2 h3 => hid p' u (by omega) h2 h3)
    · rintro p' u h1 h2 h3 (h | h)
      · have hm := I.made p' u (by omega) h2 h3 h
        by_cases hh : HD.get (base + u.r) = (σs p).H.get (base + u.r)
        · obtain ⟨x1, x2⟩ := T.fresh h2 h3 p (by omega)
          obtain ⟨x3, x4⟩ := T.fresh h2 h3 (p + 1) (by omega)
          rw [hget1 _ hh, x3, ← hm, hh, x1]
        · rw [hget2 _ hh, hm]
      · have := hinj p' u h2 h; omega
    · intro p' u h1 h2 h3 h
      have hm := I.notyet p' u (by omega) h2 h3 fun h' => h (.inl h')
      obtain ⟨x1, x2⟩ := T.fresh h2 h3 p (by omega)
      obtain ⟨x3, x4⟩ := T.fresh h2 h3 (p + 1) (by omega)
      rw [hget1 _ (by rw [hm, x1]), x3]
    · intro p' u h2 h3 h
      have hm := I.free p' u h2 h3 fun h' => h (.inl h')
      cases hμ : μ' (base + u.r) with
      | none => rfl
      | some L =>
        rcases hst.new _ _ hμ with ⟨h', _⟩ | ⟨h', _⟩
        · rw [hm] at h'; cases h'
        · have := T.ok.makeLt _ _ h2 h3; omega
  unfold wpOpIn
  simp only [ho]
  rw [hwant]
  cases b with
  | false =>
    simp only [Bool.false_eq_true, if_false]
    refine ⟨fun _ _ => trivial, ?_⟩
    obtain ⟨hv, hH⟩ := g7 rfl
    by_cases hk : s.kd = .eff
    · exact hdone hk (Step.refl I.st.rel) (hv ▸ VRel.unit) (by rw [hH]; exact (heff0 hk).1) (fun id h => by rw [hH]; exact h) (fun _ _ => rfl)
    · refine hquiet hk (.inl (Step.refl I.st.rel)) (hv ▸ VRel.unit) rfl (fun _ _ => rfl) ?_ ?_
      · intro hm
        rw [I.notyet p s hqp hs hm hi, hH, (T.fresh hs hm p (Nat.le_refl _)).1]
      · intro p' u h1 h2 h3; exact I.free p' u h1 h2 fun h => h3 (.inl h)
  | true =>
    simp only [if_true]
    refine ⟨fun _ _ => trivial, ?_⟩
    obtain ⟨k1, k2, k3, k4⟩ := g8 rfl
    have hvalue : s.kd ≠ .eff → s.kd ≠ .make → valA P envD o.op HD = some v → Oper.uponIn (FR ro) 0 P o a (fun a' w' => ∃ q' μ' HD', DInv dl B n0 N w0 w1 μ0 H0 ops base m l σs (fun j => D j ∨ j = s.i) q' μ' HD' a' w') Q ((Oper.semAt (FR ro).round a.eval o).run P w) := by
      intro h1 h2 h3
      rw [Oper.semAt_eq _ _ _ (valA_nd h3)]
      obtain ⟨y, hrun, hy⟩ := valA_sound (P := P) I.st.rel hρ h3
      rw [hrun]
      exact hquiet h1 (.inl (Step.refl I.st.rel)) hy rfl (fun _ _ => rfl) (fun h => absurd h h2) fun p' u h1 h2 h3 => I.free p' u h1 h2 fun h => h3 (.inl h)
    cases hkd : s.kd with
    | pure =>
      refine hvalue (by simp [hkd]) (by simp [hkd]) ?_
      rw [← valA_congr hopd]
      refine valA_up ?_ (k1 hkd).1
      intro i hi
      exact absurd rfl hi
    | read =>
      refine hvalue (by simp [hkd]) (by simp [hkd]) ?_
      obtain ⟨r1, r2, _⟩ := k2 hkd
      have hcount : cntE l p - cntE l q ≤ s.past := by
        rcases Nat.lt_or_ge s.past (cntE l p - cntE l q) with hlt' | h
        · exfalso
          have key : ∀ d, q + d ≤ p → cntE l (q + d) = cntE l q := by
            intro d
            induction d with
            | zero => intro _; rfl
            | succ d ih =>
              intro hd
              have ihd := ih (by omega)
              obtain ⟨u, hu⟩ := getElem?_isSome_of_lt (show q + d < l.length by omega)
              rw [← Nat.add_assoc, cntE_succ hu, ihd]
              by_cases hku : u.kd = .eff
              · rcases T.ok.read p s hs hkd (q + d) u (by omega) hu hku with h | h
                · exact absurd (hb _ h) (I.todo _ _ (by omega) hu hku)
                · omega
              · simp [hku]
          have := key (p - q) (by omega)
          rw [show q + (p - q) = p by omega] at this
          omega
        · exact h
      obtain ⟨pre, e1, e2⟩ := T.ks (q := q) (p - q) (by omega)
      rw [show q + (p - q) = p by omega] at e1 e2
      have hread : valA P env' o.op (σs q).Hk = some v := by
        cases pre with
        | nil => simp at e1; rw [← e1.1]; exact r1
        | cons K pre =>
          simp only [List.cons_append, List.cons.injEq] at e1
          obtain ⟨_, e1⟩ := e1
          refine r2 _ ?_
          rw [e1, List.mem_iff_getElem?]
          refine ⟨pre.length, ?_⟩
          simp only [List.length_cons] at e2
          rw [List.getElem?_take, if_pos (by omega), List.getElem?_append_right (by omega)]
          simp
      rw [← valA_congr hopd]
      refine valA_up ?_ hread
      rw [I.hk]
      intro id hid
      by_cases hex : ∃ (p' : Nat) (u : DStep), q ≤ p' ∧ l[p']? = some u ∧ u.kd = .make ∧ base + u.r = id
      · obtain ⟨p', u, h1, h2, h3, rfl⟩ := hex
        exact absurd (T.fresh h2 h3 q h1).1 hid
      · exact I.old id fun p' u h1 h2 h3 h4 => hex ⟨p', u, h1, h2, h3, h4⟩
    | make =>
      obtain ⟨obj, f, m1, rfl, m3⟩ := k3 hkd
      rw [makeA_congr hopd] at m1
      have hr := T.ok.makeLt _ _ hs hkd
      have hf := I.free p s hs hkd hi
      have hfr : FreeId μ HD n0 (some (base + s.r)) := ⟨by have := I.room; omega, hf, by omega⟩
      rw [Oper.semAt_eq _ _ _ (fun c e => by rw [e] at m1; simp [makeA] at m1)]
      refine (make_gives' (P := P) I.st.rel hfr hρ m1).upon ?_
      rintro x w2 ⟨μ', hst, hx, hsame⟩
      refine hquiet (by simp [hkd]) (.inr hst) hx rfl ?_ ?_ ?_
      · intro id hid
        simp only [newA, Heap.get_set]
        rw [if_neg (Ne.symm (hid hkd))]
      · intro _
        simp only [newA, Heap.get_set, if_true]
        rw [m3, Heap.get_set, if_pos rfl]
      · intro p' u h1 h2 h3
        rw [hsame, I.free p' u h1 h2 fun h => h3 (.inl h)]
        simp only [newA]
        intro e
        have := T.ok.makeInj _ _ _ _ h1 hs h2 hkd (by omega)
        subst this
        rw [hs] at h1; cases h1
        exact h3 (.inr rfl)
    | eff =>
      have hS := k4 hkd (fun v H => some (v, H))
      obtain ⟨z1, z2, z3⟩ := heff0 hkd
      obtain ⟨X, hX, x1, x2⟩ := Ext_of z1 z3
      obtain ⟨v1, H1, G1, y1, y2, y3⟩ := stepA_frame (P := P) hX T.fr (r := none) (by simp) hS
      simp at y1
      obtain ⟨rfl, rfl⟩ := y1
      have hS' := y3 (fun v H => some (v, H))
      rw [stepA_congr hopd] at hS'
      obtain ⟨v2, H2, u1, u2⟩ := stepA_sound (P := P) (n0 := base + m) hc I.st.rel (r := none) I.room hρ hS'
      simp at u1
      obtain ⟨rfl, rfl⟩ := u1
      rw [Oper.semAt_eq _ _ _ (stepA_nd hS')]
      refine u2.upon ?_
      rintro x w2 ⟨μ', hst, hx⟩
      exact hdone hkd hst hx y2.n (fun id h => y2.old id (x1 id h)) (fun id h => (y2.new id _ (x2 id h)).2.2)
end
end Go.AM
end
section
set_option linter.unusedVariables false
set_option linter.unusedSimpArgs false
set_option linter.unusedSimpArgs false
namespace Go.AM
open Go.RowKit (Below)
def unl : List Bool → Nat
  | [] => 0
  | b :: bs => (if b = true then 0 else 1) + unl bs
theorem unl_set : ∀ {bs : List Bool} {i : Nat}, bs[i]? = some false → unl (bs.set i true) + 1 = unl bs
  | [], i, h => by simp at h
  | b :: bs, 0, h => by simp at h; subst h; simp [unl]; omega
  | b :: bs, i + 1, h => by
    simp at h
    have := unl_set h
    simp only [List.set_cons_succ, unl]; omega
theorem unl_pos : ∀ {bs : List Bool} {i : Nat}, bs[i]? = some false → 0 < unl bs
  | [], i, h => by simp at h
  | b :: bs, 0, h => by simp at h; subst h; simp [unl]; omega
  | b :: bs, i + 1, h => by simp at h; have := unl_pos h; simp only [unl]; omega
section
variable {P : Program} {B n0 N : Nat} {w0 w1 w w' w'' : World} {μ0 μ μ' μ'' ν : Mu} {H0 H H' H'' : Heap}
variable {call : FuncId → List V → Heap → Option R} {ops : Array Oper} {base m : Nat} {l : List DStep} {σs : Nat → DS} {dl : List Deferred} {ro : Option Nat}
theorem all_listed {listed : Array Bool} (T : PlanOk P ops m l) (hs : listed.size = ops.size) (hr : Region.ready .any ops listed = []) : ∀ i, i < ops.size → listed.getD i false = true := by
  intro i
  induction i using Nat.strongRecOn with
  | _ i ih =>
    intro hi
    cases hl : listed.getD i false with
    | true => rfl
    | false =>
      exfalso
      have : i ∈ Region.ready .any ops listed := by
        rw [mem_ready]
        refine ⟨?_, ops[i], Array.getElem?_eq_getElem hi, ?_⟩
        · rw [Array.getD_eq_getD_getElem?, Array.getElem?_eq_getElem (by omega)] at hl ⊢
          simpa using hl
        · intro e he hb
          have hlt := T.edge i _ (Array.getElem?_eq_getElem hi) e he hb
          exact ih e.on hlt (by omega)
      rw [hr] at this; cases this
theorem draw_any (T : Tr P call ops base m l σs) (hc : CallSound P call) (hn0 : n0 ≤ base) (hdst : ∀ o ∈ ops, okDst N o = true) {Q : Exit → Act → World → Prop}
    (hK : ∀ a' w' μ', Step B w0 n0 μ0 H0 w1 μ' (σs l.length).H w' → St dl N μ' (σs l.length).env a' → Q .normal a' w') :
    ∀ (fuel : Nat) (listed : Array Bool) (a : Act) (w : World), listed.size = ops.size → unl listed.toList ≤ fuel → Closed ops (fun i => listed.getD i false = true) →
      (∃ q μ HD, DInv dl B n0 N w0 w1 μ0 H0 ops base m l σs (fun i => listed.getD i false = true) q μ HD a w) → wpAnyIn (FR ro) 0 P .any ops Q fuel listed a w := by
  have hend : ∀ (listed : Array Bool) (a : Act) (w : World), (∀ i, i < ops.size → listed.getD i false = true) →
      (∃ q μ HD, DInv dl B n0 N w0 w1 μ0 H0 ops base m l σs (fun i => listed.getD i false = true) q μ HD a w) → Q .normal a w := by
    rintro listed a w hall ⟨q, μ, HD, I⟩
    have hop : ∀ (p : Nat) (s : DStep), l[p]? = some s → listed.getD s.i false = true := by
      intro p s hs
      obtain ⟨o, ho, _⟩ := T.ok.op p s hs
      exact hall _ (Array.getElem?_eq_some_iff.1 ho).1
    obtain ⟨q1, q2, q3⟩ := T.quiet (q := q) (l.length - q) (by have := I.qle; omega) (fun p s h1 h2 hs hk => I.todo p s h1 hs hk (hop p s hs))
    have hq := I.qle
    rw [show q + (l.length - q) = l.length by omega] at q1 q2 q3
    refine hK a w μ (I.st.congr (q1.trans I.n.symm) ?_) ⟨I.defers, I.size, fun t => I.slot t fun j o hj _ => hall j (Array.getElem?_eq_some_iff.1 hj).1⟩
    intro id
    by_cases hex : ∃ (p' : Nat) (u : DStep), q ≤ p' ∧ l[p']? = some u ∧ u.kd = .make ∧ base + u.r = id
    · obtain ⟨p', u, h1, h2, h3, rfl⟩ := hex
      have hp := (List.getElem?_eq_some_iff.1 h2).1
      rw [q3 p' u h1 hp h2 h3, I.made p' u h1 h2 h3 (hop p' u h2)]
    · rw [q2 id fun p u h1 h2 h3 h4 h5 => hex ⟨p, u, h1, h3, h4, h5⟩, I.old id fun p u h1 h3 h4 h5 => hex ⟨p, u, h1, h3, h4, h5⟩]
  have hlisted : ∀ {listed : Array Bool}, listed.size = ops.size → unl listed.toList = 0 → ∀ i, i < ops.size → listed.getD i false = true := by
    intro listed hs h0 i hi
    cases hl : listed.getD i false with
    | true => rfl
    | false =>
      exfalso
      rw [Array.getD_eq_getD_getElem?, Array.getElem?_eq_getElem (by omega)] at hl
      have := unl_pos (bs := listed.toList) (i := i) (by rw [Array.getElem?_toList, Array.getElem?_eq_getElem (by omega)]; simpa using hl)
      omega
  intro fuel
  induction fuel with
  | zero =>
    intro listed a w hs hu hcl I
    have hall := hlisted hs (by omega)
    refine ⟨?_, hend listed a w hall I⟩
    cases hr : Region.ready .any ops listed with
    | nil => rfl
    | cons x xs =>
      exfalso
      have hx : x ∈ Region.ready .any ops listed := by rw [hr]; simp
      obtain ⟨h0, o, ho, _⟩ := mem_ready.1 hx
      have hxl := (Array.getElem?_eq_some_iff.1 ho).1
      have := hall x hxl
      rw [Array.getD_eq_getD_getElem?, Array.getElem?_eq_getElem (by omega)] at this h0
      simp at this h0
      rw [this] at h0; cases h0
  | succ fuel ih =>
    intro listed a w hs hu hcl I
    refine ⟨fun hr => hend listed a w (all_listed T.ok hs hr) I, ?_⟩
    intro i hi
    obtain ⟨q, μ, HD, I⟩ := I
    obtain ⟨h0, o, ho, he⟩ := mem_ready.1 hi
    have hil := (Array.getElem?_eq_some_iff.1 ho).1
    have hni : listed[i]? = some false := by
      rw [Array.getD_eq_getD_getElem?, Array.getElem?_eq_getElem (by omega)] at h0
      rw [Array.getElem?_eq_getElem (by omega)]; simpa using h0
    have hset : ∀ j, (listed.setIfInBounds i true).getD j false = true ↔ (listed.getD j false = true ∨ j = i) := by
      intro j
      simp only [Array.getD_eq_getD_getElem?, Array.getElem?_setIfInBounds]
      by_cases hij : i = j
      · subst hij; simp [show i < listed.size by omega]
      · rw [if_neg hij]; simp [Ne.symm hij]
    refine wpOpIn_mono ?_ (I.step T hc hn0 hdst hcl (fun j hj => ?_) ho (fun h => ?_) he)
    · rintro a' w' ⟨q', μ', HD', I'⟩
      refine ih _ a' w' (by simp [hs]) ?_ ?_ ⟨q', μ', HD', ?_⟩
      · have := unl_set (bs := listed.toList) (i := i) (by simpa using hni)
        rw [← Array.toList_setIfInBounds] at this
        omega
      · intro j oj hj hd e hem hb
        rw [hset] at hd ⊢
        rcases hd with hd | rfl
        · exact .inl (hcl j oj hj hd e hem hb)
        · rw [ho] at hj; cases hj
          exact .inl (he e hem hb)
      · have : (fun j => (listed.setIfInBounds i true).getD j false = true) = fun j => listed.getD j false = true ∨ j = i := funext fun j => propext (hset j)
        rw [this]; exact I'
    · rw [← hs]
      rcases Nat.lt_or_ge j listed.size with h | h
      · exact h
      · rw [Array.getD_eq_getD_getElem?, Array.getElem?_eq_none h] at hj; simp at hj
    · rw [Array.getD_eq_getD_getElem?, hni] at h; simp at h
def regionOk (P : Program) (N : Nat) (ops : Array Oper) (draw : Bool) : Bool :=
  ops.toList.all (okDst N) && (!draw || match plan P ops with
    | some (m, l) => planOk P ops m l
    | none => true)
theorem Rel.more (hr : Rel B w0 μ H w) (m : Nat) : Rel B w0 μ (H.more m) w :=
  ⟨hr.below, hr.size, fun i L e => by have := hr.dom i L e; exact ⟨by simp; omega, by simpa using this.2⟩, fun i L e => by simpa using hr.objs i L e, fun i j L M e1 e2 h l1 l2 l3 => hr.sep i j L M e1 e2 h (by simpa using l1) (by simpa using l2) (by simpa using l3),
    fun i hi => by simp at hi ⊢; exact hr.clean i (by omega), hr.frz, hr.sepf, fun i L e ho => hr.flat i L e (by simpa using ho)⟩
theorem region_sound (hm : P.follows .mixedOrders = true) (hc : CallSound P call) (hf : FrameCall call) {id : Nat} {draw : Bool} {env : Env} {k : Env → Heap → Option R} {res : R} (hok : regionOk P N ops draw = true)
    (h : regA P call ops draw env H k = some res) (hr : Rel B w0 μ H w) (hn : n0 ≤ H.n) {a : Act} (hst : St dl N μ env a) {Q : Exit → Act → World → Prop}
    (hK : ∀ a' w' env' H' μ', Step B w0 n0 μ H w μ' H' w' → St dl N μ' env' a' → k env' H' = some res → Q .normal a' w') : (Code.region id ops draw).wpIn (FR ro) 0 P Q a w := by
  simp only [regionOk, Bool.and_eq_true] at hok
  obtain ⟨hd, hp⟩ := hok
  unfold regA at h
  cases draw with
  | false =>
    simp only [Bool.false_eq_true, if_false] at h
    refine wpIn_region ?_
    have := runOps_sound (P := P) (n0 := n0) (N := N) (ro := ro) (Q := Q) hc (ops := ops) ops.toList 0 env H μ a w (by simp) (List.all_eq_true.1 hd) h hr hn hst hK
    rw [List.range_eq_range']
    simpa using this
  | true =>
    simp only [if_true] at h
    split at h
    · rename_i m l hpl
      simp only [hpl, Bool.not_true, Bool.false_or] at hp
      have hplan := planOk_spec hp
      obtain ⟨σs, t1, t2, t3⟩ := trace hf l ⟨env, H.more m, [], H.more m⟩ hplan.op h
      have T : Tr P call ops H.n m l σs := ⟨hplan, hf, t2, by rw [t1]; rfl, fun i hi => by rw [t1]; simp; exact hr.clean i hi, by rw [t1]⟩
      refine wpIn_region_any hm ?_
      refine draw_any (n0 := n0) (w1 := w) (μ0 := μ) (H0 := H) (B := B) (w0 := w0) (N := N) T hc hn (fun o ho => ?_) (fun a' w' μ' s hs => hK a' w' _ _ μ' s hs t3) ops.size _ a _ (by simp) ?_ ?_ ⟨0, μ, H.more m, ?_⟩
      · simp only [List.all_eq_true] at hd
        exact hd o (by simpa using ho)
      · have : ∀ n, unl (List.replicate n false) = n := by
          intro n
          induction n with
          | zero => rfl
          | succ n ih => simp [List.replicate_succ, unl, ih]; omega
        rw [Array.toList_replicate, this]; exact Nat.le_refl _
      · intro i o _ hd
        exfalso
        simp only [Array.getD_eq_getD_getElem?, Array.getElem?_replicate] at hd
        split at hd <;> simp at hd
      · have hno : ∀ i, ¬ (Array.replicate ops.size false).getD i false = true := by
          intro i hd
          simp only [Array.getD_eq_getD_getElem?, Array.getElem?_replicate] at hd
          split at hd <;> simp at hd
        refine ⟨Nat.zero_le _, fun p s hp => by omega, fun p s _ _ _ => hno _, by rw [t1], ?_, by simp, by rw [t1], fun id _ => by rw [t1], fun p s _ _ _ hd => absurd hd (hno _), ?_, ?_, hst.defers, hst.size, ?_, fun t _ => by rw [t1]; exact hst.slot t⟩
        · exact ⟨Mu.le_refl _, (hr.more m).heap_eq rfl rfl rfl rfl, by simp, Nat.le_refl _, fun _ _ _ => rfl, fun _ _ e => .inl ⟨e, fun o => by simpa using o, fun o => by simpa using o⟩, fun _ _ h => .inl h⟩
        · intro p s _ _ _ _
          simp
          exact hr.clean _ (by omega)
        · intro p s _ _ _
          exact hr.fresh (by omega)
        · intro t ht
          have := T.env (p := 0) (t := t) l.length (by omega) (fun q s o _ _ _ ho hd => hno _ (ht _ o ho hd))
          rw [Nat.zero_add] at this
          rw [this, t1]
          exact hst.slot t
    · simp at h
end
end Go.AM
end
section
set_option linter.unusedVariables false
set_option linter.unusedSimpArgs false
set_option linter.unusedSimpArgs false
namespace Go.AM
open Go.RowKit (Below)
section
variable {P : Program} {B n0 : Nat} {w0 w w' w'' : World} {μ μ' μ'' ν : Mu} {H H' H'' : Heap}
def blk (w : World) (b : Nat) : List Value := match w.heap[b]? with
  | some (.cells c _ _) => c.toList
  | _ => []
open Classical in
noncomputable def Mu.frz (μ : Mu) (w : World) (ids : List Nat) : Mu :=
  ⟨μ.f, fun b => if ∃ j ∈ ids, ∃ L, μ j = some L ∧ L.b = b then some (blk w b) else μ.z b⟩
theorem blk_of {b : Nat} {c : Array Value} {e : TypeId} {fr : Nat × Nat} (h : w.heap[b]? = some (.cells c e fr)) : blk w b = c.toList := by
  unfold blk; rw [h]
theorem Rel.freeze_le (hr : Rel B w0 μ H w) (ids : List Nat) : μ.le (μ.frz w ids) := by
  refine ⟨fun _ _ h => h, ?_⟩
  intro b vs h
  obtain ⟨c, e, fr, h1, h2⟩ := hr.frz b vs h
  simp only [Mu.frz]
  split
  · rw [blk_of h1, h2]
  · exact h
theorem areThere_live {ids : List Nat} (h : AreThere H ids) {j : Nat} (hj : j ∈ ids) : (H.get j).live = true := by
  obtain ⟨cs, e, ro, hg⟩ := h j hj
  rw [hg]; rfl
theorem kill_own {ids : List Nat} {i : Nat} (o : ((killL ids H).get i).own = true) : (H.get i).own = true := by
  rw [killL_get] at o
  split at o
  · exact fix_own _ o
  · exact o
theorem kill_live {ids : List Nat} {i : Nat} (o : ((killL ids H).get i).live = true) : (H.get i).live = true := by
  rw [killL_get] at o
  split at o
  · exact fix_live _ o
  · exact o
theorem kill_new {ids : List Nat} (h : AreThere H ids) {i : Nat} (hi : i ∈ ids) : ¬ ((killL ids H).get i).own = true := by
  obtain ⟨cs, e, ro, hg⟩ := h i hi
  rw [killL_get, if_pos hi, hg]
  simp [O.fix, O.own]
theorem Rel.freeze (hr : Rel B w0 μ H w) {ids : List Nat} (h : AreThere H ids) : Step B w0 n0 μ H w (μ.frz w ids) (killL ids H) w := by
  have hat := h
  have hle := hr.freeze_le ids
  refine ⟨hle, ⟨hr.below, hr.size, ?_, ?_, ?_, ?_, ?_, ?_, fun i L e ho => hr.flat i L e (kill_own ho)⟩, by rw [killL_n]; exact Nat.le_refl _, Nat.le_refl _, fun _ _ _ => rfl, fun _ _ e => .inl ⟨e, kill_own, kill_live⟩, fun b vs h => by
    simp only [Mu.frz] at h
    split at h
    · rename_i hc
      obtain ⟨j, hj, L, hL, hb⟩ := hc
      exact .inr (.inr ⟨j, L, hL, areThere_live hat hj, hb⟩)
    · exact .inl h⟩
  · intro i L e
    have e' : μ i = some L := e
    rw [killL_n]
    exact ⟨(hr.dom i L e').1, fun hl => (hr.dom i L e').2 (kill_live hl)⟩
  · intro i L e
    have e' : μ i = some L := e
    have ho := (hr.objs i L e').mono hle rfl
    rw [killL_get]
    split
    · rename_i hi
      obtain ⟨cs, el, ro, hg⟩ := h i hi
      rw [hg] at ho ⊢
      obtain ⟨c, e', fr, h1, h2, h3, h4, h5⟩ := ho
      exact ⟨c, e', fr, h1, h2, h3, h4, fun h => by cases h⟩
    · exact ho
  · intro i j L M e1 e2 hij l1 l2 l3
    exact hr.sep i j L M e1 e2 hij (kill_live l1) (kill_live l2) (kill_own l3)
  · intro i hi
    rw [killL_n] at hi
    rw [killL_get, hr.clean i hi]
    split <;> rfl
  · intro b vs hz
    simp only [Mu.frz] at hz
    split at hz
    · rename_i hc
      obtain ⟨j, hj, L, hL, rfl⟩ := hc
      obtain ⟨cs, el, ro, hg⟩ := h j hj
      have ho := hr.objs j L hL
      rw [hg] at ho
      obtain ⟨c, e', fr, hb, _⟩ := ho
      simp at hz; subst hz
      exact ⟨c, e', fr, hb, blk_of hb⟩
    · exact hr.frz b vs hz
  · intro b vs hz k M e2 ho
    have e2' : μ k = some M := e2
    simp only [Mu.frz] at hz
    split at hz
    · rename_i hc
      obtain ⟨j, hj, L, hL, rfl⟩ := hc
      obtain ⟨cs, el, ro, hg⟩ := h j hj
      have hjk : k ≠ j := by rintro rfl; exact kill_new h hj ho
      have hlive : ∀ o : O, o.own = true → o.live = true := by intro o; cases o <;> simp [O.own, O.live]
      exact hr.sep k j M L e2' hL hjk (hlive _ (kill_own ho)) (by rw [hg]; rfl) (kill_own ho)
    · exact hr.sepf b vs hz k M e2' (kill_own ho)
theorem frzV_one {d : Nat} {v : V} {r : V × List Nat} (h : frzV H d v = some r) (ho : v.one = true) : r.1.one = true := by
  cases d with
  | zero => simp [frzV] at h
  | succ d =>
    unfold frzV at h
    cases v with
    | slice s =>
      simp only at h
      split at h
      · simp at h; subst h; rfl
      · split at h
        · cases h
        · split at h
          · split at h
            · split at h
              · simp at h; subst h; rfl
              · cases h
            · cases h
          · cases h
    | agg cs => simp [V.one] at ho
    | tuple cs => simp [V.one] at ho
    | _ => simp at h; subst h; exact ho
theorem frzL_one {d : Nat} : ∀ {vs : List V} {r : List V × List Nat}, frzL (frzV H d) vs = some r → vs.all V.one = true → r.1.all V.one = true
  | [], r, h, _ => by simp [frzL] at h; subst h; rfl
  | v :: vs, r, h, ho => by
    unfold frzL at h
    simp only [List.all_cons, Bool.and_eq_true] at ho
    split at h
    · rename_i p hp
      split at h
      · rename_i q hq
        simp at h; subst h
        simp only [List.all_cons, Bool.and_eq_true]
        exact ⟨frzV_one hp ho.1, frzL_one hq ho.2⟩
      · cases h
    · cases h
theorem frzL_rel {ids : List Nat} {rc : V → Option (V × List Nat)} (h0 : ∀ v r x, rc v = some r → (∀ j ∈ r.2, j ∈ ids) → VRel μ v x → VRel (μ.frz w ids) r.1 x) :
    ∀ {vs : List V} {r : List V × List Nat} {xs : List Value}, frzL rc vs = some r → (∀ j ∈ r.2, j ∈ ids) → VRels μ vs xs → VRels (μ.frz w ids) r.1 xs
  | [], r, xs, h, _, hx => by simp [frzL] at h; subst h; exact hx
  | v :: vs, r, xs, h, hi, hx => by
    unfold frzL at h
    split at h
    · rename_i p hp
      split at h
      · rename_i q hq
        simp at h; subst h
        simp only [VRels] at hx ⊢
        obtain ⟨y, ys, rfl, a, b⟩ := hx
        exact ⟨y, ys, rfl, h0 _ _ _ hp (fun j hj => hi j (List.mem_append_left _ hj)) a, frzL_rel h0 hq (fun j hj => hi j (List.mem_append_right _ hj)) b⟩
      · cases h
    · cases h
theorem frzV_rel (hr : Rel B w0 μ H w) {ids : List Nat} : ∀ (d : Nat) (v : V) (r : V × List Nat) (x : Value), frzV H d v = some r → (∀ j ∈ r.2, j ∈ ids) → VRel μ v x → VRel (μ.frz w ids) r.1 x
  | 0, v, r, x, h, _, _ => by simp [frzV] at h
  | d + 1, v, r, x, h, hi, hx => by
    have hle := hr.freeze_le ids
    unfold frzV at h
    cases v with
    | slice s =>
      simp only at h
      split at h
      · rename_i h0
        simp at h; subst h
        simp only [VRel] at hx ⊢
        left
        refine ⟨trivial, trivial, ?_⟩
        split at hx
        · exact .inl hx.2
        · obtain ⟨L, a, cap, _, rfl, _, _, hc⟩ := hx
          exact .inr ⟨a, cap, hc.imp id fun h => by rw [h.1], by rw [h0]⟩
      · rename_i h0
        split at h
        · cases h
        · rename_i i o hs
          split at h
          · rename_i cs e ro hg
            split at h
            · rename_i hb
              split at h
              · rename_i p hp
                simp at h; subst h
                simp only [VRel, hs] at hx
                obtain ⟨L, a, cap, hL, rfl, hlc, _, hcap⟩ := hx
                have hc0 : cap ≠ 0 := by omega
                obtain ⟨rfl, hroom⟩ := hcap.resolve_left hc0
                have ho := hr.objs i L hL
                rw [hg] at ho
                obtain ⟨c, e', fr, hbk, hcs, hrest⟩ := id ho
                obtain ⟨xs, q1, q2, q3, q4, q5⟩ := ho.cellsAt hb
                have hz : (μ.frz w ids).z L.b = some (blk w L.b) := by
                  simp only [Mu.frz]
                  rw [if_pos ⟨i, hi i (by simp), L, hL, rfl⟩]
                have hxs : ((blk w L.b).drop (L.base + o)).take (s.len * s.esz) = xs := by
                  rw [blk_of hbk]
                  apply List.ext_getElem?
                  intro k
                  by_cases hk : k < s.len * s.esz
                  · have hxk : xs[k]? = some (xs[k]'(by omega)) := List.getElem?_eq_getElem _
                    have := q3 k _ hxk
                    simp only [World.cell?, hbk] at this
                    rw [List.getElem?_take, if_pos hk, List.getElem?_drop, hxk]
                    simpa using this
                  · rw [List.getElem?_take, if_neg hk, List.getElem?_eq_none (by omega)]
                have hv := frzL_rel (ids := ids) (μ := μ) (w := w) (fun v r x h1 h2 h3 => frzV_rel hr d v r x h1 h2 h3) hp (fun j hj => hi j (List.mem_cons_of_mem _ hj)) q2
                have hl : p.1.length = s.len * s.esz := by rw [← hv.length, q1]
                simp only [VRel]
                exact .inr ⟨L.b, blk w L.b, L.base + o, cap, hz, rfl, hlc, by rw [blk_of hbk, Array.length_toList, hcs]; exact hroom, hl, frzL_one hp q4, by rw [hxs]; exact hv⟩
              · cases h
            · cases h
          · cases h
    | agg cs =>
      simp only at h
      split at h
      · rename_i p hp
        simp at h; subst h
        simp only [VRel] at hx ⊢
        obtain ⟨a, rfl, k⟩ := hx
        exact ⟨a, rfl, frzL_rel (fun v r x h1 h2 h3 => frzV_rel hr d v r x h1 h2 h3) hp hi k⟩
      · cases h
    | tuple cs =>
      simp only at h
      split at h
      · rename_i p hp
        simp at h; subst h
        simp only [VRel] at hx ⊢
        obtain ⟨a, rfl, k⟩ := hx
        exact ⟨a, rfl, frzL_rel (fun v r x h1 h2 h3 => frzV_rel hr d v r x h1 h2 h3) hp hi k⟩
      · cases h
    | _ => simp at h; subst h; exact VRel.mono hle _ _ hx
theorem frzR_sound (hr : Rel B w0 μ H w) {v v' : V} {x : Value} (h : frzR v H = some (v', H')) (hx : VRel μ v x) : ∃ μ', Step B w0 n0 μ H w μ' H' w ∧ VRel μ' v' x := by
  unfold frzR at h
  split at h
  · rename_i p hp
    simp at h
    obtain ⟨rfl, rfl⟩ := h
    exact ⟨_, hr.freeze (frzV_ids 6 hp), frzV_rel hr 6 _ _ _ hp (fun _ h => h) hx⟩
  · cases h
theorem frzAs_sound (hr : Rel B w0 μ H w) {vs vs' : List V} {xs : List Value} (h : frzAs vs H = some (vs', H')) (hx : VRels μ vs xs) : ∃ μ', Step B w0 n0 μ H w μ' H' w ∧ VRels μ' vs' xs := by
  unfold frzAs at h
  split at h
  · rename_i p hp
    simp at h
    obtain ⟨rfl, rfl⟩ := h
    exact ⟨_, hr.freeze (frzL_ids (fun v r h => frzV_ids 6 h) hp), frzL_rel (fun v r x h1 h2 h3 => frzV_rel hr 6 v r x h1 h2 h3) hp (fun _ h => h) hx⟩
  · cases h
mutual
theorem VRel.free (h : ∀ b vs, μ.z b = some vs → ν.z b = some vs) : ∀ (v : V) (x : Value), v.free = true → VRel μ v x → VRel ν v x
  | .dead, _, o, _ => by simp [VRel]
  | .bool b, x, o, k => by simpa [VRel] using k
  | .int _ n, x, o, k => by simpa [VRel] using k
  | .str s, x, o, k => by simpa [VRel] using k
  | .ptr none, x, o, k => by simpa [VRel] using k
  | .ptr (some (i, a)), x, o, k => by simp [V.free] at o
  | .slice s, x, o, k => by
    simp only [V.free, Option.isNone_iff_eq_none] at o
    simp only [VRel, o] at k ⊢
    exact k
  | .map none, x, o, k => by simpa [VRel] using k
  | .map (some i), x, o, k => by simp [V.free] at o
  | .func fn first captured, x, o, k => by simp [V.free] at o
  | .nilFunc, x, o, k => by simpa [VRel] using k
  | .iface t v, x, o, k => by simp [V.free] at o
  | .nilIface, x, o, k => by simpa [VRel] using k
  | .agg cs, x, o, k => by
    simp only [V.free] at o
    simp only [VRel] at k ⊢
    obtain ⟨y, e, r⟩ := k
    exact ⟨y, e, VRels.free h _ _ o r⟩
  | .tuple cs, x, o, k => by
    simp only [V.free] at o
    simp only [VRel] at k ⊢
    obtain ⟨y, e, r⟩ := k
    exact ⟨y, e, VRels.free h _ _ o r⟩
  | .list n z cs, x, o, k => by
    simp only [V.free] at o
    simp only [VRel] at k ⊢
    rcases k with k | ⟨j, L, q, cap, m, e, hc, hm, hl, h1, r⟩
    · exact .inl k
    · exact .inr ⟨j, L, q, cap, h _ _ m, e, hc, hm, hl, h1, VRels.free h _ _ o r⟩
  | .lptr cs, x, o, k => by simp [V.free] at o
theorem VRels.free (h : ∀ b vs, μ.z b = some vs → ν.z b = some vs) : ∀ (vs : List V) (xs : List Value), V.frees vs = true → VRels μ vs xs → VRels ν vs xs
  | [], xs, _, k => by simpa [VRels] using k
  | v :: vs, xs, o, k => by
    simp only [V.frees, Bool.and_eq_true] at o
    simp only [VRels] at k ⊢
    obtain ⟨y, ys, e, a, b⟩ := k
    exact ⟨y, ys, e, VRel.free h _ _ o.1 a, VRels.free h _ _ o.2 b⟩
end
theorem Rel.grow {B : Nat} {w0 w w' : World} {μ : Mu} {H : Heap} (hr : Rel B w0 μ H w) (hb : Below w.heap.size w w') : Rel B w0 μ H w' := by
  have hs := hr.size
  refine ⟨hr.below.trans ⟨hb.os, hb.tape, hb.output, hb.size, fun k hk => hb.block k (by omega)⟩, Nat.le_trans hr.size hb.size, fun i L e => ⟨(hr.dom i L e).1, fun hl => Nat.lt_of_lt_of_le ((hr.dom i L e).2 hl) hb.size⟩, ?_, hr.sep, hr.clean, fun b vs hz => by
    obtain ⟨c, e, fr, h1, h2⟩ := hr.frz b vs hz
    exact ⟨c, e, fr, by rw [hb.block b (Array.getElem?_eq_some_iff.1 h1).1]; exact h1, h2⟩, hr.sepf, hr.flat⟩
  intro i L e
  have h1 := hr.objs i L e
  have h2 := (hr.dom i L e).2
  cases ho : H.get i with
  | none => trivial
  | _ =>
    rw [ho] at h1 h2
    exact h1.mono (Mu.le_refl _) (hb.block _ (h2 rfl))
theorem pure_start (hr : Rel B w0 μ H w) : Rel B w0 ⟨fun _ => none, μ.z⟩ ⟨0, .nil⟩ w :=
  ⟨hr.below, hr.size, fun i L h => (by cases h), fun i L h => (by cases h), fun i j L M h => (by cases h), fun i _ => by simp [Heap.get, T.get], hr.frz, fun b vs _ j M h => (by cases h), fun i L h => (by cases h)⟩
theorem pure_end {n1 : Nat} {μ2 : Mu} {H2 : Heap} (hr : Rel B w0 μ H w) (s : Step B w0 n1 ⟨fun _ => none, μ.z⟩ ⟨0, .nil⟩ w μ2 H2 w') : Step B w0 n0 μ H w ⟨μ.f, μ2.z⟩ H w' := by
  have hbel : Below w.heap.size w w' := by
    have b1 := hr.below
    have b2 := s.rel.below
    exact ⟨by rw [b2.os, b1.os], by rw [b2.tape, b1.tape], by rw [b2.output, b1.output], s.size, fun k hk => s.keeps k hk fun i L h => (by cases h)⟩
  have hzn : ∀ b vs, μ2.z b = some vs → μ.z b = some vs ∨ w.heap.size ≤ b := by
    intro b vs h
    rcases s.znew b vs h with h | h | ⟨j, M, h, _⟩
    · exact .inl h
    · exact .inr h
    · cases h
  have hg2 := hr.grow hbel
  have hle : μ.le ⟨μ.f, μ2.z⟩ := ⟨fun _ _ h => h, s.le.z⟩
  have hrel : Rel B w0 ⟨μ.f, μ2.z⟩ H w' := by
    refine ⟨hg2.below, hg2.size, hg2.dom, fun i L e => (hg2.objs i L e).mono hle rfl, hg2.sep, hg2.clean, s.rel.frz, ?_, hg2.flat⟩
    intro b vs hz j M e ho
    have e' : μ j = some M := e
    rcases hzn b vs hz with h | h
    · exact hg2.sepf b vs h j M e' ho
    · have hl : (H.get j).live = true := by cases hgj : H.get j <;> simp_all [O.own, O.live]
      have := (hr.dom j M e').2 hl
      omega
  exact ⟨hle, hrel, Nat.le_refl _, s.size, fun b hb _ => hbel.block b hb, fun _ _ e => .inl ⟨e, id, id⟩, fun b vs h => (hzn b vs h).imp id .inl⟩
end
end Go.AM
end
section
set_option linter.unusedVariables false
set_option linter.unusedSimpArgs false
set_option linter.unusedSimpArgs false
namespace Go.AM
open Go.RowKit (Below)
def X.toExit : X → Exit
  | .normal => .normal
  | .exit id => .exit id
  | .ret => .ret
def okC (P : Program) (N : Nat) : Code → Bool
  | .region _ ops draw => regionOk P N ops draw
  | .seq a b => okC P N a && okC P N b
  | .cond _ a b => okC P N a && okC P N b
  | .block _ c => okC P N c
  | .loop c => okC P N c
  | _ => true
theorem callFunc_run {P : Program} {f : FuncId} {xs : Array Value} {w : World} (h : hasBody P f = true) : (callFunc f xs).run P w = .ok (.enter f xs) w := by
  unfold hasBody at h
  split at h
  · rename_i fn hfn
    simp only [Bool.and_eq_true, Bool.not_eq_true'] at h
    obtain ⟨h1, h2⟩ := h
    obtain ⟨c, hc⟩ := Option.isSome_iff_exists.1 h1
    have hne : ¬ fn.name = "runtime.NumGoroutine" := by simpa using h2
    simp [callFunc, hfn, hc, hne]
  · cases h
section
variable {P : Program} {B n0 N : Nat} {w0 w1 w w' w'' : World} {μ0 μ μ' μ'' ν : Mu} {H0 H H' H'' : Heap}
variable {call : FuncId → List V → Heap → Option R}
def mark1 (r : Nat) : Deferred := { target := .collected r, args := #[] }
structure Marks (μ : Mu) (H : Heap) (w : World) (lo : Nat) (rs : List Nat) : Prop where
  nodup : rs.Nodup
  blk : ∀ r ∈ rs, w.heap[r]? = some (.deferred (some []))
  lo : ∀ r ∈ rs, lo ≤ r
  off : ∀ r ∈ rs, ∀ j L, μ j = some L → (H.get j).own = true → L.b ≠ r
theorem Marks.nil {lo : Nat} : Marks μ H w lo [] := ⟨.nil, fun _ h => (by cases h), fun _ h => (by cases h), fun _ h => (by cases h)⟩
theorem Marks.lt {lo : Nat} {rs : List Nat} (h : Marks μ H w lo rs) {r : Nat} (hr : r ∈ rs) : r < w.heap.size := (Array.getElem?_eq_some_iff.1 (h.blk r hr)).1
theorem Marks.step {lo : Nat} {rs : List Nat} (h : Marks μ H w lo rs) (s : Step B w0 n0 μ H w μ' H' w') : Marks μ' H' w' lo rs := by
  refine ⟨h.nodup, fun r hr => ?_, h.lo, fun r hr j L e ho => ?_⟩
  · rw [s.keeps r (h.lt hr) fun i L e ho => h.off r hr i L e ho]; exact h.blk r hr
  · have hl := h.lt hr
    rcases s.new j L e with ⟨e1, e2, _⟩ | ⟨_, e1 | ⟨j', M, e1, e2, e3, _⟩⟩
    · exact h.off r hr j L e1 (e2 ho)
    · omega
    · rw [← e2]; exact h.off r hr j' M e1 (e3 ho)
theorem Step.off (s : Step B w0 n0 μ H w μ' H' w') {r : Nat} {ob : Obj} (hB : B ≤ w.heap.size) (h1 : w.heap.size ≤ r) (h3 : ∃ ds, w'.heap[r]? = some (.deferred ds)) : Step B w0 n0 μ H w μ' H' (w'.putObj r ob) := by
  have hne : ∀ k, k ≠ r → (w'.putObj r ob).heap[k]? = w'.heap[k]? := fun k hk => World.putObj_heap_other hk
  have hr := s.rel
  obtain ⟨ds, h3⟩ := h3
  have hz : ∀ b vs, μ'.z b = some vs → b ≠ r := by
    intro b vs hz hbr
    subst hbr
    obtain ⟨c, e, fr, h, _⟩ := hr.frz b vs hz
    rw [h] at h3; cases h3
  refine ⟨s.le, ⟨?_, by rw [World.putObj_size]; exact hr.size, fun i L e => by rw [World.putObj_size]; exact hr.dom i L e, fun i L e => ?_, hr.sep, hr.clean, fun b vs hv => ?_, hr.sepf, hr.flat⟩, s.n, by rw [World.putObj_size]; exact s.size, ?_, s.new, s.znew⟩
  · have hb := hr.below
    exact ⟨hb.os, hb.tape, hb.output, by rw [World.putObj_size]; exact hb.size, fun k hk => by rw [hne k (by omega)]; exact hb.block k hk⟩
  · have ho := hr.objs i L e
    have nb : (H'.get i).live = true → L.b ≠ r := by
      intro hl hbr
      subst hbr
      cases hg : H'.get i with
      | none => rw [hg] at hl; cases hl
      | cells cs e ro => rw [hg] at ho; obtain ⟨c, e', fr, k1, _⟩ := ho; rw [k1] at h3; cases h3
      | map es c => rw [hg] at ho; obtain ⟨xs, k1, _⟩ := ho; rw [k1] at h3; cases h3
      | siter t pos => rw [hg] at ho; rw [ho.1] at h3; cases h3
      | miter m since seen last => rw [hg] at ho; obtain ⟨mb, k1, _⟩ := ho; rw [k1] at h3; cases h3
      | loop N st pend tab env ps a b => rw [hg] at ho; obtain ⟨r, k1, _⟩ := ho; rw [k1] at h3; cases h3
    cases hl : (H'.get i).live with
    | true => exact ho.mono (Mu.le_refl _) (hne _ (nb hl))
    | false =>
      cases hg : H'.get i with
      | none => trivial
      | _ => rw [hg] at hl; simp [O.live] at hl
  · obtain ⟨c, e, fr, h, h'⟩ := hr.frz b vs hv
    exact ⟨c, e, fr, by rw [hne b (hz b vs hv)]; exact h, h'⟩
  · intro b hb hu
    rw [hne b (by omega)]; exact s.keeps b hb hu
def RO (μ : Mu) : Option Nat → Option Nat → Prop
  | none, none => True
  | some j, some l => ∃ L, μ j = some L ∧ L.b = l
  | _, _ => False
theorem RO.mono {ro rl : Option Nat} (h : RO μ ro rl) (hm : μ.le μ') : RO μ' ro rl := by
  unfold RO at *
  split at h
  · trivial
  · obtain ⟨L, a, b⟩ := h; exact ⟨L, hm.f _ _ a, b⟩
  · exact h.elim
def Post (lo B n0 N : Nat) (w0 : World) (μ : Mu) (H : Heap) (w : World) (k : K) (res : R) : Exit → Act → World → Prop := fun e a' w' =>
  ∃ x env' H' μ' rs, e = X.toExit x ∧ Step B w0 n0 μ H w μ' H' w' ∧ St (rs.map mark1) N μ' env' a' ∧ Marks μ' H' w' lo rs ∧ k x env' H' = some res
theorem Post.mono {lo : Nat} {k : K} {res : R} {e : Exit} {a : Act} (s : Step B w0 n0 μ H w μ' H' w') (h : Post lo B n0 N w0 μ' H' w' k res e a w'') : Post lo B n0 N w0 μ H w k res e a w'' := by
  obtain ⟨x, env', H1, μ1, rs, e1, s1, s2, s3, s4⟩ := h
  exact ⟨x, env', H1, μ1, rs, e1, s.trans s1, s2, s3, s4⟩
theorem Rel.loop (hr : Rel B w0 μ H w) {j : Nat} {L : Loc} (hj : μ j = some L) {N : Nat} {st st' : LoopState} {pend pend' : Option Code} {tab : List (Nat × List Nat)} {env : Env} {ps : List Nat} {a b : Code} (hg : H.get j = .loop N st pend tab env ps a b) :
    ∃ r : Loop, w.heap[L.b]? = some (.loop r) ∧ r.state = st ∧ r.pending = pend ∧ r.params.toList = ps ∧ r.assign = a ∧ r.body = b ∧ N ≤ r.tmps.size ∧ (∀ t, VRel μ (lk t env) (r.tmps.getD t undef)) ∧
      Step B w0 n0 μ H w μ (H.set j (.loop N st' pend' tab env ps a b)) (w.putObj L.b (.loop { r with state := st', pending := pend' })) ∧ ∀ ob, Step B w0 n0 μ H w μ (H.set j .none) (w.putObj L.b ob) := by
  have ho := hr.objs j L hj
  rw [hg] at ho
  obtain ⟨r, h1, hB, h2, h3, h4, h5, h6, h7, h8⟩ := ho
  have hlt : L.b < w.heap.size := (Array.getElem?_eq_some_iff.1 h1).1
  refine ⟨r, h1, h2, h3, h4, h5, h6, h7, h8, ?_, fun ob => ?_⟩
  · exact hr.write hj (by rw [hg]; rfl) hB rfl rfl rfl World.putObj_size (fun b hb => World.putObj_heap_other hb) ⟨_, World.putObj_heap_same hlt, hB, rfl, rfl, h4, h5, h6, h7, h8⟩
  · exact hr.write hj (by rw [hg]; rfl) hB rfl rfl rfl World.putObj_size (fun b hb => World.putObj_heap_other hb) trivial
theorem keepR_slot {μ : Mu} {tab : List (Nat × List Nat)} {a b : Code} {env : Env} {tmps : Array Value} (h : ∀ t, VRel μ (lk t env) (tmps.getD t undef)) (t : Nat) : VRel μ (lk t (keepR tab a b env)) (tmps.getD t undef) := by
  have k : ∀ L, VRel μ (lk t (keep L env)) (tmps.getD t undef) := by
    intro L
    rcases keep_lk (env := env) L t with e | e
    · rw [e]; exact h t
    · rw [e]; simp [VRel]
  unfold keepR
  split
  · exact k _
  · exact k _
theorem exec_sound (hm : P.follows .mixedOrders = true) (hc : CallSound P call) (hf : FrameCall call) {tab : List (Nat × List Nat)} {ro rl : Option Nat} {lo n : Nat} {res : R} :
    ∀ (c : Code) (k : K) (env : Env) (H : Heap) (μ : Mu) (rs : List Nat) (a : Act) (w : World), okC P N c = true → exec P call tab N ro n c env H k = some res → Rel B w0 μ H w → n0 ≤ H.n → lo ≤ w.heap.size → RO μ ro rl → St (rs.map mark1) N μ env a → Marks μ H w lo rs →
      c.wpIn (FR rl) 0 P (Post lo B n0 N w0 μ H w k res) a w := by
  intro c
  induction c with
  | skip => intro k env H μ rs a w _ h hr hn hl hq hs hms; exact wpIn_skip ⟨.normal, env, H, μ, rs, rfl, Step.refl hr, hs, hms, h⟩
  | label l => intro k env H μ rs a w _ h hr hn hl hq hs hms; exact wpIn_label ⟨.normal, env, H, μ, rs, rfl, Step.refl hr, hs, hms, h⟩
  | exit id => intro k env H μ rs a w _ h hr hn hl hq hs hms; exact wpIn_exit ⟨.exit id, env, H, μ, rs, rfl, Step.refl hr, hs, hms, h⟩
  | ret => intro k env H μ rs a w _ h hr hn hl hq hs hms; exact wpIn_ret ⟨.ret, env, H, μ, rs, rfl, Step.refl hr, hs, hms, h⟩
  | region id ops draw =>
    intro k env H μ rs a w ho h hr hn hl hq hs hms
    unfold exec at h
    exact region_sound hm hc hf (by simpa [okC] using ho) h hr hn hs fun a' w' env' H' μ' s hs' hk => ⟨.normal, env', H', μ', rs, rfl, s, hs', hms.step s, hk⟩
  | seq x y ihx ihy =>
    intro k env H μ rs a w ho h hr hn hl hq hs hms
    simp only [okC, Bool.and_eq_true] at ho
    unfold exec at h
    refine wpIn_seq (wpIn_mono (ihx _ env H μ rs a w ho.1 h hr hn hl hq hs hms) ?_)
    rintro e a' w' ⟨x', env', H', μ', rs', rfl, s1, s2, s4, s3⟩
    cases x' with
    | normal => exact wpIn_mono (ihy k _ H' μ' rs' a' w' ho.2 s3 s1.rel (Nat.le_trans hn s1.n) (Nat.le_trans hl s1.size) (hq.mono s1.le) (s2.keep _) s4) fun e a w h => h.mono s1
    | exit id => exact ⟨.exit id, env', H', μ', rs', rfl, s1, s2, s4, s3⟩
    | ret => exact ⟨.ret, env', H', μ', rs', rfl, s1, s2, s4, s3⟩
  | cond c x y ihx ihy =>
    intro k env H μ rs a w ho h hr hn hl hq hs hms
    simp only [okC, Bool.and_eq_true] at ho
    unfold exec at h
    cases hb : opd env c with
    | bool t =>
      rw [hb] at h
      have hv := hs.eval c
      rw [hb] at hv
      simp only [VRel] at hv
      refine wpIn_cond hv ?_
      cases t with
      | true => exact ihx k env H μ rs a w ho.1 h hr hn hl hq hs hms
      | false => exact ihy k env H μ rs a w ho.2 h hr hn hl hq hs hms
    | _ => rw [hb] at h; simp [asB] at h
  | block id c ih =>
    intro k env H μ rs a w ho h hr hn hl hq hs hms
    unfold exec at h
    refine wpIn_block (wpIn_mono (ih _ env H μ rs a w (by simpa [okC] using ho) h hr hn hl hq hs hms) ?_)
    rintro e a' w' ⟨x', env', H', μ', rs', rfl, s1, s2, s4, s3⟩
    cases x' with
    | normal => exact ⟨.normal, env', H', μ', rs', rfl, s1, s2, s4, s3⟩
    | ret => exact ⟨.ret, env', H', μ', rs', rfl, s1, s2, s4, s3⟩
    | exit j =>
      simp only [kB] at s3
      simp only [X.toExit, Exit.inBlock]
      split
      · rename_i hj; rw [if_pos hj] at s3; exact ⟨.normal, env', H', μ', rs', rfl, s1, s2, s4, s3⟩
      · rename_i hj; rw [if_neg hj] at s3; exact ⟨.exit j, env', H', μ', rs', rfl, s1, s2, s4, s3⟩
  | loop c ih =>
    intro k env H μ rs a w ho h hr hn hl hq hs hms
    unfold exec at h
    refine wpIn_loop_rounds n ?_
    have key : ∀ (m : Nat) (env : Env) (H1 : Heap) (μ1 : Mu) (rs1 : List Nat) (a1 : Act) (w1 : World), loopA (exec P call tab N ro n c) (tabOf tab c) m env H1 k = some res → Step B w0 n0 μ H w μ1 H1 w1 → St (rs1.map mark1) N μ1 env a1 → Marks μ1 H1 w1 lo rs1 →
        Code.roundsIn (FR rl) 0 P c (Post lo B n0 N w0 μ H w k res) m a1 w1 := by
      intro m
      induction m with
      | zero => intro env H1 μ1 rs1 a1 w1 h s hs hms; simp [loopA] at h
      | succ m ihm =>
        intro env H1 μ1 rs1 a1 w1 h s hs hms
        unfold loopA at h
        rw [roundsIn_succ]
        refine wpIn_mono (ih _ env H1 μ1 rs1 a1 w1 (by simpa [okC] using ho) h s.rel (Nat.le_trans hn s.n) (Nat.le_trans hl s.size) (hq.mono s.le) hs hms) ?_
        rintro e a' w' ⟨x', env', H', μ', rs', rfl, s1, s2, s4, s3⟩
        cases x' with
        | normal => exact ihm _ H' μ' rs' a' w' s3 (s.trans s1) (s2.keep _) s4
        | exit id => exact ⟨.exit id, env', H', μ', rs', rfl, s.trans s1, s2, s4, s3⟩
        | ret => exact ⟨.ret, env', H', μ', rs', rfl, s.trans s1, s2, s4, s3⟩
    exact key n _ H μ rs a w h (Step.refl hr) (hs.keep _) hms
  | rangeFunc f ps ca cb _ _ =>
    intro k env H μ rs a w _ h hr hn hl hq hs hms
    unfold exec at h
    split at h
    · rename_i g fs cs hfv
      split at h
      · rename_i hcond
        obtain ⟨hg1, hg2, hg3⟩ := hcond
        cases hcl : call g (fs ++ [.yld H.n] ++ cs) (H.push (.loop N .ready none tab (keepR tab ca cb env) ps.toList ca cb)) with
        | none => rw [hcl] at h; simp at h
        | some p =>
          rw [hcl] at h
          obtain ⟨v, H2⟩ := p
          have hfr := hs.eval f
          rw [hfv] at hfr
          simp only [VRel] at hfr
          obtain ⟨F', C', hfe, _, hF, hC⟩ := hfr
          have lay : ∀ fn, ∃ (l : Nat) (mark : List Deferred) (w1 : World) (rs' : List Nat), (Instr.enterLoop fn a.tmps ps ca cb (FR rl).round).run P w = .ok (l, mark) w1 ∧ mark ++ a.defers = rs'.map mark1 ∧
              Step B w0 n0 μ H w (μ.put H.n ⟨l, 0, 0⟩) (H.push (.loop N .ready none tab (keepR tab ca cb env) ps.toList ca cb)) w1 ∧ Marks (μ.put H.n ⟨l, 0, 0⟩) (H.push (.loop N .ready none tab (keepR tab ca cb env) ps.toList ca cb)) w1 lo rs' := by
            intro fn
            have hfree : FreeId μ H n0 none := hn
            have hnone := hr.fresh (Nat.le_refl H.n)
            have hle := Mu.le_put (L := ⟨w.heap.size, 0, 0⟩) hnone
            cases ro with
            | none =>
              cases rl with
              | some l => exact hq.elim
              | none =>
                have w1b : Below w.heap.size w (w.alloc (.deferred (some []))) := (Below.refl _ _).alloc (Nat.le_refl _) _
                have r1 := hr.grow w1b
                have s1 : Step B w0 n0 μ H w μ H (w.alloc (.deferred (some []))) := ⟨Mu.le_refl _, r1, Nat.le_refl _, w1b.size, fun b h _ => w1b.block b h, fun _ _ e => .inl ⟨e, id, id⟩, fun _ _ h => .inl h⟩
                have hsz : (w.alloc (.deferred (some []))).heap.size = w.heap.size + 1 := by simp
                have hle1 := Mu.le_put (L := ⟨w.heap.size + 1, 0, 0⟩) hnone
                have s2 := r1.alloc (n0 := n0) hfree (sz := 0) (o := .loop N .ready none tab (keepR tab ca cb env) ps.toList ca cb) (w' := (w.alloc (.deferred (some []))).alloc (.loop { state := .ready, pending := none, fn, tmps := a.tmps, params := ps, assign := ca, body := cb, defers := w.heap.size })) rfl rfl rfl rfl
                  ⟨_, World.alloc_heap_new _ _, by have := r1.size; exact this, rfl, rfl, rfl, rfl, rfl, hs.size, fun t => VRel.mono (by rw [hsz]; exact hle1) _ _ (keepR_slot hs.slot t)⟩
                simp only [newA] at s2
                rw [hsz] at s2
                refine ⟨_, _, _, w.heap.size :: rs, run_enterLoop_outer fn a.tmps ps ca cb, ?_, s1.trans s2, ?_⟩
                · rw [hs.defers]; rfl
                · have m1 := (hms.step s1).step s2
                  refine ⟨List.nodup_cons.2 ⟨fun h => ?_, m1.nodup⟩, fun r hr' => ?_, fun r hr' => ?_, fun r hr' j L e ho => ?_⟩
                  · have := hms.lt h; omega
                  · rcases List.mem_cons.1 hr' with rfl | hr'
                    · rw [Below.heap_alloc _ _ _ (by rw [hsz]; omega)]; exact World.alloc_heap_new _ _
                    · exact m1.blk r hr'
                  · rcases List.mem_cons.1 hr' with rfl | hr'
                    · exact hl
                    · exact m1.lo r hr'
                  · rcases List.mem_cons.1 hr' with rfl | hr'
                    · simp only [Mu.put] at e
                      split at e
                      · simp at e; subst e; simp
                      · rename_i hjn
                        rw [Heap.get_push, if_neg hjn] at ho
                        have hlv : (H.get j).live = true := by cases hgj : H.get j <;> simp_all [O.own, O.live]
                        have := (hr.dom j L e).2 hlv
                        omega
                    · exact m1.off r hr' j L e ho
            | some j0 =>
              cases rl with
              | none => exact hq.elim
              | some l0 =>
                obtain ⟨L0, hj0, rfl⟩ := hq
                simp only [roOk] at hg3
                split at hg3
                · rename_i hgl
                  obtain ⟨r0, h0, _⟩ := hr.loop (n0 := n0) (st' := .ready) (pend' := none) hj0 hgl
                  have s2 := hr.alloc (n0 := n0) hfree (sz := 0) (o := .loop N .ready none tab (keepR tab ca cb env) ps.toList ca cb) (w' := w.alloc (.loop { state := .ready, pending := none, fn, tmps := a.tmps, params := ps, assign := ca, body := cb, defers := r0.defers })) rfl rfl rfl rfl
                    ⟨_, World.alloc_heap_new _ _, hr.size, rfl, rfl, rfl, rfl, rfl, hs.size, fun t => VRel.mono hle _ _ (keepR_slot hs.slot t)⟩
                  simp only [newA] at s2
                  refine ⟨_, _, _, rs, run_enterLoop_inner h0 fn a.tmps ps ca cb, ?_, s2, hms.step s2⟩
                  rw [hs.defers]; rfl
                · cases hg3
          refine wpIn_rangeFunc fun fn _ => ?_
          obtain ⟨l, mk, w1, rs', he, hmk, sl, ml⟩ := lay fn
          have hj : (μ.put H.n ⟨l, 0, 0⟩) H.n = some ⟨l, 0, 0⟩ := Mu.put_same
          have hfe1 : ∀ (ds : List Deferred), Act.eval { a with defers := ds } f = .func (.func g) F' C' := fun ds => hfe
          refine ⟨l, mk, w1, { target := .fn (.func g) C', args := F' ++ #[.func (.yield l) #[] #[]] }, w1, g, F' ++ #[.func (.yield l) #[] #[]] ++ C', w1, he, ?_, fun _ _ => trivial, ?_, fun h => (by simp [FR, Fence.wide] at h), ?_⟩
          · have e0 : a.eval (.const (.func (.yield l) #[] #[])) = .func (.yield l) #[] #[] := rfl
            simp [resolve, rangeCall, hfe, Deferred.ofValue, e0]
          · exact callFunc_run hg2
          · have hcs := (hc g _ _ v H2 hcl B n0 w0 w1 (μ.put H.n ⟨l, 0, 0⟩) (F' ++ #[.func (.yield l) #[] #[]] ++ C') sl.rel (Nat.le_trans hn sl.n) (by
              simp only [Array.toList_append]
              refine VRels.append (VRels.append (VRels.mono sl.le _ _ hF) ?_) (VRels.mono sl.le _ _ hC)
              simp only [VRels, VRel]
              exact ⟨_, [], rfl, ⟨_, hj, rfl⟩, rfl⟩)).1 hg1
            rw [callFunc_run hg2] at hcs
            simp only [Gives] at hcs
            refine (callsIn_wide (n := 0)).2 (hcs.mono ?_)
            rintro e w3 ⟨x, rfl, μ3, s3, _⟩
            simp only [rangePost]
            have hj3 := s3.le.f _ _ hj
            replace h : endA H.n env H2 k = some res := h
            unfold endA at h
            split at h
            · rename_i N' st pend tab' env' ps' a' b' hg'
              obtain ⟨r, h1, h2, h3, _, _, _, _, _, _, hk⟩ := s3.rel.loop (n0 := n0) (st' := .ready) (pend' := none) hj3 hg'
              have hst : St (rs'.map mark1) N μ3 env { a with defers := mk ++ a.defers } := ⟨hmk, hs.size, fun t => VRel.mono (Mu.le_trans sl.le s3.le) _ _ (hs.slot t)⟩
              have fin : ∀ ob, Step B w0 n0 μ H w μ3 (H2.set H.n .none) (w3.putObj l ob) := fun ob => (sl.trans s3).trans (hk ob)
              have mfin : ∀ ob, Marks μ3 (H2.set H.n .none) (w3.putObj l ob) lo rs' := fun ob => (ml.step s3).step (hk ob)
              split at h
              · cases h
              · rename_i hnb
                refine ⟨r.pending, w3.putObj l (.loop { r with state := .exhausted }), run_endLoop h1 (by rw [h2]; exact hnb), ?_⟩
                rw [h3]
                split at h
                · exact ⟨.normal, env, _, μ3, rs', rfl, fin _, hst, mfin _, h⟩
                · exact wpIn_ret ⟨.ret, env, _, μ3, rs', rfl, fin _, hst, mfin _, h⟩
                · exact wpIn_exit ⟨.exit _, env, _, μ3, rs', rfl, fin _, hst, mfin _, h⟩
                · cases h
            · cases h
      · cases h
    · cases h
  | _ => intro k env H μ rs a w _ h; simp [exec] at h
def resOne (tmps : Array Value) : ResultVar → Sem Value
  | .tmp t => pure (tmps.getD t undef)
  | .cell a t => do loadVar t (← asAddr (tmps.getD a undef))
theorem resA_sound (hr : Rel B w0 μ H w) {env : Env} {tmps : Array Value} (hs : ∀ t, VRel μ (lk t env) (tmps.getD t undef)) {res : R} : ∀ (rs : List ResultVar) (k : List V → Option R), resA P env H rs k = some res →
    ∃ vs xs, k vs = some res ∧ (rs.mapM (resOne tmps)).run P w = .ok xs w ∧ VRels μ vs xs
  | [], k, h => ⟨[], [], h, by simp, rfl⟩
  | .tmp t :: rs, k, h => by
    unfold resA at h
    obtain ⟨vs, xs, h1, h2, h3⟩ := resA_sound hr hs rs _ h
    refine ⟨_, tmps.getD t undef :: xs, h1, ?_, ?_⟩
    · rw [List.mapM_cons]
      simp only [resOne, Sem.run_bind, Sem.run_pure, Result.andThen_ok, h2]
    · simp only [VRels]; exact ⟨_, _, rfl, hs t, h3⟩
  | .cell a t :: rs, k, h => by
    unfold resA at h
    cases hl : loadA P t (lk a env) H with
    | none => rw [hl] at h; simp at h
    | some v =>
      rw [hl] at h
      obtain ⟨ad, y, h4, h5, h6⟩ := loadA_sound (P := P) hr hl (hs a)
      obtain ⟨vs, xs, h1, h2, h3⟩ := resA_sound hr hs rs _ h
      refine ⟨_, y :: xs, h1, ?_, ?_⟩
      · rw [List.mapM_cons]
        simp only [resOne, h4, asAddr, Sem.run_bind, Sem.run_pure, Result.andThen_ok, h5, h2]
      · simp only [VRels]; exact ⟨_, _, rfl, h6, h3⟩
theorem results_sound (hr : Rel B w0 μ H w) {env : Env} {tmps : Array Value} (hs : ∀ t, VRel μ (lk t env) (tmps.getD t undef)) {fn : Func} {v : V} {H' : Heap} {b : Bool} (h : resA P env H fn.results.toList (fun vs => exitA b (oneV H vs)) = some (v, H')) :
    ∃ v0 y, (results fn tmps).run P w = .ok y w ∧ VRel μ v0 y ∧ exitA b (some (v0, H)) = some (v, H') := by
  obtain ⟨vs, xs, h1', h2, h3⟩ := resA_sound (P := P) hr hs _ _ h
  obtain ⟨v0, h1⟩ : ∃ v0, oneV H vs = some (v0, H) := by unfold oneV; split <;> exact ⟨_, rfl⟩
  rw [h1] at h1'
  have hrun : (results fn tmps).run P w = .ok (if h : xs.toArray.size = 1 then xs.toArray[0] else .tuple xs.toArray) w := by
    have he : results fn tmps = (fn.results.mapM (resOne tmps) >>= fun vs => pure (if h : vs.size = 1 then vs[0] else .tuple vs)) := by
      unfold results
      congr 1
    rw [he, Array.mapM_eq_mapM_toList]
    simp only [Sem.run_bind, map_eq_pure_bind]
    rw [h2]
    simp
  have hl := h3.length
  unfold oneV at h1
  split at h1
  · rename_i u
    simp at h1
    subst h1
    simp only [VRels] at h3
    obtain ⟨y, ys, rfl, h4, rfl⟩ := h3
    exact ⟨u, y, by rw [hrun]; simp, h4, h1'⟩
  · rename_i hne
    simp at h1
    subst h1
    refine ⟨_, .tuple xs.toArray, ?_, by simp only [VRel]; exact ⟨_, rfl, by simpa using h3⟩, h1'⟩
    rw [hrun, dif_neg]
    intro h1
    simp at h1
    rw [hl] at h1
    match vs, h1, hne with
    | [u], _, hne => exact hne u rfl
def okFun (P : Program) (f : FuncId) : Bool := match P.funcs[f]? with
  | some fn => match fn.body with
    | some c => !(fn.name == "runtime.NumGoroutine") && okC P fn.ntmps c
    | none => true
  | none => true
theorem lk_args : ∀ (vs : List V) (i t : Nat), lk t (argsA i vs) = if i ≤ t then (vs[t - i]?).getD .dead else .dead
  | [], i, t => by simp [argsA, lk]
  | v :: vs, i, t => by
    simp only [argsA, lk]
    by_cases h : t = i
    · subst h; simp
    · rw [if_neg h, lk_args vs (i + 1) t]
      by_cases h2 : i ≤ t
      · rw [if_pos h2, if_pos (by omega), show t - i = (t - (i + 1)) + 1 by omega]; simp
      · rw [if_neg h2, if_neg (by omega)]
def ExtSound (P : Program) (f : FuncId) (g : List V → Heap → Option R) : Prop :=
  ∀ args H v H', g args H = some (v, H') → ∀ (B n0 : Nat) (w0 w : World) (μ : Mu) (xs : Array Value), Rel B w0 μ H w → n0 ≤ H.n → VRels μ args xs.toList →
    Gives P (fun x w' => ∃ μ', Step B w0 n0 μ H w μ' H' w' ∧ VRel μ' v x) ((callFunc f xs).run P w)
def ExtFrame (g : List V → Heap → Option R) : Prop :=
  ∀ args H v H' X G, g args H = some (v, H') → Ext X H G → ∃ G', g args G = some (v, G') ∧ Ext X H' G'
structure Cfg.Ok (C : Cfg) : Prop where
  mixed : C.P.follows .mixedOrders = true
  fns : ∀ f tab, C.tabs f = some tab → okFun C.P f = true
  ext : ∀ f g, C.ext f = some g → ExtSound C.P f g ∧ ExtFrame g
  okc : ∀ N c, C.okc N c = true → okC C.P N c = true
theorem setA_slot {μ : Mu} : ∀ (ps : List Nat) (args : List V) (xs : List Value) (env : Env) (tmps : Array Value), ps.length = args.length → VRels μ args xs → (∀ t ∈ ps, t < tmps.size) → (∀ t, VRel μ (lk t env) (tmps.getD t undef)) →
    ((ps.zip xs).foldl (fun (tmps : Array Value) (p : Nat × Value) => tmps.setIfInBounds p.1 p.2) tmps).size = tmps.size ∧ ∀ t, VRel μ (lk t (setA ps args env)) (((ps.zip xs).foldl (fun (tmps : Array Value) (p : Nat × Value) => tmps.setIfInBounds p.1 p.2) tmps).getD t undef)
  | [], args, xs, env, tmps, hl, hv, hb, hs => by
    cases args with
    | nil => exact ⟨rfl, by simpa [setA] using hs⟩
    | cons v vs => simp at hl
  | t :: ps, [], xs, env, tmps, hl, hv, hb, hs => by simp at hl
  | t :: ps, v :: args, xs, env, tmps, hl, hv, hb, hs => by
    simp only [VRels] at hv
    obtain ⟨y, ys, rfl, h1, h2⟩ := hv
    have hlt := hb t (by simp)
    obtain ⟨a, b⟩ := setA_slot ps args ys ((t, v) :: env) (tmps.setIfInBounds t y) (by simpa using hl) h2 (fun u hu => by simpa using hb u (by simp [hu])) (fun u => by
      rw [getD_set hlt]
      simp only [lk]
      split
      · exact h1
      · exact hs u)
    exact ⟨by simpa using a, b⟩
theorem leave {fn : Func} {tmps : Array Value} {R' : Ending → World → Prop} (hB : B ≤ w.heap.size) (hfin : ∀ w'', Step B w0 n0 μ H w μ' H' w'' → ∃ y, (results fn tmps).run P w'' = .ok y w'' ∧ R' (.returned y) w'') :
    ∀ (rs : List Nat) (w' : World), Marks μ' H' w' w.heap.size rs → Step B w0 n0 μ H w μ' H' w' → LeavesInM Fence.wide 0 P fn tmps R' (rs.map mark1) .returning w'
  | [], w', m, s => hfin w' s
  | r :: rs, w', m, s => by
    have hb := m.blk r (by simp)
    have hn := List.nodup_cons.1 m.nodup
    refine ⟨by simp, .inl ⟨r, w'.putObj r (.deferred none), rfl, run_takeDeferred hb, leave hB hfin rs _ ⟨hn.2, fun r' h => ?_, fun r' h => m.lo r' (by simp [h]), fun r' h => m.off r' (by simp [h])⟩ (s.off hB (m.lo r (by simp)) ⟨_, hb⟩)⟩⟩
    have hne : r' ≠ r := by intro e; subst e; exact hn.1 h
    rw [World.putObj_heap_other hne]
    exact m.blk r' (by simp [h])
theorem callA_sound {C : Cfg} (ok : C.Ok) : ∀ n, CallSound C.P (callA C n) := by
  have hfr := callA_frame (C := C) fun f g h => (ok.ext f g h).2
  intro n
  induction n with
  | zero => intro f args H v H' h; simp [callA] at h
  | succ n ih =>
    intro f args H v H' h B n0 w0 w μ xs hr hn hv
    unfold callA at h
    by_cases hy : yB ≤ f
    · rw [if_pos hy] at h
      refine ⟨fun hlt => absurd hlt (Nat.not_lt.2 hy), fun j L hfj hL => ?_⟩
      have hj : f - yB = j := by rw [hfj]; exact Nat.add_sub_cancel_left ..
      subst hj
      unfold yieldA at h
      split at h
      · rename_i N pend tab env ps ca cb hg
        split at h
        · rename_i hcond
          obtain ⟨c1, c2, c3, c4⟩ := hcond
          obtain ⟨r, h1, h2, h3, h4, h5, h6, h7, h8, _⟩ := hr.loop (n0 := n0) (st' := .ready) (pend' := none) hL hg
          have hsz : xs.size = r.params.size := by
            have a1 := hv.length
            have a2 : r.params.size = ps.length := by rw [← h4]; simp
            have a3 : xs.size = xs.toList.length := by simp
            omega
          rw [run_yield h1 hsz]
          simp only [Gives]
          have hps : ∀ t ∈ ps, t < r.tmps.size := fun t ht => Nat.lt_of_lt_of_le (by simpa using List.all_eq_true.1 c4 t ht) h7
          obtain ⟨z1, z2⟩ := setA_slot (μ := μ) ps args xs.toList env r.tmps c1 hv hps h8
          have efold : (r.params.zip xs).foldl (fun (tmps : Array Value) (x : Nat × Value) => match x with | (t, a) => tmps.setIfInBounds t a) r.tmps = (ps.zip xs.toList).foldl (fun (tmps : Array Value) (p : Nat × Value) => tmps.setIfInBounds p.1 p.2) r.tmps := by
            rw [← Array.foldl_toList, Array.toList_zip, h4]
          refine roundIn_of_wpIn (F := Fence.wide) trivial ?_
          rw [efold, h5, h6]
          have st0 : St (([] : List Nat).map mark1) N μ (setA ps args env) { tmps := (ps.zip xs.toList).foldl (fun (tmps : Array Value) (p : Nat × Value) => tmps.setIfInBounds p.1 p.2) r.tmps, defers := [] } := ⟨rfl, by rw [z1]; exact h7, z2⟩
          have e1 := exec_sound (P := C.P) (B := B) (n0 := n0) (w0 := w0) (rl := some L.b) (lo := 0) ok.mixed ih (hfr n) ca _ _ H μ [] _ w (ok.okc _ _ c2) h hr hn (Nat.zero_le _) ⟨L, hL, rfl⟩ st0 Marks.nil
          refine wpIn_mono e1 ?_
          rintro e a1 w1 ⟨x, env1, H1, μ1, rs1, rfl, s1, st1, m1, hk⟩
          cases x with
          | exit id => cases hk
          | ret => cases hk
          | normal =>
            simp only [kG] at hk
            simp only [X.toExit, Exit.then]
            split at hk
            · rename_i N1 pend1 tab1 env1' ps1 ca1 cb1 hg1
              have hL1 := s1.le.f _ _ hL
              obtain ⟨r1, q1, q2, q3, _, _, _, _, _, q4, _⟩ := s1.rel.loop (n0 := n0) (st' := .busy) (pend' := pend1) hL1 hg1
              refine ⟨w1.putObj L.b (.loop { r1 with state := .busy }), run_beginRound q1 q2, ?_⟩
              have q4' : Step B w0 n0 μ1 H1 w1 μ1 (H1.set (f - yB) (.loop N1 .busy pend1 tab1 env1' ps1 ca1 cb1)) (w1.putObj L.b (.loop { r1 with state := .busy })) := by subst q3; exact q4
              have e2 := exec_sound (P := C.P) (B := B) (n0 := n0) (w0 := w0) (rl := some L.b) (lo := 0) ok.mixed ih (hfr n) cb _ _ _ μ1 rs1 _ _ (ok.okc _ _ c3) hk q4'.rel (Nat.le_trans hn (Nat.le_trans s1.n q4'.n)) (Nat.zero_le _) ⟨L, hL1, rfl⟩ st1 (m1.step q4')
              refine wpIn_mono e2 ?_
              rintro e a2 w2 ⟨x2, env2, H2, μ2, rs2, rfl, s2, st2, m2, hk2⟩
              have hL2 := s2.le.f _ _ hL1
              simp only [kY] at hk2
              split at hk2
              · rename_i N2 st2' pend2 tab2 env2' ps2 ca2 cb2 hg2
                have pre := (s1.trans q4').trans s2
                cases x2 with
                | normal =>
                  obtain ⟨r2, t1, _, _, _, _, _, _, _, t4, _⟩ := s2.rel.loop (n0 := n0) (st' := .ready) (pend' := none) hL2 hg2
                  simp at hk2
                  obtain ⟨rfl, rfl⟩ := hk2
                  exact ⟨_, _, run_endRound none t1, _, rfl, μ2, pre.trans t4, by simp [VRel]⟩
                | ret =>
                  obtain ⟨r2, t1, _, _, _, _, _, _, _, t4, _⟩ := s2.rel.loop (n0 := n0) (st' := .done) (pend' := some .ret) hL2 hg2
                  simp at hk2
                  obtain ⟨rfl, rfl⟩ := hk2
                  exact ⟨_, _, run_endRound (some .ret) t1, _, rfl, μ2, pre.trans t4, by simp [VRel]⟩
                | exit id =>
                  obtain ⟨r2, t1, _, _, _, _, _, _, _, t4, _⟩ := s2.rel.loop (n0 := n0) (st' := .done) (pend' := some (.exit id)) hL2 hg2
                  simp at hk2
                  obtain ⟨rfl, rfl⟩ := hk2
                  exact ⟨_, _, run_endRound (some (.exit id)) t1, _, rfl, μ2, pre.trans t4, by simp [VRel]⟩
              · cases hk2
            · cases hk
        · cases h
      · cases h
    rw [if_neg hy] at h
    refine ⟨fun _ => ?_, fun j L e _ => absurd (e ▸ Nat.le_add_right yB j) hy⟩
    split at h
    · rename_i g hg
      exact (ok.ext f g hg).1 args H v H' h B n0 w0 w μ xs hr hn hv
    · split at h
      · rename_i tab htab
        have hok := ok.fns f tab htab
        split at h
        · rename_i fn hfn
          split at h
          · rename_i c hbody
            simp only [okFun, hfn, hbody, Bool.and_eq_true, Bool.not_eq_true'] at hok
            have hrun : (callFunc f xs).run C.P w = .ok (.enter f xs) w := by
              have hne : ¬ fn.name = "runtime.NumGoroutine" := by simpa using hok.1
              simp [callFunc, hfn, hbody, hne]
            rw [hrun]
            simp only [Gives]
            have main : ∀ (n0 : Nat) (μ : Mu) (H : Heap), n0 ≤ H.n → ∀ (args : List V) (H1 : Heap) (μ1 : Mu) (v : V) (H' : Heap), Step B w0 n0 μ H w μ1 H1 w → VRels μ1 args xs.toList → exec C.P (callA C n) tab fn.ntmps none n c (argsA 0 args) H1 (kRet C.P (C.fr f) fn.results.toList) = some (v, H') →
                Calls C.P f xs w fun e w' => ∃ x, e = .returned x ∧ ∃ μ', Step B w0 n0 μ H w μ' H' w' ∧ VRel μ' v x := by
              intro n0 μ H hn args H1 μ1 v H' s0 hv h
              have hst : St (([] : List Nat).map mark1) fn.ntmps μ1 (argsA 0 args) { tmps := xs ++ Array.replicate (fn.ntmps - xs.size) undef, defers := [] } := by
                refine ⟨rfl, by simp; omega, ?_⟩
                intro t
                rw [lk_args]
                simp only [Nat.zero_le, if_true, Nat.sub_zero]
                cases ha : args[t]? with
                | none => simp [VRel]
                | some u =>
                  obtain ⟨x, e, q⟩ := hv.get t u ha
                  have hlt := (List.getElem?_eq_some_iff.1 e).1
                  simp at hlt
                  rw [Array.getD_eq_getD_getElem?, Array.getElem?_append_left hlt]
                  have e' : xs[t]? = some x := by simpa using e
                  rw [e']; exact q
              refine (callsIn_wide (n := 0)).1 (callsIn_of_wp_marks (F := Fence.wide) (n := 0) hfn hbody trivial (wpIn_mono (exec_sound (P := C.P) (B := B) (n0 := n0) (w0 := w0) (rl := none) (lo := w.heap.size) ok.mixed ih (hfr n) c _ _ H1 μ1 [] _ w hok.2 h s0.rel (Nat.le_trans hn s0.n) (Nat.le_refl _) trivial hst Marks.nil) ?_))
              rintro e a' w' ⟨x', env', H2, μ2, rs, rfl, s1, s2, ms, s3⟩
              have key : resA C.P env' H2 fn.results.toList (fun vs => exitA (C.fr f) (oneV H2 vs)) = some (v, H') → LeavesInM Fence.wide 0 C.P fn a'.tmps (fun e w' => ∃ x, e = Ending.returned x ∧ ∃ μ', Step B w0 n0 μ H w μ' H' w' ∧ VRel μ' v x) a'.defers .returning w' := by
                intro h
                rw [s2.defers]
                refine leave (P := C.P) s0.rel.size (fun w'' s1 => ?_) rs w' ms s1
                obtain ⟨v0, y, h1, h2, h3⟩ := results_sound s1.rel s2.slot h
                unfold exitA at h3
                split at h3
                · obtain ⟨μ3, s4, h5⟩ := frzR_sound (n0 := n0) s1.rel h3 h2
                  exact ⟨y, h1, y, rfl, μ3, (s0.trans s1).trans s4, h5⟩
                · simp at h3
                  obtain ⟨rfl, rfl⟩ := h3
                  exact ⟨y, h1, y, rfl, μ2, s0.trans s1, h2⟩
              cases x' with
              | normal => exact key s3
              | ret => exact key s3
              | exit id => simp [kRet] at s3
            split at h
            · unfold pureA at h
              split at h
              · rename_i p hp
                obtain ⟨μ1, s1, h1⟩ := frzAs_sound (n0 := n0) hr (vs' := p.1) (H' := p.2) hp hv
                split at h
                · rename_i hfr
                  split at h
                  · rename_i q hq
                    split at h
                    · rename_i hfv
                      simp at h
                      obtain ⟨rfl, rfl⟩ := h
                      obtain ⟨qv, qH⟩ := q
                      have va : VRels ⟨fun _ => none, μ1.z⟩ p.1 xs.toList := VRels.free (μ := μ1) (ν := ⟨fun _ => none, μ1.z⟩) (fun b vs h => h) _ _ hfr h1
                      refine (main 0 ⟨fun _ => none, μ1.z⟩ ⟨0, .nil⟩ (Nat.le_refl _) p.1 ⟨0, .nil⟩ _ qv qH (Step.refl (pure_start s1.rel)) va hq).mono ?_
                      rintro e w' ⟨x, he, μ2, s2, hx⟩
                      exact ⟨x, he, ⟨μ1.f, μ2.z⟩, s1.trans (pure_end s1.rel s2), VRel.free (μ := μ2) (ν := ⟨μ1.f, μ2.z⟩) (fun b vs h => h) _ _ hfv hx⟩
                    · cases h
                  · cases h
                · cases h
              · cases h
            unfold inA at h
            split at h
            · split at h
              · rename_i p hp
                obtain ⟨μ1, s1, h1⟩ := frzAs_sound (n0 := n0) hr (vs' := p.1) (H' := p.2) hp hv
                exact main n0 μ H hn p.1 p.2 μ1 v H' s1 h1 h
              · cases h
            · exact main n0 μ H hn args H μ v H' (Step.refl hr) hv h
          · simp at h
        · simp at h
      · simp at h
end
end Go.AM
end
section
set_option linter.unusedVariables false
set_option linter.unusedSimpArgs false
set_option maxRecDepth 1000000
namespace Go.AM
noncomputable abbrev P : Program := Go.Proofs.Tryz.prog
theorem look_mem {α : Type} {f : Nat} {t : α} : ∀ {l : List (Nat × α)}, l.lookup f = some t → (f, t) ∈ l
  | [], h => by cases h
  | (a, b) :: l, h => by
    rw [List.lookup_cons] at h
    split at h
    · rename_i he
      have : f = a := by simpa using he
      simp at h; subst h; subst this; exact List.mem_cons_self
    · exact List.mem_cons_of_mem _ (look_mem h)
theorem seat_mixed : P.follows .mixedOrders = true := by kernel_rfl
end Go.AM
end
section
set_option linter.unusedVariables false
set_option linter.unusedSimpArgs false
set_option linter.unusedSimpArgs false
namespace Go.AM
open Go.RowKit (Below)
def WT (P : Program) : Nat → TypeId → List V → Heap → Prop
  | 0, _, _, _ => False
  | fuel + 1, t, cs, H => match P.underlying t with
    | some .bool => ∃ b, cs = [.bool b]
    | some (.int k) => ∃ n, cs = [.int k n] ∧ (Lit.int k n).wf = true
    | some .string => ∃ s : List UInt8, cs = [.str s] ∧ s.length ≤ maxLen
    | some (.slice e) => cs = [.slice ⟨none, 0, 0, false⟩] ∨ ∃ i len full, cs = [.slice ⟨some (i, 0), len, P.cellsOf e, full⟩] ∧ i < H.n ∧ len ≤ maxLen ∧
        (len ≠ 0 → ∃ el xs, H.get i = .cells xs el true ∧ xs.length = len * P.cellsOf e ∧ ∀ j, j < len → WT P fuel e ((xs.drop (j * P.cellsOf e)).take (P.cellsOf e)) H)
    | some (.struct fs) => cs.length = P.cellsOf t ∧ ∀ f ∈ fs.toList, WT P fuel f.type ((cs.drop f.offset).take (P.cellsOf f.type)) H
    | some (.array n e) => cs.length = P.cellsOf t ∧ ∀ i, i < n → WT P fuel e ((cs.drop (i * P.cellsOf e)).take (P.cellsOf e)) H
    | _ => False
def tiles (P : Program) : List Field → Nat → Nat → Bool
  | [], off, total => off == total
  | f :: fs, off, total => f.offset == off && tiles P fs (off + P.cellsOf f.type) total
def plainT (P : Program) : Nat → TypeId → Bool
  | 0, _ => false
  | fuel + 1, t => match P.underlying t with
    | some .bool | some (.int _) | some .string => decide (P.cellsOf t = 1)
    | some (.slice e) => decide (P.cellsOf t = 1) && decide (0 < P.cellsOf e) && plainT P fuel e
    | some (.struct fs) => tiles P fs.toList 0 (P.cellsOf t) && fs.toList.all fun f => plainT P fuel f.type
    | some (.array n e) => decide (n * P.cellsOf e = P.cellsOf t) && plainT P fuel e
    | _ => false
structure Grows (μ : Mu) (H : Heap) (μ' : Mu) (H' : Heap) : Prop where
  le : μ.le μ'
  n : H.n ≤ H'.n
  get : ∀ i, i < H.n → H'.get i = H.get i
section
variable {P : Program} {B n0 N : Nat} {w0 w1 w w' w'' : World} {μ0 μ μ' μ'' ν : Mu} {H0 H H' H'' : Heap}
theorem Grows.refl : Grows μ H μ H := ⟨Mu.le_refl _, Nat.le_refl _, fun _ _ => rfl⟩
theorem Grows.trans (h : Grows μ H μ' H') (k : Grows μ' H' μ'' H'') : Grows μ H μ'' H'' :=
  ⟨Mu.le_trans h.le k.le, Nat.le_trans h.n k.n, fun i hi => (k.get i (Nat.lt_of_lt_of_le hi h.n)).trans (h.get i hi)⟩
theorem WT.mono (hn : H.n ≤ H'.n) (hg : ∀ i, i < H.n → H'.get i = H.get i) : ∀ (fuel : Nat) (t : TypeId) (cs : List V), WT P fuel t cs H → WT P fuel t cs H'
  | 0, t, cs, h => h
  | fuel + 1, t, cs, h => by
    unfold WT at h ⊢
    split at h
    · exact h
    · exact h
    · exact h
    · rcases h with h | ⟨i, len, full, h1, h2, h3, h4⟩
      · exact .inl h
      · refine .inr ⟨i, len, full, h1, by omega, h3, fun hl => ?_⟩
        obtain ⟨el, xs, k1, k2, k3⟩ := h4 hl
        exact ⟨el, xs, by rw [hg i h2]; exact k1, k2, fun j hj => WT.mono hn hg fuel _ _ (k3 j hj)⟩
    · exact ⟨h.1, fun f hf => WT.mono hn hg fuel _ _ (h.2 f hf)⟩
    · exact ⟨h.1, fun i hi => WT.mono hn hg fuel _ _ (h.2 i hi)⟩
    · exact h
theorem Rel.lay (hr : Rel B w0 μ H w) {L : Loc} {o : O} (hlive : o.live = true → L.b < w.heap.size) (hown : o.own = false) (hsep : ∀ j M, μ j = some M → (H.get j).own = false)
    (ho : ORel (μ.put H.n L) B o L w) : Rel B w0 (μ.put H.n L) (H.push o) w := by
  have hfr : μ H.n = none := hr.fresh (Nat.le_refl _)
  have hle := Mu.le_put (L := L) hfr
  have hget : ∀ j, (H.push o).get j = if j = H.n then o else H.get j := fun j => Heap.get_push _ _ _
  refine ⟨hr.below, hr.size, ?_, ?_, ?_, ?_, ?_, ?_, fun j M e ho2 => by
    rw [hget] at ho2
    simp only [Mu.put] at e
    split at e
    · rename_i hj; rw [if_pos hj, hown] at ho2; cases ho2
    · rename_i hj; rw [if_neg hj] at ho2; exact hr.flat j M e ho2⟩
  · intro j M e
    simp only [Mu.put] at e
    rw [hget]
    split at e
    · rename_i hj; subst hj; simp at e; subst e; rw [if_pos rfl]; exact ⟨by simp, hlive⟩
    · rename_i hj
      have := hr.dom j M e
      rw [if_neg hj]
      exact ⟨by simp; omega, this.2⟩
  · intro j M e
    simp only [Mu.put] at e
    rw [hget]
    split at e
    · rename_i hj; subst hj; simp at e; subst e; rw [if_pos rfl]; exact ho
    · rename_i hj; rw [if_neg hj]; exact (hr.objs j M e).mono hle rfl
  · intro j k M N' e1 e2 hjk l1 l2 l3
    exfalso
    rw [hget] at l3
    simp only [Mu.put] at e1
    split at e1
    · rename_i hj; rw [if_pos hj, hown] at l3; cases l3
    · rename_i hj; rw [if_neg hj, hsep j M e1] at l3; cases l3
  · intro i hi
    simp at hi
    rw [hget, if_neg (by omega)]
    exact hr.clean i (by omega)
  · exact hr.frz
  · intro b vs hz k N e2 ho2
    exfalso
    rw [hget] at ho2
    simp only [Mu.put] at e2
    split at e2
    · rename_i hj; rw [if_pos hj, hown] at ho2; cases ho2
    · rename_i hj; rw [if_neg hj, hsep k N e2] at ho2; cases ho2
def Got (P : Program) (B : Nat) (w0 : World) (μ : Mu) (H : Heap) (w : World) (fuel : Nat) (t : TypeId) (cs : List Value) : Prop :=
  ∃ μ' H' vs, Grows μ H μ' H' ∧ Rel B w0 μ' H' w ∧ (∀ j M, μ' j = some M → (H'.get j).own = false) ∧ VRels μ' vs cs ∧ vs.all V.one = true ∧ vs.length = P.cellsOf t ∧ WT P fuel t vs H'
theorem mapM_some {α β : Type} {f : α → Option β} : ∀ {xs : List α} {ys : List β}, xs.mapM f = some ys → xs.length = ys.length ∧ ∀ (i : Nat) (x : α), xs[i]? = some x → ∃ y, f x = some y ∧ ys[i]? = some y
  | [], ys, h => by simp at h; subst h; simp
  | x :: xs, ys, h => by
    rw [List.mapM_cons] at h
    cases h1 : f x with
    | none => simp [h1] at h
    | some y =>
      cases h2 : xs.mapM f with
      | none => simp [h1, h2] at h
      | some zs =>
        simp [h1, h2] at h; subst h
        obtain ⟨l, k⟩ := mapM_some h2
        refine ⟨by simp [l], ?_⟩
        intro i z hz
        cases i with
        | zero => simp at hz; subst hz; exact ⟨y, h1, by simp⟩
        | succ i => simp at hz; simpa using k i z hz
theorem got_list {fuel : Nat} {A : Type} (ty : A → TypeId) (part : A → List Value) (hstep : ∀ x μ H, Rel B w0 μ H w → (∀ j M, μ j = some M → (H.get j).own = false) → Got P B w0 μ H w fuel (ty x) (part x)) :
    ∀ (las : List A) (μ : Mu) (H : Heap), Rel B w0 μ H w → (∀ j M, μ j = some M → (H.get j).own = false) →
      ∃ (μ' : Mu) (H' : Heap) (vss : List (List V)), Grows μ H μ' H' ∧ Rel B w0 μ' H' w ∧ (∀ j M, μ' j = some M → (H'.get j).own = false) ∧ vss.length = las.length ∧
        VRels μ' vss.flatten (las.map part).flatten ∧ vss.flatten.all V.one = true ∧ ∀ (i : Nat) (a : A) (vs : List V), las[i]? = some a → vss[i]? = some vs → vs.length = P.cellsOf (ty a) ∧ WT P fuel (ty a) vs H'
  | [], μ, H, hr, ho => ⟨μ, H, [], Grows.refl, hr, ho, rfl, by simp [VRels], by simp, by simp⟩
  | a :: las, μ, H, hr, ho => by
    obtain ⟨μ1, H1, vs, g1, r1, o1, v1, n1, l1, t1⟩ := hstep a μ H hr ho
    obtain ⟨μ2, H2, vss, g2, r2, o2, l2, v2, n2, t2⟩ := got_list ty part hstep las μ1 H1 r1 o1
    refine ⟨μ2, H2, vs :: vss, g1.trans g2, r2, o2, by simp [l2], ?_, ?_, ?_⟩
    · simp only [List.flatten_cons, List.map_cons]
      exact VRels.append (VRels.mono g2.le _ _ v1) v2
    · simp only [List.flatten_cons, List.all_append, n1, n2, Bool.and_self]
    · intro i b us h1 h2
      cases i with
      | zero => simp at h1 h2; subst h1 h2; exact ⟨l1, t1.mono g2.n g2.get⟩
      | succ i => simp at h1 h2; exact t2 i b us h1 h2
theorem flatten_chunk {α : Type} {k : Nat} : ∀ {vss : List (List α)} {j : Nat} {v : List α}, (∀ (i : Nat) (u : List α), vss[i]? = some u → u.length = k) → vss[j]? = some v → (vss.flatten.drop (j * k)).take k = v
  | [], j, v, _, h => by simp at h
  | u :: vss, 0, v, hl, h => by
    simp at h; subst h
    simp only [List.flatten_cons, Nat.zero_mul, List.drop_zero]
    rw [List.take_append_of_le_length (by rw [hl 0 u (by simp)]; exact Nat.le_refl _)]
    rw [List.take_of_length_le (by rw [hl 0 u (by simp)]; exact Nat.le_refl _)]
  | u :: vss, j + 1, v, hl, h => by
    simp at h
    have hu := hl 0 u (by simp)
    simp only [List.flatten_cons]
    rw [List.drop_append, List.drop_of_length_le (by rw [hu, Nat.succ_mul]; omega), List.nil_append, hu, show (j + 1) * k - k = j * k by rw [Nat.succ_mul]; omega]
    exact flatten_chunk (fun i u hi => hl (i + 1) u (by simpa using hi)) h
theorem flatten_len {α : Type} {k : Nat} : ∀ {vss : List (List α)}, (∀ (i : Nat) (u : List α), vss[i]? = some u → u.length = k) → vss.flatten.length = vss.length * k
  | [], _ => by simp
  | u :: vss, hl => by
    have hu := hl 0 u (by simp)
    simp only [List.flatten_cons, List.length_append, List.length_cons, hu, Nat.succ_mul]
    rw [flatten_len fun i u hi => hl (i + 1) u (by simpa using hi)]
    omega
theorem tiles_chunk {α : Type} {total : Nat} : ∀ {fs : List Field} {off : Nat} {vss : List (List α)}, tiles P fs off total = true → vss.length = fs.length →
    (∀ (i : Nat) (f : Field) (u : List α), fs[i]? = some f → vss[i]? = some u → u.length = P.cellsOf f.type) →
    off ≤ total ∧ vss.flatten.length = total - off ∧ ∀ (i : Nat) (f : Field) (u : List α), fs[i]? = some f → vss[i]? = some u → off ≤ f.offset ∧ (vss.flatten.drop (f.offset - off)).take (P.cellsOf f.type) = u
  | [], off, vss, ht, hl, _ => by
    simp [tiles] at ht; subst ht
    have : vss = [] := List.eq_nil_of_length_eq_zero (by simpa using hl)
    subst this
    simp
  | f :: fs, off, [], ht, hl, _ => by simp at hl
  | f :: fs, off, v :: vss, ht, hl, hs => by
    simp only [tiles, Bool.and_eq_true, beq_iff_eq] at ht
    obtain ⟨h1, h2⟩ := ht
    subst h1
    have hv := hs 0 f v (by simp) (by simp)
    obtain ⟨i1, i2, i3⟩ := tiles_chunk h2 (by simpa using hl) fun i g u a b => hs (i + 1) g u (by simpa using a) (by simpa using b)
    refine ⟨by omega, by simp only [List.flatten_cons, List.length_append, i2, hv]; omega, ?_⟩
    intro i g u a b
    cases i with
    | zero =>
      simp at a b; subst a b
      refine ⟨Nat.le_refl _, ?_⟩
      simp only [Nat.sub_self, List.drop_zero, List.flatten_cons]
      rw [List.take_append_of_le_length (by rw [hv]; exact Nat.le_refl _), List.take_of_length_le (by rw [hv]; exact Nat.le_refl _)]
    | succ i =>
      simp at a b
      obtain ⟨j1, j2⟩ := i3 i g u a b
      refine ⟨by omega, ?_⟩
      simp only [List.flatten_cons]
      rw [List.drop_append, List.drop_of_length_le (by rw [hv]; omega), List.nil_append, hv, show g.offset - f.offset - P.cellsOf f.type = g.offset - (f.offset + P.cellsOf f.type) by omega]
      exact j2
theorem tiles_whole {total : Nat} {α : Type} {cs : List α} (hc : cs.length = total) : ∀ {fs : List Field} {off : Nat}, tiles P fs off total = true →
    off ≤ total ∧ (fs.map fun f => (cs.drop f.offset).take (P.cellsOf f.type)).flatten = cs.drop off
  | [], off, ht => by
    simp [tiles] at ht; subst ht
    exact ⟨Nat.le_refl _, by simp [hc]⟩
  | f :: fs, off, ht => by
    simp only [tiles, Bool.and_eq_true, beq_iff_eq] at ht
    obtain ⟨h1, h2⟩ := ht
    subst h1
    obtain ⟨i1, i2⟩ := tiles_whole hc h2
    refine ⟨by omega, ?_⟩
    simp only [List.map_cons, List.flatten_cons, i2]
    rw [← List.drop_drop]
    exact List.take_append_drop _ _
end
end Go.AM
end
section
set_option linter.unusedVariables false
set_option linter.unusedSimpArgs false
set_option linter.unusedSimpArgs false
set_option linter.unusedVariables false
namespace Go.AM
open Go.RowKit (Below)
section
variable {P : Program} {B n0 : Nat} {w0 w w' w'' : World} {μ μ' μ'' ν : Mu} {H H' H'' : Heap}
def Mu.mix (μ ν : Mu) : Mu := ⟨μ.f, ν.z⟩
mutual
theorem VRel.back (h : μ.le ν) : ∀ (v : V) (x y : Value), VRel μ v x → VRel ν v y → VRel (μ.mix ν) v y
  | .dead, _, _, o, k => by simp [VRel]
  | .bool b, x, y, o, k => by simpa [VRel] using k
  | .int _ n, x, y, o, k => by simpa [VRel] using k
  | .str s, x, y, o, k => by simpa [VRel] using k
  | .ptr none, x, y, o, k => by simpa [VRel] using k
  | .ptr (some (i, a)), x, y, o, k => by
    simp only [VRel] at o k ⊢
    obtain ⟨L, e, _⟩ := o
    obtain ⟨M, e2, r⟩ := k
    have := h.f _ _ e
    rw [e2] at this; cases this
    exact ⟨L, e, r⟩
  | .slice s, x, y, o, k => by
    simp only [VRel] at o k ⊢
    split
    · rename_i hs; simpa [hs] using k
    · rename_i i a hs
      simp only [hs] at o k
      obtain ⟨L, _, _, e, _⟩ := o
      obtain ⟨M, a', cap, e2, r⟩ := k
      have := h.f _ _ e
      rw [e2] at this; cases this
      exact ⟨L, a', cap, e, r⟩
  | .map none, x, y, o, k => by simpa [VRel] using k
  | .map (some i), x, y, o, k => by
    simp only [VRel] at o k ⊢
    obtain ⟨L, e, _⟩ := o
    obtain ⟨M, e2, r⟩ := k
    have := h.f _ _ e
    rw [e2] at this; cases this
    exact ⟨L, e, r⟩
  | .func fn first captured, x, y, o, k => by
    simp only [VRel] at o k ⊢
    obtain ⟨f, c, _, _, a, b⟩ := o
    obtain ⟨f', c', e', o', a', b'⟩ := k
    exact ⟨f', c', e', o', VRels.back h _ _ _ a a', VRels.back h _ _ _ b b'⟩
  | .nilFunc, x, y, o, k => by simpa [VRel] using k
  | .iface t v, x, y, o, k => by
    simp only [VRel] at o k ⊢
    obtain ⟨_, _, a⟩ := o
    obtain ⟨z, e', a'⟩ := k
    exact ⟨z, e', VRel.back h _ _ _ a a'⟩
  | .nilIface, x, y, o, k => by simpa [VRel] using k
  | .agg cs, x, y, o, k => by
    simp only [VRel] at o k ⊢
    obtain ⟨_, _, a⟩ := o
    obtain ⟨z, e', a'⟩ := k
    exact ⟨z, e', VRels.back h _ _ _ a a'⟩
  | .tuple cs, x, y, o, k => by
    simp only [VRel] at o k ⊢
    obtain ⟨_, _, a⟩ := o
    obtain ⟨z, e', a'⟩ := k
    exact ⟨z, e', VRels.back h _ _ _ a a'⟩
  | .list n z cs, x, y, o, k => by
    simp only [VRel] at o k ⊢
    rcases k with k | ⟨j, L, q, cap, m, e, hc, hm, hl, h1, r⟩
    · exact .inl k
    · rcases o with ⟨_, rfl, _⟩ | ⟨_, _, _, _, _, _, _, _, _, _, a⟩
      · exact .inr ⟨j, L, q, cap, m, e, hc, hm, hl, h1, by simpa [VRels] using r⟩
      · exact .inr ⟨j, L, q, cap, m, e, hc, hm, hl, h1, VRels.back h _ _ _ a r⟩
  | .lptr cs, x, y, o, k => by
    simp only [VRel] at o k ⊢
    obtain ⟨_, _, _, _, _, _, a⟩ := o
    obtain ⟨j, L, q, m, e, h1, r⟩ := k
    exact ⟨j, L, q, m, e, h1, VRels.back h _ _ _ a r⟩
  | .yld j, x, y, o, k => by
    simp only [VRel] at o k ⊢
    obtain ⟨L, e, _⟩ := o
    obtain ⟨M, e2, r⟩ := k
    have := h.f _ _ e
    rw [e2] at this; cases this
    exact ⟨L, e, r⟩
theorem VRels.back (h : μ.le ν) : ∀ (vs : List V) (xs ys : List Value), VRels μ vs xs → VRels ν vs ys → VRels (μ.mix ν) vs ys
  | [], xs, ys, _, k => by simpa [VRels] using k
  | v :: vs, xs, ys, o, k => by
    simp only [VRels] at o k ⊢
    obtain ⟨_, _, _, a, b⟩ := o
    obtain ⟨y, zs, e, a', b'⟩ := k
    exact ⟨y, zs, e, VRel.back h _ _ _ a a', VRels.back h _ _ _ b b'⟩
end
theorem MERels.back (h : μ.le ν) : ∀ {es : List ME} {xs ys : List MapEntry}, MERels μ es xs → MERels ν es ys → MERels (μ.mix ν) es ys
  | [], xs, ys, _, k => by simpa [MERels] using k
  | e :: es, xs, ys, o, k => by
    simp only [MERels] at o k ⊢
    obtain ⟨_, _, _, a, b⟩ := o
    obtain ⟨y, zs, e', a', b'⟩ := k
    exact ⟨y, zs, e', ⟨VRel.back h _ _ _ a.1 a'.1, VRel.back h _ _ _ a.2.1 a'.2.1, a'.2.2⟩, MERels.back h b b'⟩
theorem ORel.back (h : μ.le ν) {o : O} {L : Loc} (a : ORel μ B o L w) (b : ORel ν B o L w') : ORel (μ.mix ν) B o L w' := by
  cases o with
  | none => trivial
  | cells cs e ro =>
    obtain ⟨c, _, _, k1, k2, k3, k4, _⟩ := a
    obtain ⟨c', e', fr, m1, m2, m3, m4, m5⟩ := b
    refine ⟨c', e', fr, m1, m2, m3, fun j v hj => ?_, m5⟩
    obtain ⟨h1, x, _, q⟩ := k4 j v hj
    obtain ⟨_, y, e2, q2⟩ := m4 j v hj
    exact ⟨h1, y, e2, VRel.back h _ _ _ q q2⟩
  | map es clock =>
    obtain ⟨xs, k1, k2, k3⟩ := a
    obtain ⟨ys, m1, m2, m3⟩ := b
    exact ⟨ys, m1, m2, k3.back h m3⟩
  | siter s pos => exact b
  | miter m since seen last =>
    obtain ⟨mb, _, _, _, k4⟩ := a
    obtain ⟨mb', m1, m2, m3, m4⟩ := b
    refine ⟨mb', m1, m2, m3, ?_⟩
    cases m with
    | none => exact m4
    | some i =>
      obtain ⟨M, e1, _⟩ := k4
      obtain ⟨M', e1', e2'⟩ := m4
      have := h.f _ _ e1
      rw [e1'] at this; cases this
      exact ⟨M, e1, e2'⟩
  | loop N st pend tab env ps c d =>
    obtain ⟨_, _, _, _, _, _, _, _, _, k9⟩ := a
    obtain ⟨r, m1, m2, m3, m4, m5, m6, m7, m8, m9⟩ := b
    exact ⟨r, m1, m2, m3, m4, m5, m6, m7, m8, fun t => VRel.back h _ _ _ (k9 t) (m9 t)⟩
end
end Go.AM
end
section
set_option linter.unusedVariables false
set_option linter.unusedSimpArgs false
set_option linter.unusedSimpArgs false
set_option linter.unusedVariables false
namespace Go.AM
open Go.RowKit (Below)
def V.plain1 : V → Bool
  | .bool _ | .int _ _ | .str _ => true
  | _ => false
mutual
def V.flat : V → Bool
  | .bool _ | .int _ _ | .str _ => true
  | .agg cs => V.flats cs
  | .list n z cs => (n == 0 || z == 1) && cs.all V.plain1
  | _ => false
def V.flats : List V → Bool
  | [] => true
  | v :: vs => v.flat && V.flats vs
end
mutual
def Th (base : Nat) (H : Heap) : V → V → Prop
  | .list n z cs, v' => ∃ s, v' = .slice s ∧ s.len = n ∧ cs.length = n ∧ (∀ b o, s.ad = some (b, o) → base ≤ b ∧ b < H.n ∧ s.esz = 1) ∧ (n ≠ 0 → ∃ b e, s.ad = some (b, 0) ∧ H.get b = .cells cs e true)
  | .agg cs, v' => ∃ cs', v' = .agg cs' ∧ Ths base H cs cs'
  | v, v' => v' = v
def Ths (base : Nat) (H : Heap) : List V → List V → Prop
  | [], vs => vs = []
  | v :: vs, us => ∃ u us', us = u :: us' ∧ Th base H v u ∧ Ths base H vs us'
end
section
variable {P : Program} {B n0 : Nat} {w0 w w' w'' : World} {μ μ' μ'' ν : Mu} {H H' H'' : Heap}
mutual
theorem Th.grow {base : Nat} (hn : H.n ≤ H'.n) (hg : ∀ i, i < H.n → H'.get i = H.get i) : ∀ (v u : V), Th base H v u → Th base H' v u
  | .list n z cs, u, h => by
    simp only [Th] at h ⊢
    obtain ⟨s, e, h1, h2, h3, h4⟩ := h
    refine ⟨s, e, h1, h2, fun b o hs => by have := h3 b o hs; exact ⟨this.1, by omega, this.2.2⟩, fun hz => ?_⟩
    obtain ⟨b, e', h5, h6⟩ := h4 hz
    exact ⟨b, e', h5, by rw [hg b (h3 b 0 h5).2.1]; exact h6⟩
  | .agg cs, u, h => by
    simp only [Th] at h ⊢
    obtain ⟨cs', e, k⟩ := h
    exact ⟨cs', e, Ths.grow hn hg cs cs' k⟩
  | .dead, u, h => by simpa [Th] using h
  | .bool b, u, h => by simpa [Th] using h
  | .int k n, u, h => by simpa [Th] using h
  | .str s, u, h => by simpa [Th] using h
  | .ptr a, u, h => by simpa [Th] using h
  | .slice s, u, h => by simpa [Th] using h
  | .map r, u, h => by simpa [Th] using h
  | .func a b c, u, h => by simpa [Th] using h
  | .nilFunc, u, h => by simpa [Th] using h
  | .iface t v, u, h => by simpa [Th] using h
  | .nilIface, u, h => by simpa [Th] using h
  | .tuple vs, u, h => by simpa [Th] using h
  | .lptr cs, u, h => by simpa [Th] using h
  | .yld j, u, h => by simpa [Th] using h
theorem Ths.grow {base : Nat} (hn : H.n ≤ H'.n) (hg : ∀ i, i < H.n → H'.get i = H.get i) : ∀ (vs us : List V), Ths base H vs us → Ths base H' vs us
  | [], us, h => by simpa [Ths] using h
  | v :: vs, us, h => by
    simp only [Ths] at h ⊢
    obtain ⟨u, us', e, a, b⟩ := h
    exact ⟨u, us', e, Th.grow hn hg v u a, Ths.grow hn hg vs us' b⟩
end
theorem Rel.layF (hr : Rel B w0 μ H w) {L : Loc} {o : O} (hlive : o.live = true → L.b < w.heap.size) (hown : o.own = false) (hsep : o.live = true → ∀ j M, μ j = some M → (H.get j).own = true → M.b ≠ L.b)
    (ho : ORel (μ.put H.n L) B o L w) : Rel B w0 (μ.put H.n L) (H.push o) w := by
  have hfr : μ H.n = none := hr.fresh (Nat.le_refl _)
  have hle := Mu.le_put (L := L) hfr
  have hget : ∀ j, (H.push o).get j = if j = H.n then o else H.get j := fun j => Heap.get_push _ _ _
  refine ⟨hr.below, hr.size, ?_, ?_, ?_, ?_, hr.frz, ?_, fun j M e ho2 => by
    rw [hget] at ho2
    simp only [Mu.put] at e
    split at e
    · rename_i hj; rw [if_pos hj, hown] at ho2; cases ho2
    · rename_i hj; rw [if_neg hj] at ho2; exact hr.flat j M e ho2⟩
  · intro j M e
    simp only [Mu.put] at e
    rw [hget]
    split at e
    · rename_i hj; subst hj; simp at e; subst e; rw [if_pos rfl]; exact ⟨by simp, hlive⟩
    · rename_i hj
      have := hr.dom j M e
      rw [if_neg hj]
      exact ⟨by simp; omega, this.2⟩
  · intro j M e
    simp only [Mu.put] at e
    rw [hget]
    split at e
    · rename_i hj; subst hj; simp at e; subst e; rw [if_pos rfl]; exact ho
    · rename_i hj; rw [if_neg hj]; exact (hr.objs j M e).mono hle rfl
  · intro j k M N' e1 e2 hjk l1 l2 l3
    rw [hget] at l1 l2 l3
    simp only [Mu.put] at e1 e2
    split at e1
    · rename_i hj; rw [if_pos hj, hown] at l3; cases l3
    · rename_i hj
      rw [if_neg hj] at l1 l3
      split at e2
      · rename_i hk; simp at e2; subst e2; rw [if_pos hk] at l2; exact hsep l2 j M e1 l3
      · rename_i hk; rw [if_neg hk] at l2; exact hr.sep j k M N' e1 e2 hjk l1 l2 l3
  · intro i hi
    simp at hi
    rw [hget, if_neg (by omega)]
    exact hr.clean i (by omega)
  · intro b vs hz j M e ho2
    rw [hget] at ho2
    simp only [Mu.put] at e
    split at e
    · rename_i hj; rw [if_pos hj, hown] at ho2; cases ho2
    · rename_i hj; rw [if_neg hj] at ho2; exact hr.sepf b vs hz j M e ho2
theorem plain_rel {v : V} {x : Value} (h : v.plain1 = true) (k : VRel μ v x) : VRel ν v x := by
  cases v <;> simp_all [V.plain1, VRel]
theorem put_own {L : Loc} {o : O} (h : o.own = false) (hz : o.live = true → ∃ vs, μ.z L.b = some vs) : ∀ i M, (μ.put H.n L) i = some M → μ i = some M ∨ (((H.push o).get i).own = false ∧ (((H.push o).get i).live = true → ∃ vs, μ.z M.b = some vs)) := by
  intro i M e
  simp only [Mu.put] at e
  rw [Heap.get_push]
  split at e
  · rename_i hi
    simp at e; subst e
    rw [if_pos hi]; exact .inr ⟨h, hz⟩
  · exact .inl e
mutual
theorem thaw {base : Nat} : ∀ (v : V) (x : Value) (μ : Mu) (H : Heap), v.flat = true → base ≤ H.n → Rel B w0 μ H w → VRel μ v x →
    ∃ μ' H' u, Grows μ H μ' H' ∧ (∀ i L, μ' i = some L → μ i = some L ∨ ((H'.get i).own = false ∧ ((H'.get i).live = true → ∃ vs, μ.z L.b = some vs))) ∧ μ'.z = μ.z ∧ Rel B w0 μ' H' w ∧ VRel μ' u x ∧ Th base H' v u
  | .list n z cs, x, μ, H, hf, hb, hr, hx => by
    simp only [V.flat, Bool.and_eq_true, Bool.or_eq_true, beq_iff_eq] at hf
    obtain ⟨hz, hpl⟩ := hf
    simp only [VRel] at hx
    have hfr : μ H.n = none := hr.fresh (Nat.le_refl _)
    rcases hx with ⟨rfl, rfl, rfl | ⟨a, cap, hsp, rfl⟩⟩ | ⟨b, fz, o, cap, hm, rfl, hcap, hroom, hlen, hone, hv⟩
    · exact ⟨μ, H, .slice ⟨none, 0, 1, false⟩, Grows.refl, fun _ _ e => .inl e, rfl, hr, by simp [VRel], by simp [Th]⟩
    · have hle := Mu.le_put (L := ⟨a.block, a.off, a.off + cap⟩) hfr
      refine ⟨μ.put H.n ⟨a.block, a.off, a.off + cap⟩, H.push .none, .slice ⟨some (H.n, 0), 0, 1, false⟩, ⟨hle, by simp, fun i hi => by rw [Heap.get_push, if_neg (by omega)]⟩, put_own rfl (by simp [O.live]), rfl,
        hr.layF (by simp [O.live]) rfl (by simp [O.live]) trivial, ?_, ?_⟩
      · simp only [VRel]
        refine ⟨_, a, cap, Mu.put_same, rfl, Nat.zero_le _, by simp, ?_⟩
        rcases hsp with h | h
        · exact .inl h
        · exact .inr ⟨by cases a; simp_all, by simp⟩
      · simp only [Th]
        exact ⟨_, rfl, rfl, rfl, fun b o h => by simp at h; exact ⟨by omega, by simp; omega, rfl⟩, fun h => absurd rfl h⟩
    · obtain ⟨c, e', fr, hbk, hfz⟩ := hr.frz b fz hm
      by_cases hn : n = 0
      · subst hn
        have hcs : cs = [] := List.eq_nil_of_length_eq_zero (by omega)
        subst hcs
        have hle := Mu.le_put (L := ⟨b, o, o + cap⟩) hfr
        refine ⟨μ.put H.n ⟨b, o, o + cap⟩, H.push .none, .slice ⟨some (H.n, 0), 0, 1, false⟩, ⟨hle, by simp, fun i hi => by rw [Heap.get_push, if_neg (by omega)]⟩, put_own rfl (by simp [O.live]), rfl,
          hr.layF (by simp [O.live]) rfl (by simp [O.live]) trivial, ?_, ?_⟩
        · simp only [VRel]
          exact ⟨_, _, cap, Mu.put_same, rfl, Nat.zero_le _, by simp, .inr ⟨by simp, by simp⟩⟩
        · simp only [Th]
          exact ⟨_, rfl, rfl, rfl, fun b o h => by simp at h; exact ⟨by omega, by simp; omega, rfl⟩, fun h => absurd rfl h⟩
      · have hz1 : z = 1 := hz.resolve_left hn
        subst hz1
        have hle := Mu.le_put (L := ⟨b, o, c.size⟩) hfr
        rw [hfz, Array.length_toList] at hroom
        have hlv := hv.length
        refine ⟨μ.put H.n ⟨b, o, c.size⟩, H.push (.cells cs 0 true), .slice ⟨some (H.n, 0), n, 1, false⟩, ⟨hle, by simp, fun i hi => by rw [Heap.get_push, if_neg (by omega)]⟩, put_own rfl (fun _ => ⟨fz, hm⟩), rfl,
          hr.layF (fun _ => (Array.getElem?_eq_some_iff.1 hbk).1) rfl (fun _ j M e ho => hr.sepf b fz hm j M e ho) ?_, ?_, ?_⟩
        · refine ⟨c, e', fr, hbk, rfl, by simp only; omega, ?_, by simp⟩
          intro j v hj
          have h1 := List.all_eq_true.1 hone v (List.mem_of_getElem? hj)
          have h2 := List.all_eq_true.1 hpl v (List.mem_of_getElem? hj)
          obtain ⟨x, hx, hxr⟩ := hv.get j v hj
          refine ⟨h1, x, ?_, plain_rel h2 hxr⟩
          rw [List.getElem?_take] at hx
          split at hx
          · rw [List.getElem?_drop, hfz] at hx
            simpa using hx
          · cases hx
        · simp only [VRel]
          exact ⟨_, _, cap, Mu.put_same, rfl, hcap, by simp, .inr ⟨by simp, by simp only; omega⟩⟩
        · simp only [Th]
          exact ⟨_, rfl, rfl, by omega, fun b o h => by simp at h; exact ⟨by omega, by simp; omega, rfl⟩, fun _ => ⟨H.n, 0, rfl, by rw [Heap.get_push, if_pos rfl]⟩⟩
  | .agg cs, x, μ, H, hf, hb, hr, hx => by
    simp only [V.flat] at hf
    simp only [VRel] at hx
    obtain ⟨a, rfl, k⟩ := hx
    obtain ⟨μ', H', us, g, hz, hzz, r, k', t⟩ := thaws cs a.toList μ H hf hb hr k
    exact ⟨μ', H', .agg us, g, hz, hzz, r, by simp only [VRel]; exact ⟨a, rfl, k'⟩, by simp only [Th]; exact ⟨us, rfl, t⟩⟩
  | .bool b, x, μ, H, hf, hb, hr, hx => ⟨μ, H, _, Grows.refl, fun _ _ e => .inl e, rfl, hr, hx, by simp [Th]⟩
  | .int k n, x, μ, H, hf, hb, hr, hx => ⟨μ, H, _, Grows.refl, fun _ _ e => .inl e, rfl, hr, hx, by simp [Th]⟩
  | .str s, x, μ, H, hf, hb, hr, hx => ⟨μ, H, _, Grows.refl, fun _ _ e => .inl e, rfl, hr, hx, by simp [Th]⟩
  | .dead, x, μ, H, hf, hb, hr, hx => by simp [V.flat] at hf
  | .ptr a, x, μ, H, hf, hb, hr, hx => by simp [V.flat] at hf
  | .slice s, x, μ, H, hf, hb, hr, hx => by simp [V.flat] at hf
  | .map r, x, μ, H, hf, hb, hr, hx => by simp [V.flat] at hf
  | .func a b c, x, μ, H, hf, hb, hr, hx => by simp [V.flat] at hf
  | .nilFunc, x, μ, H, hf, hb, hr, hx => by simp [V.flat] at hf
  | .iface t v, x, μ, H, hf, hb, hr, hx => by simp [V.flat] at hf
  | .nilIface, x, μ, H, hf, hb, hr, hx => by simp [V.flat] at hf
  | .tuple vs, x, μ, H, hf, hb, hr, hx => by simp [V.flat] at hf
  | .lptr cs, x, μ, H, hf, hb, hr, hx => by simp [V.flat] at hf
theorem thaws {base : Nat} : ∀ (vs : List V) (xs : List Value) (μ : Mu) (H : Heap), V.flats vs = true → base ≤ H.n → Rel B w0 μ H w → VRels μ vs xs →
    ∃ μ' H' us, Grows μ H μ' H' ∧ (∀ i L, μ' i = some L → μ i = some L ∨ ((H'.get i).own = false ∧ ((H'.get i).live = true → ∃ vs, μ.z L.b = some vs))) ∧ μ'.z = μ.z ∧ Rel B w0 μ' H' w ∧ VRels μ' us xs ∧ Ths base H' vs us
  | [], xs, μ, H, hf, hb, hr, hx => ⟨μ, H, [], Grows.refl, fun _ _ e => .inl e, rfl, hr, by simpa [VRels] using hx, by simp [Ths]⟩
  | v :: vs, xs, μ, H, hf, hb, hr, hx => by
    simp only [V.flats, Bool.and_eq_true] at hf
    simp only [VRels] at hx
    obtain ⟨y, ys, rfl, a, b⟩ := hx
    obtain ⟨μ1, H1, u, g1, z1, y1, r1, k1, t1⟩ := thaw v y μ H hf.1 hb hr a
    obtain ⟨μ2, H2, us, g2, z2, y2, r2, k2, t2⟩ := thaws vs ys μ1 H1 hf.2 (Nat.le_trans hb g1.n) r1 (VRels.mono g1.le _ _ b)
    refine ⟨μ2, H2, u :: us, g1.trans g2, fun i L e => ?_, by rw [y2, y1], r2, ?_, ?_⟩
    · rcases z2 i L e with e | e
      · rcases z1 i L e with e' | e'
        · exact .inl e'
        · right; rw [g2.get i (r1.dom i L e).1]; exact e'
      · rw [y1] at e; exact .inr e
    · simp only [VRels]; exact ⟨y, ys, rfl, VRel.mono g2.le _ _ k1, k2⟩
    · simp only [Ths]; exact ⟨u, us, rfl, Th.grow g2.n g2.get _ _ t1, t2⟩
end
def extC (v : V) (args : List V) (H : Heap) : Option R := match args with
  | [] => some (v, H)
  | _ => none
theorem extC_frame (v : V) : ExtFrame (extC v) := by
  intro args H u H' X G h e
  unfold extC at h ⊢
  split at h
  · simp at h
    obtain ⟨rfl, rfl⟩ := h
    exact ⟨G, rfl, e⟩
  · cases h
theorem extClosed {C0 : Cfg} (ok : C0.Ok) {f : FuncId} {n : Nat} {v : V} {H1 : Heap} (hc : callA C0 n f [] ⟨0, .nil⟩ = some (v, H1)) (hp : v.plain1 = true) (hy : f < yB := by first | assumption | decide) : ExtSound C0.P f (extC v) := by
  intro args H u H' hg B n0 w0 w μ xs hr hn hv
  unfold extC at hg
  split at hg
  · simp at hg
    obtain ⟨rfl, rfl⟩ := hg
    have h0 : Rel B w0 ⟨fun _ => none, fun _ => none⟩ ⟨0, .nil⟩ w :=
      ⟨hr.below, hr.size, fun i L h => (by cases h), fun i L h => (by cases h), fun i j L M h => (by cases h), fun i _ => by simp [Heap.get, T.get], fun b vs h => (by cases h), fun b vs h => (by cases h), fun i L h => (by cases h)⟩
    refine Gives.mono ?_ ((callA_sound ok n f [] _ _ H1 hc B 0 w0 w _ xs h0 (Nat.le_refl _) hv).1 hy)
    rintro x w' ⟨μ1, s, v1⟩
    have hbel : Below w.heap.size w w' := by
      have b1 := hr.below
      have b2 := s.rel.below
      exact ⟨by rw [b2.os, b1.os], by rw [b2.tape, b1.tape], by rw [b2.output, b1.output], s.size, fun k hk => s.keeps k hk fun i L h => (by cases h)⟩
    exact ⟨μ, ⟨Mu.le_refl _, hr.grow hbel, Nat.le_refl _, s.size, fun b hb _ => hbel.block b hb, fun _ _ e => .inl ⟨e, id, id⟩, fun _ _ h => .inl h⟩, plain_rel hp v1⟩
  · cases hg
end
end Go.AM
end
section
set_option linter.unusedVariables false
set_option linter.unusedSimpArgs false
namespace Go.AM
def extAdd64 (args : List V) (H : Heap) : Option R := match args with
  | [.int .u64 x, .int .u64 y, .int .u64 c] => if 0 ≤ x ∧ 0 ≤ y ∧ 0 ≤ c ∧ c ≤ 1 then some (.tuple [.int .u64 ((x + y + c) % 18446744073709551616), .int .u64 ((x + y + c) / 18446744073709551616)], H) else none
  | _ => none
def extSub64 (args : List V) (H : Heap) : Option R := match args with
  | [.int .u64 x, .int .u64 y, .int .u64 c] => if 0 ≤ x ∧ 0 ≤ y ∧ 0 ≤ c ∧ c ≤ 1 ∧ y ≤ 18446744073709551615 then some (.tuple [.int .u64 ((x - y - c) % 18446744073709551616), .int .u64 (if x < y + c then 1 else 0)], H) else none
  | _ => none
theorem extAdd64_frame : ExtFrame extAdd64 := by
  intro args H v H' X G h e
  unfold extAdd64 at h ⊢
  split at h
  · split at h
    · rename_i hc
      simp at h
      obtain ⟨rfl, rfl⟩ := h
      simp only [if_pos hc]
      exact ⟨G, rfl, e⟩
    · cases h
  · cases h
theorem extSub64_frame : ExtFrame extSub64 := by
  intro args H v H' X G h e
  unfold extSub64 at h ⊢
  split at h
  · split at h
    · rename_i hc
      simp at h
      obtain ⟨rfl, rfl⟩ := h
      simp only [if_pos hc]
      exact ⟨G, rfl, e⟩
    · cases h
  · cases h
def sub64E : Array Value → Sem Value := fun args => do
  let (x, y, b) ← Extern.MathBitsCarry.three "Sub64" args
  pure (Extern.MathBitsCarry.pair ((x + Extern.MathBitsCarry.m64 - y - b) % Extern.MathBitsCarry.m64) (if x < y + b then 1 else 0))
theorem three_args {μ : Mu} {x y c : Int} {xs : Array Value} (h : VRels μ [.int .u64 x, .int .u64 y, .int .u64 c] xs.toList) : xs = #[.int .u64 x, .int .u64 y, .int .u64 c] := by
  simp only [VRels, VRel] at h
  obtain ⟨_, _, e, rfl, _, _, rfl, rfl, _, _, rfl, rfl, rfl⟩ := h
  apply Array.ext'
  simpa using e
theorem xs_add64 {P : Program} {f : FuncId} {fn : Func} (hf : P.funcs[f]? = some fn) (hname : (fn.name == "runtime.NumGoroutine") = false) (hb : fn.body.isNone = true) (hn : Extern.findNext fn = none) (he : Extern.find fn = some add64Entry) : ExtSound P f extAdd64 := by
  intro args H v H' h B n0 w0 w μ xs hr _ hv
  unfold extAdd64 at h
  split at h
  · rename_i x y c
    split at h
    · rename_i hc
      obtain ⟨h1, h2, h3, h4⟩ := hc
      simp at h
      obtain ⟨rfl, rfl⟩ := h
      rw [three_args hv, run_callFunc_extern hf hname hb hn he, run_add64 x y c h1 h2 h3 h4]
      refine ⟨μ, Step.refl hr, ?_⟩
      simp only [VRel]
      exact ⟨_, rfl, by simp [VRels, VRel]⟩
    · cases h
  · cases h
theorem run_sub64E {P : Program} (x y b : Nat) (hb : b ≤ 1) (w : World) :
    (sub64E #[.int .u64 x, .int .u64 y, .int .u64 b]).run P w =
      .ok (.tuple #[.int .u64 (((x + 18446744073709551616 - y - b) % 18446744073709551616 : Nat) : Int), .int .u64 ((if x < y + b then 1 else 0 : Nat) : Int)]) w := by
  have : b = 0 ∨ b = 1 := by omega
  rcases this with rfl | rfl <;> rfl
theorem xs_sub64 {P : Program} {f : FuncId} {fn : Func} (hf : P.funcs[f]? = some fn) (hname : (fn.name == "runtime.NumGoroutine") = false) (hb : fn.body.isNone = true) (hn : Extern.findNext fn = none) (he : Extern.find fn = some sub64E) : ExtSound P f extSub64 := by
  intro args H v H' h B n0 w0 w μ xs hr _ hv
  unfold extSub64 at h
  split at h
  · rename_i x y c
    split at h
    · rename_i hc
      obtain ⟨h1, h2, h3, h4, h5⟩ := hc
      simp at h
      obtain ⟨rfl, rfl⟩ := h
      obtain ⟨X, rfl⟩ := Int.eq_ofNat_of_zero_le h1
      obtain ⟨Y, rfl⟩ := Int.eq_ofNat_of_zero_le h2
      obtain ⟨Z, rfl⟩ := Int.eq_ofNat_of_zero_le h3
      rw [three_args hv, run_callFunc_extern hf hname hb hn he, run_sub64E X Y Z (by omega)]
      refine ⟨μ, Step.refl hr, ?_⟩
      simp only [VRel]
      refine ⟨_, rfl, ?_⟩
      simp only [VRels, VRel]
      refine ⟨_, _, rfl, ?_, _, _, rfl, ?_, rfl⟩
      · congr 1; omega
      · congr 1
        by_cases h : X < Y + Z
        · rw [if_pos h, if_pos (by omega)]; rfl
        · rw [if_neg h, if_neg (by omega)]; rfl
    · cases h
  · cases h
end Go.AM
end
section
set_option linter.unusedVariables false
set_option linter.unusedSimpArgs false
namespace Go.AM
def extId (args : List V) (H : Heap) : Option R := match args with
  | [.ptr a] => some (.ptr a, H)
  | _ => none
theorem extId_frame : ExtFrame extId := by
  intro args H v H' X G h e
  unfold extId at h ⊢
  split at h
  · simp at h
    obtain ⟨rfl, rfl⟩ := h
    exact ⟨G, rfl, e⟩
  · cases h
theorem xs_id {P : Program} {f : FuncId} {fn : Func} (hf : P.funcs[f]? = some fn) (hname : (fn.name == "runtime.NumGoroutine") = false) (hb : fn.body.isNone = true) (hn : Extern.findNext fn = none) (he : Extern.find fn = some Extern.AbiNoEscape.same) : ExtSound P f extId := by
  intro args H v H' h B n0 w0 w μ xs hr _ hv
  unfold extId at h
  split at h
  · rename_i a
    simp at h
    obtain ⟨rfl, rfl⟩ := h
    simp only [VRels] at hv
    obtain ⟨y, ys, e, hy, rfl⟩ := hv
    have hx : xs = #[y] := by apply Array.ext'; simpa using e
    rw [hx, run_callFunc_extern hf hname hb hn he, Lib.run_noEscape]
    exact ⟨μ, Step.refl hr, hy⟩
  · cases h
def extMk (t : TypeId) (args : List V) (H : Heap) : Option R := match args with
  | [.int .i64 n] => if 0 ≤ n ∧ n < 2147483648 then some (.slice ⟨some (H.n, 0), n.toNat, 1, false⟩, H.push (.cells [] t false)) else none
  | _ => none
theorem extMk_frame (t : TypeId) : ExtFrame (extMk t) := by
  intro args H v H' X G h e
  unfold extMk at h ⊢
  split at h
  · split at h
    · rename_i hc
      simp at h
      obtain ⟨rfl, rfl⟩ := h
      simp only [if_pos hc]
      exact ⟨G.push (.cells [] t false), by rw [e.n], e.push _⟩
    · cases h
  · cases h
theorem xs_mk {P : Program} {f : FuncId} {fn : Func} {ps : Array TypeId} {t e : TypeId} (hf : P.funcs[f]? = some fn) (hname : (fn.name == "runtime.NumGoroutine") = false) (hb : fn.body.isNone = true) (hn : Extern.findNext fn = none)
    (he : Extern.find fn = some (Extern.BytealgMakeNoZero.makeNoZero ps #[t])) (ht : P.underlying t = some (.slice e)) : ExtSound P f (extMk e) := by
  intro args H v H' h B n0 w0 w μ xs hr hn0 hv
  unfold extMk at h
  split at h
  · rename_i n
    split at h
    · rename_i hc
      simp at h
      obtain ⟨rfl, rfl⟩ := h
      simp only [VRels] at hv
      obtain ⟨y, ys, e1, hy, rfl⟩ := hv
      have hx : xs = #[y] := by apply Array.ext'; simpa using e1
      simp only [VRel] at hy
      subst hy
      obtain ⟨k, rfl⟩ : ∃ k : Nat, n = (k : Int) := ⟨n.toNat, by omega⟩
      obtain ⟨cs, hrun, h1, -⟩ := Lib.run_makeNoZero (P := P) w ps t e ht k (by omega)
      rw [hx, run_callFunc_extern hf hname hb hn he, hrun]
      have hdrew : Step B w0 n0 μ H w μ H w.drew.drew := ⟨Mu.le_refl _, hr.heap_eq rfl rfl rfl rfl, Nat.le_refl _, Nat.le_refl _, fun _ _ _ => rfl, fun _ _ h => .inl ⟨h, id, id⟩, fun _ _ h => .inl h⟩
      have hB := hr.size
      have hall := hdrew.rel.alloc (n0 := n0) (r := none) hn0 (o := .cells [] e false) (obj := .cells cs e) (sz := cs.size) (w' := w.drew.drew.alloc (.cells cs e)) rfl rfl rfl rfl
        ⟨cs, e, (0, 0), by show (w.heap.push _)[w.heap.size]? = _; simp, rfl, by simp, fun j v hj => by simp at hj, fun _ => ⟨hB, rfl, rfl⟩⟩
      refine ⟨_, hdrew.trans hall, ?_⟩
      simp only [VRel, Int.toNat_natCast]
      exact ⟨_, _, cs.size, Mu.put_same, rfl, h1, (fun h => by cases h), .inr ⟨rfl, by simp⟩⟩
    · cases h
  · cases h
end Go.AM
end
section
set_option linter.unusedVariables false
set_option linter.unusedSimpArgs false
namespace Go.AM
def extCnt (args : List V) (H : Heap) : Option R := match args with
  | [.str s, .int .u8 c] => some (.int .i64 (Lib.countByte s c.toNat.toUInt8), H)
  | _ => none
def extIdx (args : List V) (H : Heap) : Option R := match args with
  | [.str s, .int .u8 c] => some (.int .i64 (Lib.indexByte s c.toNat.toUInt8), H)
  | _ => none
theorem extCnt_frame : ExtFrame extCnt := by
  intro args H v H' X G h e
  unfold extCnt at h ⊢
  split at h
  · simp at h
    obtain ⟨rfl, rfl⟩ := h
    exact ⟨G, rfl, e⟩
  · cases h
theorem extIdx_frame : ExtFrame extIdx := by
  intro args H v H' X G h e
  unfold extIdx at h ⊢
  split at h
  · simp at h
    obtain ⟨rfl, rfl⟩ := h
    exact ⟨G, rfl, e⟩
  · cases h
theorem xs_cnt {P : Program} {f : FuncId} {fn : Func} (hf : P.funcs[f]? = some fn) (hname : (fn.name == "runtime.NumGoroutine") = false) (hb : fn.body.isNone = true) (hn : Extern.findNext fn = none) (he : Extern.find fn = some Extern.BytealgCount.count) : ExtSound P f extCnt := by
  intro args H v H' h B n0 w0 w μ xs hr _ hv
  unfold extCnt at h
  split at h
  · rename_i s c
    simp at h
    obtain ⟨rfl, rfl⟩ := h
    simp only [VRels] at hv
    obtain ⟨y, ys, e, hy, z, zs, rfl, hz, rfl⟩ := hv
    simp only [VRel] at hy hz
    subst hy hz
    have hx : xs = #[.string ⟨s.toArray⟩, .int .u8 c] := by apply Array.ext'; simpa using e
    rw [hx, run_callFunc_extern hf hname hb hn he, Lib.run_countString]
    exact ⟨μ, Step.refl hr, by simp only [VRel]⟩
  · cases h
theorem xs_idx {P : Program} {f : FuncId} {fn : Func} (hf : P.funcs[f]? = some fn) (hname : (fn.name == "runtime.NumGoroutine") = false) (hb : fn.body.isNone = true) (hn : Extern.findNext fn = none) (he : Extern.find fn = some Extern.BytealgIndexByte.indexByte) : ExtSound P f extIdx := by
  intro args H v H' h B n0 w0 w μ xs hr _ hv
  unfold extIdx at h
  split at h
  · rename_i s c
    simp at h
    obtain ⟨rfl, rfl⟩ := h
    simp only [VRels] at hv
    obtain ⟨y, ys, e, hy, z, zs, rfl, hz, rfl⟩ := hv
    simp only [VRel] at hy hz
    subst hy hz
    have hx : xs = #[.string ⟨s.toArray⟩, .int .u8 c] := by apply Array.ext'; simpa using e
    rw [hx, run_callFunc_extern hf hname hb hn he, Lib.run_indexByteString]
    exact ⟨μ, Step.refl hr, by simp only [VRel]⟩
  · cases h
end Go.AM
end
section
set_option linter.unusedVariables false
set_option linter.unusedSimpArgs false
namespace Go.AM
def V.fro1 : V → Bool
  | .slice _ | .agg _ | .tuple _ => false
  | _ => true
def V.fro : V → Bool
  | .agg cs => cs.all V.fro1
  | v => v.fro1
theorem frzV_fro1 {H : Heap} {d : Nat} {v : V} (h : v.fro1 = true) : frzV H (d + 1) v = some (v, []) := by
  unfold frzV; cases v <;> simp_all [V.fro1]
theorem frzL_fro1 {H : Heap} {d : Nat} : ∀ {vs : List V}, vs.all V.fro1 = true → frzL (frzV H (d + 1)) vs = some (vs, [])
  | [], _ => rfl
  | v :: vs, h => by
    simp only [List.all_cons, Bool.and_eq_true] at h
    simp only [frzL, frzV_fro1 h.1, frzL_fro1 h.2]; rfl
theorem frzV_fro {H : Heap} {d : Nat} {v : V} (h : v.fro = true) : frzV H (d + 2) v = some (v, []) := by
  unfold V.fro at h
  split at h
  · unfold frzV; simp only [frzL_fro1 h]
  · exact frzV_fro1 h
theorem frzL_fro {H : Heap} {d : Nat} : ∀ {vs : List V}, vs.all V.fro = true → frzL (frzV H (d + 2)) vs = some (vs, [])
  | [], _ => rfl
  | v :: vs, h => by
    simp only [List.all_cons, Bool.and_eq_true] at h
    simp only [frzL, frzV_fro h.1, frzL_fro h.2]; rfl
theorem frzAs_fro {H : Heap} {vs : List V} (h : vs.all V.fro = true) : frzAs vs H = some (vs, H) := by
  unfold frzAs; rw [frzL_fro (d := 4) h]; rfl
theorem frzR_fro {H : Heap} {v : V} (h : v.fro = true) : frzR v H = some (v, H) := by
  unfold frzR; rw [frzV_fro (d := 4) h]; rfl
theorem Tot.frz {v v' : V} {H H' : Heap} {Q : V → Heap → Prop} (h : frzR v H = some (v', H')) (q : Q v' H') : Tot (fun _ => frzR v H) Q := ⟨v', H', q, 0, fun _ _ => h⟩
theorem Tot.rf {v : V} {H : Heap} {Q : V → Heap → Prop} (h : v.fro = true) (q : Q v H) : Tot (fun _ => frzR v H) Q := Tot.frz (frzR_fro h) q
theorem Tot.fnA {f g : Nat → Option R} {k : Nat → List V → Heap → Option R} {args : List V} {H : Heap} {Q : V → Heap → Prop} (hf : args.all V.fro = true) (he : ∀ n, f (n + 1) = inA true args H (k n)) (hk : ∀ n, k n args H = g n) (h : Tot g Q) : Tot f Q := by
  refine Tot.fn (fun n => ?_) h
  rw [he, ← hk]
  unfold inA
  rw [if_pos rfl, frzAs_fro hf]
theorem Tot.call {f : Nat → List V → Heap → Option R} {k : Nat → List V → Heap → Option R} (he : ∀ n args H, f (n + 1) args H = inA true args H (k n)) {args args' : List V} {H H' : Heap} {Q : V → Heap → Prop}
    (h1 : frzAs args H = some (args', H')) (h2 : args'.all V.fro = true) (h : Tot (fun n => f n args' H') Q) : Tot (fun n => f n args H) Q := by
  obtain ⟨v, G, q, n0, hn⟩ := h
  refine ⟨v, G, q, n0 + 1, fun n hle => ?_⟩
  obtain ⟨m, rfl⟩ : ∃ m, n = m + 1 := ⟨n - 1, by omega⟩
  have := hn (m + 1) (by omega)
  simp only [he] at this ⊢
  unfold inA at this ⊢
  rw [if_pos rfl, frzAs_fro h2] at this
  rw [if_pos rfl, h1]
  exact this
abbrev E0 : Heap := ⟨0, .nil⟩
theorem Tot.pu {f g : Nat → Option R} {k : Nat → List V → Option R} {args : List V} {H : Heap} {Q : V → Heap → Prop} (hf : args.all V.fro = true) (hg : V.frees args = true) (he : ∀ n, f (n + 1) = pureA args H (k n)) (hk : ∀ n, k n args = g n)
    (h : Tot g fun v _ => v.free = true ∧ Q v H) : Tot f Q := by
  obtain ⟨v, H', ⟨h1, h2⟩, n0, hn⟩ := h
  refine ⟨v, H, h2, n0 + 1, fun n hle => ?_⟩
  obtain ⟨m, rfl⟩ : ∃ m, n = m + 1 := ⟨n - 1, by omega⟩
  rw [he]
  unfold pureA
  rw [frzAs_fro hf]
  simp only [hg, if_true, hk, hn m (by omega), h1]
end Go.AM
end
section
set_option linter.unusedVariables false
set_option linter.unusedSimpArgs false
namespace Go.AM.N
abbrev ty_bool : Nat := 4
abbrev ty_uint8 : Nat := 5
abbrev ty_string : Nat := 9
abbrev ty_shell_shell : Nat := 38
abbrev ty_p_uint8 : Nat := 48
abbrev ty_strings_asciiSet : Nat := 54
@[simp] theorem eqlA_ty_bool (a b : Bool) : eqlA P ty_bool (.bool a) (.bool b) = some (.bool (a == b)) := by kernel_rfl
def tabList0 : List (Nat × List (Nat × List Nat)) := [(3, [(3, [1, 5, 6]), (6, [1, 5]), (10, [1, 7, 8, 9, 10, 11]), (13, [1, 7, 8, 9, 10])]),
 (4, [(4, [0, 4]), (7, [5]), (11, [5])]),
 (6, []),
 (7, []),
 (8, []),
 (9, []),
 (10, [(7, [0, 1, 2, 3]), (11, [0, 1, 2, 3, 9, 10]), (17, [0, 9, 10])]),
 (11, []),
 (12, []),
 (18, [(6, [0, 1, 5])]),
 (19, []),
 (20, [])]
def tabList1 : List (Nat × List (Nat × List Nat)) := [(21, [(1, [0, 1])]),
 (22, [(1, [0, 1])]),
 (39, [(15, [0, 1, 5, 6, 7, 8, 9, 10]), (21, [0, 1, 5, 6, 7, 8, 9, 10])]),
 (58, [])]
def tabList : List (Nat × List (Nat × List Nat)) := tabList0 ++ (tabList1)
def tabs (f : FuncId) : Option (List (Nat × List Nat)) := tabList.lookup f
noncomputable def extList : List (Nat × (List V → Heap → Option R)) := [((5 : Nat), (extC (.bool true) : List V → Heap → Option R)),
 ((38 : Nat), (extCnt : List V → Heap → Option R)),
 ((77 : Nat), (extIdx : List V → Heap → Option R))]
noncomputable def ext (f : FuncId) : Option (List V → Heap → Option R) := extList.lookup f
def faL : List Nat := []
def frL : List Nat := []
def puL : List Nat := [3, 4]
def pu (f : FuncId) : Bool := puL.contains f
def fa (f : FuncId) : Bool := faL.contains f
def fr (f : FuncId) : Bool := frL.contains f
noncomputable def C : Cfg := { P, tabs, ext, fa, fr, pu, okc := fun N c => okC P N c }
abbrev i_shell_Run : Nat := 4
abbrev i_law30_lives : Nat := 5
abbrev i_strings_Split : Nat := 6
abbrev i_strings_TrimSuffix : Nat := 7
abbrev i_shell_shell_line : Nat := 8
abbrev i_strings_Builder_String : Nat := 9
abbrev i_strings_genSplit : Nat := 10
abbrev i_internal_stringslite_TrimSuffix : Nat := 11
abbrev i_strings_Trim : Nat := 12
abbrev i_shell_numbers : Nat := 13
abbrev i_shell_many : Nat := 14
abbrev i_shell_shell_put : Nat := 15
abbrev i_shell_shell_does : Nat := 16
abbrev i_strings_explode : Nat := 17
abbrev i_strings_Count : Nat := 18
abbrev i_strings_Index : Nat := 19
abbrev i_internal_stringslite_HasSuffix : Nat := 20
abbrev i_strings_trimLeftByte : Nat := 21
abbrev i_strings_trimRightByte : Nat := 22
abbrev i_strings_makeASCIISet : Nat := 23
abbrev i_strings_trimLeftASCII : Nat := 24
abbrev i_strings_trimRightASCII : Nat := 25
abbrev i_strings_trimLeftUnicode : Nat := 26
abbrev i_strings_trimRightUnicode : Nat := 27
abbrev i_unicode_utf8_RuneCountInString : Nat := 36
abbrev i_internal_bytealg_CountString : Nat := 38
abbrev i_internal_stringslite_Index : Nat := 39
abbrev i_internal_stringslite_IndexByte : Nat := 58
abbrev i_internal_bytealg_IndexString : Nat := 59
abbrev i_internal_bytealg_Cutover : Nat := 60
abbrev i_internal_bytealg_IndexRabinKarp_string : Nat := 61
abbrev i_internal_bytealg_IndexByteString : Nat := 77
@[irreducible] noncomputable def f_law30_ShellLong (n : Nat) (args : List V) (H : Heap) : Option R := callA C n 3 args H
@[irreducible] noncomputable def f_shell_Run (n : Nat) (args : List V) (H : Heap) : Option R := callA C n 4 args H
@[irreducible] noncomputable def f_law30_lives (n : Nat) (args : List V) (H : Heap) : Option R := callA C n 5 args H
@[irreducible] noncomputable def f_strings_Split (n : Nat) (args : List V) (H : Heap) : Option R := callA C n 6 args H
@[irreducible] noncomputable def f_strings_TrimSuffix (n : Nat) (args : List V) (H : Heap) : Option R := callA C n 7 args H
@[irreducible] noncomputable def f_shell_shell_line (n : Nat) (args : List V) (H : Heap) : Option R := callA C n 8 args H
@[irreducible] noncomputable def f_strings_Builder_String (n : Nat) (args : List V) (H : Heap) : Option R := callA C n 9 args H
@[irreducible] noncomputable def f_strings_genSplit (n : Nat) (args : List V) (H : Heap) : Option R := callA C n 10 args H
@[irreducible] noncomputable def f_internal_stringslite_TrimSuffix (n : Nat) (args : List V) (H : Heap) : Option R := callA C n 11 args H
@[irreducible] noncomputable def f_strings_Trim (n : Nat) (args : List V) (H : Heap) : Option R := callA C n 12 args H
@[irreducible] noncomputable def f_shell_numbers (n : Nat) (args : List V) (H : Heap) : Option R := callA C n 13 args H
@[irreducible] noncomputable def f_shell_many (n : Nat) (args : List V) (H : Heap) : Option R := callA C n 14 args H
@[irreducible] noncomputable def f_shell_shell_put (n : Nat) (args : List V) (H : Heap) : Option R := callA C n 15 args H
@[irreducible] noncomputable def f_shell_shell_does (n : Nat) (args : List V) (H : Heap) : Option R := callA C n 16 args H
@[irreducible] noncomputable def f_strings_explode (n : Nat) (args : List V) (H : Heap) : Option R := callA C n 17 args H
@[irreducible] noncomputable def f_strings_Count (n : Nat) (args : List V) (H : Heap) : Option R := callA C n 18 args H
@[irreducible] noncomputable def f_strings_Index (n : Nat) (args : List V) (H : Heap) : Option R := callA C n 19 args H
@[irreducible] noncomputable def f_internal_stringslite_HasSuffix (n : Nat) (args : List V) (H : Heap) : Option R := callA C n 20 args H
@[irreducible] noncomputable def f_strings_trimLeftByte (n : Nat) (args : List V) (H : Heap) : Option R := callA C n 21 args H
@[irreducible] noncomputable def f_strings_trimRightByte (n : Nat) (args : List V) (H : Heap) : Option R := callA C n 22 args H
@[irreducible] noncomputable def f_strings_makeASCIISet (n : Nat) (args : List V) (H : Heap) : Option R := callA C n 23 args H
@[irreducible] noncomputable def f_strings_trimLeftASCII (n : Nat) (args : List V) (H : Heap) : Option R := callA C n 24 args H
@[irreducible] noncomputable def f_strings_trimRightASCII (n : Nat) (args : List V) (H : Heap) : Option R := callA C n 25 args H
@[irreducible] noncomputable def f_strings_trimLeftUnicode (n : Nat) (args : List V) (H : Heap) : Option R := callA C n 26 args H
@[irreducible] noncomputable def f_strings_trimRightUnicode (n : Nat) (args : List V) (H : Heap) : Option R := callA C n 27 args H
@[irreducible] noncomputable def f_unicode_utf8_RuneCountInString (n : Nat) (args : List V) (H : Heap) : Option R := callA C n 36 args H
@[irreducible] noncomputable def f_internal_bytealg_CountString (n : Nat) (args : List V) (H : Heap) : Option R := callA C n 38 args H
@[irreducible] noncomputable def f_internal_stringslite_Index (n : Nat) (args : List V) (H : Heap) : Option R := callA C n 39 args H
@[irreducible] noncomputable def f_internal_stringslite_IndexByte (n : Nat) (args : List V) (H : Heap) : Option R := callA C n 58 args H
@[irreducible] noncomputable def f_internal_bytealg_IndexString (n : Nat) (args : List V) (H : Heap) : Option R := callA C n 59 args H
@[irreducible] noncomputable def f_internal_bytealg_Cutover (n : Nat) (args : List V) (H : Heap) : Option R := callA C n 60 args H
@[irreducible] noncomputable def f_internal_bytealg_IndexRabinKarp_string (n : Nat) (args : List V) (H : Heap) : Option R := callA C n 61 args H
@[irreducible] noncomputable def f_internal_bytealg_IndexByteString (n : Nat) (args : List V) (H : Heap) : Option R := callA C n 77 args H
theorem law30_lives_ext {H : Heap} {args : List V} {Q : V → Heap → Prop} (h : Tot (fun _ => (extC (.bool true) : List V → Heap → Option R) args H) Q) : Tot (fun n => f_law30_lives n args H) Q := Tot.fn (fun n => by unfold f_law30_lives; kernel_rfl) h
theorem internal_bytealg_CountString_ext {H : Heap} {args : List V} {Q : V → Heap → Prop} (h : Tot (fun _ => (extCnt : List V → Heap → Option R) args H) Q) : Tot (fun n => f_internal_bytealg_CountString n args H) Q := Tot.fn (fun n => by unfold f_internal_bytealg_CountString; kernel_rfl) h
theorem internal_bytealg_IndexByteString_ext {H : Heap} {args : List V} {Q : V → Heap → Prop} (h : Tot (fun _ => (extIdx : List V → Heap → Option R) args H) Q) : Tot (fun n => f_internal_bytealg_IndexByteString n args H) Q := Tot.fn (fun n => by unfold f_internal_bytealg_IndexByteString; kernel_rfl) h
end Go.AM.N
end
section
set_option linter.unusedVariables false
set_option linter.unusedSimpArgs false
set_option maxRecDepth 1000000
set_option linter.unusedVariables false
namespace Go.AM.N
@[irreducible] noncomputable def law30_ShellLong.l0 (n m0 : Nat) (v1 v5 v6 : V) (H : Heap) : Option R := Lp C n 3 [1, 1, 0, 1, 0, 0] m0 [(1, v1), (5, v5), (6, v6)] H (kB 0 (kC C n 3 [1, 1, 1] (kR C 3)))
@[irreducible] noncomputable def law30_ShellLong.p1 (n : Nat) (v1 v5 : V) (H : Heap) : Option R := E C n 3 [1, 1, 1] [(1, v1), (5, v5)] H (kR C 3)
@[irreducible] noncomputable def law30_ShellLong.l2 (n m0 : Nat) (v1 v7 v8 v9 v10 v11 : V) (H : Heap) : Option R := Lp C n 3 [1, 1, 1, 1, 1, 1, 0, 1, 0, 0] m0 [(1, v1), (7, v7), (8, v8), (9, v9), (10, v10), (11, v11)] H (kB 2 (kC C n 3 [1, 1, 1, 1, 1, 1, 1] (kR C 3)))
@[irreducible] noncomputable def law30_ShellLong.p3 (n : Nat) (v1 v7 v8 v9 v10 : V) (H : Heap) : Option R := E C n 3 [1, 1, 1, 1, 1, 1, 1] [(1, v1), (7, v7), (8, v8), (9, v9), (10, v10)] H (kR C 3)
@[simp] noncomputable def law30_ShellLong.l0_b (bd : B2) (n m0 : Nat) (v1 v5 v6 : V) (H : Heap) : Option R :=
 (bd (lenSl v5) fun t21_1 =>
 (bd (arA .lss v6 t21_1) fun t22_2 =>
 (bd (asB t22_2) fun b3 =>
 if b3 = true then
 (bd (idxS 1 v5 v6) fun t27_4 =>
 (bd (stA 1 t27_4 (.int .u8 10) H) fun H5 =>
 (bd (arA .add v6 (.int .i64 1)) fun t24_6 =>
 (law30_ShellLong.l0 n m0 v1 v5 t24_6 H5))))
 else
 (law30_ShellLong.p1 n v1 v5 H))))
theorem law30_ShellLong.l0_tot {m0 : Nat → Nat} {v1 v5 v6 : V} {H : Heap} {Q : V → Heap → Prop} (hb : Big m0) (h : ∀ m0', Big m0' → Tot (fun n => law30_ShellLong.l0_b @bnd n (m0' n) v1 v5 v6 H) Q) : Tot (fun n => law30_ShellLong.l0 n (m0 n) v1 v5 v6 H) Q :=
  Tot.loop (f := fun n k => law30_ShellLong.l0 n k v1 v5 v6 H) (g := fun n k => law30_ShellLong.l0_b @bnd n k v1 v5 v6 H) hb (fun n k => bd_bnd (fun bd => law30_ShellLong.l0_b bd n k v1 v5 v6 H) (by kernel_rfl)) h
@[simp] noncomputable def law30_ShellLong.p1_b (bd : B2) (n : Nat) (v1 v5 : V) (H : Heap) : Option R :=
 (bd (cvBytes v5 H) fun t30_1 =>
 (bd (f_shell_Run n [t30_1] H) fun r2 =>
 (bd (extA r2.1 0) fun t32_3 =>
 (bd (extA r2.1 1) fun t33_4 =>
 (bd (lenSl v5) fun t35_5 =>
 (bd (arA .gtr t35_5 (.int .i64 10000)) fun t36_6 =>
 (bd (arA .rem v1 (.int .u8 2)) fun t38_7 =>
 (bd (cvInt .i64 t38_7) fun t39_8 =>
 (bd (arA .add (.int .i64 1048576) t39_8) fun t40_9 =>
 (bd (mkSl 1 1 ty_uint8 [(.int .u8 0)] t40_9 t40_9) fun o10 =>
 (law30_ShellLong.l2 n n v1 t32_3 t33_4 t36_6 (.slice ⟨some (r2.2.n, 0), o10.2, 1, false⟩) (.int .i64 0) (r2.2.push o10.1))))))))))))
theorem law30_ShellLong.p1_tot {v1 v5 : V} {H : Heap} {Q : V → Heap → Prop} (h : Tot (fun n => law30_ShellLong.p1_b @bnd n v1 v5 H) Q) : Tot (fun n => law30_ShellLong.p1 n v1 v5 H) Q := Tot.eq (fun n => bd_bnd (fun bd => law30_ShellLong.p1_b bd n v1 v5 H) (by kernel_rfl)) h
@[simp] noncomputable def law30_ShellLong.l2_b (bd : B2) (n m0 : Nat) (v1 v7 v8 v9 v10 v11 : V) (H : Heap) : Option R :=
 (bd (lenSl v10) fun t44_1 =>
 (bd (arA .lss v11 t44_1) fun t45_2 =>
 (bd (asB t45_2) fun b3 =>
 if b3 = true then
 (bd (idxS 1 v10 v11) fun t50_4 =>
 (bd (stA 1 t50_4 (.int .u8 35) H) fun H5 =>
 (bd (arA .add v11 (.int .i64 1)) fun t47_6 =>
 (law30_ShellLong.l2 n m0 v1 v7 v8 v9 v10 t47_6 H5))))
 else
 (law30_ShellLong.p3 n v1 v7 v8 v9 v10 H))))
theorem law30_ShellLong.l2_tot {m0 : Nat → Nat} {v1 v7 v8 v9 v10 v11 : V} {H : Heap} {Q : V → Heap → Prop} (hb : Big m0) (h : ∀ m0', Big m0' → Tot (fun n => law30_ShellLong.l2_b @bnd n (m0' n) v1 v7 v8 v9 v10 v11 H) Q) : Tot (fun n => law30_ShellLong.l2 n (m0 n) v1 v7 v8 v9 v10 v11 H) Q :=
  Tot.loop (f := fun n k => law30_ShellLong.l2 n k v1 v7 v8 v9 v10 v11 H) (g := fun n k => law30_ShellLong.l2_b @bnd n k v1 v7 v8 v9 v10 v11 H) hb (fun n k => bd_bnd (fun bd => law30_ShellLong.l2_b bd n k v1 v7 v8 v9 v10 v11 H) (by kernel_rfl)) h
@[simp] noncomputable def law30_ShellLong.p3_b (bd : B2) (n : Nat) (v1 v7 v8 v9 v10 : V) (H : Heap) : Option R :=
 (bd (cvBytes v10 H) fun t53_1 =>
 (bd (f_shell_Run n [t53_1] H) fun r2 =>
 (bd (extA r2.1 0) fun t55_3 =>
 (bd (extA r2.1 1) fun t56_4 =>
 (bd (arA .eql v7 (.str [])) fun t58_5 =>
 (bd (asB t58_5) fun b6 =>
 if b6 = true then
 (bd (arA .eql v8 (.int .i64 5)) fun t61_7 =>
 (bd (eqlA P ty_bool t61_7 v9) fun t63_8 =>
 (bd (asB t63_8) fun b9 =>
 if b9 = true then
 (bd (arA .eql v8 (.int .i64 0)) fun t67_10 =>
 (bd (unA .not v9) fun t69_11 =>
 (bd (eqlA P ty_bool t67_10 t69_11) fun t70_12 =>
 (bd (asB t70_12) fun b13 =>
 if b13 = true then
 (bd (arA .eql t55_3 (.str [])) fun t74_14 =>
 (bd (asB t74_14) fun b15 =>
 if b15 = true then
 (bd (arA .eql t56_4 (.int .i64 5)) fun t78_16 =>
 (bd (arA .rem v1 (.int .u8 2)) fun t80_17 =>
 (bd (arA .eql t80_17 (.int .u8 1)) fun t81_18 =>
 (bd (eqlA P ty_bool t78_16 t81_18) fun t82_19 =>
 (bd (asB t82_19) fun b20 =>
 if b20 = true then
 (bd (f_law30_lives n [] r2.2) fun r21 =>
 (some (r21.1, r21.2)))
 else
 (some ((.bool false), r2.2)))))))
 else
 (some ((.bool false), r2.2))))
 else
 (some ((.bool false), r2.2))))))
 else
 (some ((.bool false), r2.2)))))
 else
 (some ((.bool false), r2.2))))))))
theorem law30_ShellLong.p3_tot {v1 v7 v8 v9 v10 : V} {H : Heap} {Q : V → Heap → Prop} (h : Tot (fun n => law30_ShellLong.p3_b @bnd n v1 v7 v8 v9 v10 H) Q) : Tot (fun n => law30_ShellLong.p3 n v1 v7 v8 v9 v10 H) Q := Tot.eq (fun n => bd_bnd (fun bd => law30_ShellLong.p3_b bd n v1 v7 v8 v9 v10 H) (by kernel_rfl)) h
@[simp] noncomputable def law30_ShellLong_b (bd : B2) (n : Nat) (v0 v1 : V) (H : Heap) : Option R :=
 (bd (arA .rem v0 (.int .u16 21)) fun t15_1 =>
 (bd (cvInt .i64 t15_1) fun t16_2 =>
 (bd (arA .add (.int .i64 9990) t16_2) fun t17_3 =>
 (bd (mkSl 1 1 ty_uint8 [(.int .u8 0)] t17_3 t17_3) fun o4 =>
 (law30_ShellLong.l0 n n v1 (.slice ⟨some (H.n, 0), o4.2, 1, false⟩) (.int .i64 0) (H.push o4.1))))))
theorem law30_ShellLong_in (n : Nat) (a : List V) (H : Heap) : f_law30_ShellLong (n + 1) a H = pureA a H (fun a => E C n 3 [] (argsA 0 a) ⟨0, .nil⟩ (kR C 3)) := by unfold f_law30_ShellLong; kernel_rfl
theorem law30_ShellLong_tot {v0 v1 : V} {H : Heap} {Q : V → Heap → Prop} (hf : List.all [v0, v1] V.fro = true) (hg : V.frees [v0, v1] = true) (h : Tot (fun n => law30_ShellLong_b @bnd n v0 v1 E0) fun v _ => v.free = true ∧ Q v H) : Tot (fun n => f_law30_ShellLong n [v0, v1] H) Q := Tot.pu (k := fun n a => E C n 3 [] (argsA 0 a) ⟨0, .nil⟩ (kR C 3)) hf hg (fun n => law30_ShellLong_in n _ _) (fun n => bd_bnd (fun bd => law30_ShellLong_b bd n v0 v1 E0) (by kernel_rfl)) h
@[irreducible] noncomputable def shell_Run.p0 (n : Nat) (v0 v4 : V) (H : Heap) : Option R := E C n 4 [1, 1, 1] [(0, v0), (4, v4)] H (kR C 4)
@[irreducible] noncomputable def shell_Run.l1 (n m0 : Nat) (v5 : V) (H : Heap) : Option R := Lp C n 4 [1, 1, 1, 1, 1, 0, 0, 0] m0 [(5, v5)] H (kB 0 (kC C n 4 [1, 1, 1, 1, 1, 1] (kR C 4)))
@[irreducible] noncomputable def shell_Run.p2 (n : Nat) (v5 : V) (H : Heap) : Option R := E C n 4 [1, 1, 1, 1, 1, 1] [(5, v5)] H (kR C 4)
@[simp] noncomputable def shell_Run.p0_b (bd : B2) (n : Nat) (v0 v4 : V) (H : Heap) : Option R :=
 (bd (lenStr v0) fun t13_1 =>
 (bd (arA .gtr t13_1 (.int .i64 1048576)) fun t14_2 =>
 (bd (asB t14_2) fun b3 =>
 if b3 = true then
 (some (.tuple [(.str []), (.int .i64 5)], H))
 else
 (bd (lenSl v4) fun t17_4 =>
 (bd (arA .gtr t17_4 (.int .i64 10000)) fun t18_5 =>
 (bd (asB t18_5) fun b6 =>
 if b6 = true then
 (some (.tuple [(.str []), (.int .i64 5)], H))
 else
 (bd (flA [(0, 2), (2, 1), (3, 1)] [(.ptr none), (.slice ⟨none, 0, 0, false⟩), (.ptr none), (.slice ⟨none, 0, 0, false⟩)] [(2, v4)]) fun t21_7 =>
 (bd (boxA ty_shell_shell t21_7) fun o8 =>
 (shell_Run.l1 n n (.ptr (some (H.n, 0))) (H.push o8))))))))))
theorem shell_Run.p0_tot {v0 v4 : V} {H : Heap} {Q : V → Heap → Prop} (h : Tot (fun n => shell_Run.p0_b @bnd n v0 v4 H) Q) : Tot (fun n => shell_Run.p0 n v0 v4 H) Q := Tot.eq (fun n => bd_bnd (fun bd => shell_Run.p0_b bd n v0 v4 H) (by kernel_rfl)) h
@[simp] noncomputable def shell_Run.l1_b (bd : B2) (n m0 : Nat) (v5 : V) (H : Heap) : Option R :=
 (bd (nilC v5) fun t24_1 =>
 (bd (faA 3 t24_1) fun t25_2 =>
 (bd (ld1 t25_2 H) fun t26_3 =>
 (bd (lenSl t26_3) fun t27_4 =>
 (bd (arA .gtr t27_4 (.int .i64 0)) fun t28_5 =>
 (bd (asB t28_5) fun b6 =>
 if b6 = true then
 (bd (nilC v5) fun t30_7 =>
 (bd (faA 3 t30_7) fun t31_8 =>
 (bd (ld1 t31_8 H) fun t32_9 =>
 (bd (idxS 1 t32_9 (.int .i64 0)) fun t33_10 =>
 (bd (ld1 t33_10 H) fun t34_11 =>
 (bd (nilC v5) fun t37_12 =>
 (bd (faA 3 t37_12) fun t38_13 =>
 (bd (ld1 t38_13 H) fun t39_14 =>
 (bd (slSl 1 t39_14 (some (.int .i64 1)) none) fun t40_15 =>
 (bd (nilC v5) fun t41_16 =>
 (bd (faA 3 t41_16) fun t42_17 =>
 (bd (stA 1 t42_17 t40_15 H) fun H18 =>
 (bd (f_shell_shell_line n [v5, t34_11] H18) fun r19 =>
 (shell_Run.l1 n m0 v5 r19.2))))))))))))))
 else
 (shell_Run.p2 n v5 H)))))))
theorem shell_Run.l1_tot {m0 : Nat → Nat} {v5 : V} {H : Heap} {Q : V → Heap → Prop} (hb : Big m0) (h : ∀ m0', Big m0' → Tot (fun n => shell_Run.l1_b @bnd n (m0' n) v5 H) Q) : Tot (fun n => shell_Run.l1 n (m0 n) v5 H) Q :=
  Tot.loop (f := fun n k => shell_Run.l1 n k v5 H) (g := fun n k => shell_Run.l1_b @bnd n k v5 H) hb (fun n k => bd_bnd (fun bd => shell_Run.l1_b bd n k v5 H) (by kernel_rfl)) h
@[simp] noncomputable def shell_Run.p2_b (bd : B2) (n : Nat) (v5 : V) (H : Heap) : Option R :=
 (bd (nilC v5) fun t47_1 =>
 (bd (faA 0 t47_1) fun t48_2 =>
 (bd (f_strings_Builder_String n [t48_2] H) fun r3 =>
 (some (.tuple [r3.1, (.int .i64 0)], r3.2)))))
theorem shell_Run.p2_tot {v5 : V} {H : Heap} {Q : V → Heap → Prop} (h : Tot (fun n => shell_Run.p2_b @bnd n v5 H) Q) : Tot (fun n => shell_Run.p2 n v5 H) Q := Tot.eq (fun n => bd_bnd (fun bd => shell_Run.p2_b bd n v5 H) (by kernel_rfl)) h
@[simp] noncomputable def shell_Run_b (bd : B2) (n : Nat) (v0 : V) (H : Heap) : Option R :=
 (bd (arA .neq v0 (.str [])) fun t8_1 =>
 (bd (asB t8_1) fun b2 =>
 if b2 = true then
 (bd (f_strings_TrimSuffix n [v0, (.str [10])] H) fun r3 =>
 (bd (f_strings_Split n [r3.1, (.str [10])] r3.2) fun r4 =>
 (shell_Run.p0 n v0 r4.1 r4.2)))
 else
 (shell_Run.p0 n v0 (.slice ⟨none, 0, 0, false⟩) H)))
theorem shell_Run_in (n : Nat) (a : List V) (H : Heap) : f_shell_Run (n + 1) a H = pureA a H (fun a => E C n 4 [] (argsA 0 a) ⟨0, .nil⟩ (kR C 4)) := by unfold f_shell_Run; kernel_rfl
theorem shell_Run_tot {v0 : V} {H : Heap} {Q : V → Heap → Prop} (hf : List.all [v0] V.fro = true) (hg : V.frees [v0] = true) (h : Tot (fun n => shell_Run_b @bnd n v0 E0) fun v _ => v.free = true ∧ Q v H) : Tot (fun n => f_shell_Run n [v0] H) Q := Tot.pu (k := fun n a => E C n 4 [] (argsA 0 a) ⟨0, .nil⟩ (kR C 4)) hf hg (fun n => shell_Run_in n _ _) (fun n => bd_bnd (fun bd => shell_Run_b bd n v0 E0) (by kernel_rfl)) h
@[simp] noncomputable def strings_Split_b (bd : B2) (n : Nat) (v0 v1 : V) (H : Heap) : Option R :=
 (bd (f_strings_genSplit n [v0, v1, (.int .i64 0), (.int .i64 (-1))] H) fun r1 =>
 (some (r1.1, r1.2)))
theorem strings_Split_tot {v0 v1 : V} {H : Heap} {Q : V → Heap → Prop} (h : Tot (fun n => strings_Split_b @bnd n v0 v1 H) Q) : Tot (fun n => f_strings_Split n [v0, v1] H) Q := Tot.fn (fun n => bd_bnd (fun bd => strings_Split_b bd n v0 v1 H) (by kernel_rfl)) h
@[simp] noncomputable def strings_TrimSuffix_b (bd : B2) (n : Nat) (v0 v1 : V) (H : Heap) : Option R :=
 (bd (f_internal_stringslite_TrimSuffix n [v0, v1] H) fun r1 =>
 (some (r1.1, r1.2)))
theorem strings_TrimSuffix_tot {v0 v1 : V} {H : Heap} {Q : V → Heap → Prop} (h : Tot (fun n => strings_TrimSuffix_b @bnd n v0 v1 H) Q) : Tot (fun n => f_strings_TrimSuffix n [v0, v1] H) Q := Tot.fn (fun n => bd_bnd (fun bd => strings_TrimSuffix_b bd n v0 v1 H) (by kernel_rfl)) h
@[simp] noncomputable def shell_shell_line_b (bd : B2) (n : Nat) (v0 v1 : V) (H : Heap) : Option R :=
 (bd (f_strings_Trim n [v1, (.str [32])] H) fun r1 =>
 (bd (arA .eql r1.1 (.str [])) fun t9_2 =>
 (bd (asB t9_2) fun b3 =>
 if b3 = true then
 (some (.tuple [], r1.2))
 else
 (bd (ixStr v1 (.int .i64 0)) fun t12_4 =>
 (bd (arA .eql t12_4 (.int .u8 35)) fun t13_5 =>
 (bd (asB t13_5) fun b6 =>
 if b6 = true then
 (some (.tuple [], r1.2))
 else
 (bd (f_strings_Split n [v1, (.str [32])] r1.2) fun r7 =>
 (bd (slSl 1 r7.1 (some (.int .i64 1)) none) fun t19_8 =>
 (bd (f_shell_numbers n [t19_8] r7.2) fun r9 =>
 (bd (extA r9.1 0) fun t21_10 =>
 (bd (extA r9.1 1) fun t22_11 =>
 (bd (unA .not t22_11) fun t24_12 =>
 (bd (asB t24_12) fun b13 =>
 if b13 = true then
 (bd (bSl 1 ty_string [(.str [])] 2 [(0, (.str [63])), (1, v1)]) fun o14 =>
 (bd (f_shell_shell_put n [v0, (.slice ⟨some (r9.2.n, 0), 2, 1, false⟩)] (r9.2.push o14)) fun r15 =>
 (some (.tuple [], r15.2))))
 else
 (bd (idxS 1 r7.1 (.int .i64 0)) fun t27_16 =>
 (bd (ld1 t27_16 r9.2) fun t28_17 =>
 (bd (f_shell_many n [t28_17] r9.2) fun r18 =>
 (bd (lenSl t21_10) fun t31_19 =>
 (bd (arA .neq r18.1 t31_19) fun t32_20 =>
 (bd (asB t32_20) fun b21 =>
 if b21 = true then
 (bd (bSl 1 ty_string [(.str [])] 2 [(0, (.str [63])), (1, v1)]) fun o22 =>
 (bd (f_shell_shell_put n [v0, (.slice ⟨some (r18.2.n, 0), 2, 1, false⟩)] (r18.2.push o22)) fun r23 =>
 (some (.tuple [], r23.2))))
 else
 (bd (idxS 1 r7.1 (.int .i64 0)) fun t40_24 =>
 (bd (ld1 t40_24 r18.2) fun t41_25 =>
 (bd (f_shell_shell_does n [v0, t41_25, t21_10] r18.2) fun r26 =>
 (some (.tuple [], r26.2))))))))))))))))))))))))
theorem shell_shell_line_tot {v0 v1 : V} {H : Heap} {Q : V → Heap → Prop} (h : Tot (fun n => shell_shell_line_b @bnd n v0 v1 H) Q) : Tot (fun n => f_shell_shell_line n [v0, v1] H) Q := Tot.fn (fun n => bd_bnd (fun bd => shell_shell_line_b bd n v0 v1 H) (by kernel_rfl)) h
@[simp] noncomputable def strings_Builder_String_b (bd : B2) (n : Nat) (v0 : V) (H : Heap) : Option R :=
 (bd (nilC v0) fun t4_1 =>
 (bd (faA 1 t4_1) fun t5_2 =>
 (bd (ld1 t5_2 (H.more 0)) fun t6_3 =>
 (bd (slData t6_3) fun t7_4 =>
 (bd (nilC v0) fun t9_5 =>
 (bd (faA 1 t9_5) fun t10_6 =>
 (bd (ld1 t10_6 (H.more 0)) fun t11_7 =>
 (bd (chk (ld1 t10_6 (H.more 0)) t11_7) fun _ =>
 (bd (lenSl t11_7) fun t12_8 =>
 (bd (unStrA P ty_p_uint8 t7_4 t12_8 (H.more 0)) fun p9 =>
 (some (p9.1, p9.2))))))))))))
theorem strings_Builder_String_tot {v0 : V} {H : Heap} {Q : V → Heap → Prop} (h : Tot (fun n => strings_Builder_String_b @bnd n v0 H) Q) : Tot (fun n => f_strings_Builder_String n [v0] H) Q := Tot.fn (fun n => bd_bnd (fun bd => strings_Builder_String_b bd n v0 H) (by kernel_rfl)) h
@[irreducible] noncomputable def strings_genSplit.p0 (n : Nat) (v0 v1 v2 v3 : V) (H : Heap) : Option R := E C n 10 [1, 1, 1, 1] [(0, v0), (1, v1), (2, v2), (3, v3)] H (kR C 10)
@[irreducible] noncomputable def strings_genSplit.l1 (n m0 : Nat) (v0 v1 v2 v3 v9 v10 : V) (H : Heap) : Option R := Lp C n 10 [1, 1, 1, 1, 1, 1, 1, 1, 0, 0, 0] m0 [(0, v0), (1, v1), (2, v2), (3, v3), (9, v9), (10, v10)] H (kB 0 (kC C n 10 [1, 1, 1, 1, 1, 1, 1, 1, 1] (kR C 10)))
@[irreducible] noncomputable def strings_genSplit.p2 (n : Nat) (v0 v9 v10 : V) (H : Heap) : Option R := E C n 10 [1, 1, 1, 1, 1, 1, 1, 1, 1] [(0, v0), (9, v9), (10, v10)] H (kR C 10)
@[simp] noncomputable def strings_genSplit.p0_b (bd : B2) (n : Nat) (v0 v1 v2 v3 : V) (H : Heap) : Option R :=
 (bd (lenStr v0) fun t27_1 =>
 (bd (arA .add t27_1 (.int .i64 1)) fun t28_2 =>
 (bd (mmA false [v3, t28_2]) fun t29_3 =>
 (bd (mkSl 1 16 ty_string [(.str [])] t29_3 t29_3) fun o4 =>
 (bd (arA .sub t29_3 (.int .i64 1)) fun t33_5 =>
 (strings_genSplit.l1 n n v0 v1 v2 t33_5 (.slice ⟨some (H.n, 0), o4.2, 1, false⟩) (.int .i64 0) (H.push o4.1)))))))
theorem strings_genSplit.p0_tot {v0 v1 v2 v3 : V} {H : Heap} {Q : V → Heap → Prop} (h : Tot (fun n => strings_genSplit.p0_b @bnd n v0 v1 v2 v3 H) Q) : Tot (fun n => strings_genSplit.p0 n v0 v1 v2 v3 H) Q := Tot.eq (fun n => bd_bnd (fun bd => strings_genSplit.p0_b bd n v0 v1 v2 v3 H) (by kernel_rfl)) h
@[simp] noncomputable def strings_genSplit.l1_b (bd : B2) (n m0 : Nat) (v0 v1 v2 v3 v9 v10 : V) (H : Heap) : Option R :=
 (bd (arA .lss v10 v3) fun t36_1 =>
 (bd (asB t36_1) fun b2 =>
 if b2 = true then
 (bd (f_strings_Index n [v0, v1] H) fun r3 =>
 (bd (arA .lss r3.1 (.int .i64 0)) fun t41_4 =>
 (bd (asB t41_4) fun b5 =>
 if b5 = true then
 (strings_genSplit.p2 n v0 v9 v10 r3.2)
 else
 (bd (arA .add r3.1 v2) fun t47_6 =>
 (bd (slStr v0 none (some t47_6)) fun t48_7 =>
 (bd (idxS 1 v9 v10) fun t49_8 =>
 (bd (stA 1 t49_8 t48_7 r3.2) fun H9 =>
 (bd (lenStr v1) fun t53_10 =>
 (bd (arA .add r3.1 t53_10) fun t54_11 =>
 (bd (slStr v0 (some t54_11) none) fun t55_12 =>
 (bd (arA .add v10 (.int .i64 1)) fun t57_13 =>
 (strings_genSplit.l1 n m0 t55_12 v1 v2 v3 v9 t57_13 H9))))))))))))
 else
 (strings_genSplit.p2 n v0 v9 v10 H)))
theorem strings_genSplit.l1_tot {m0 : Nat → Nat} {v0 v1 v2 v3 v9 v10 : V} {H : Heap} {Q : V → Heap → Prop} (hb : Big m0) (h : ∀ m0', Big m0' → Tot (fun n => strings_genSplit.l1_b @bnd n (m0' n) v0 v1 v2 v3 v9 v10 H) Q) : Tot (fun n => strings_genSplit.l1 n (m0 n) v0 v1 v2 v3 v9 v10 H) Q :=
  Tot.loop (f := fun n k => strings_genSplit.l1 n k v0 v1 v2 v3 v9 v10 H) (g := fun n k => strings_genSplit.l1_b @bnd n k v0 v1 v2 v3 v9 v10 H) hb (fun n k => bd_bnd (fun bd => strings_genSplit.l1_b bd n k v0 v1 v2 v3 v9 v10 H) (by kernel_rfl)) h
@[simp] noncomputable def strings_genSplit.p2_b (bd : B2) (n : Nat) (v0 v9 v10 : V) (H : Heap) : Option R :=
 (bd (idxS 1 v9 v10) fun t61_1 =>
 (bd (stA 1 t61_1 v0 H) fun H2 =>
 (bd (arA .add v10 (.int .i64 1)) fun t64_3 =>
 (bd (slSl 1 v9 none (some t64_3)) fun t65_4 =>
 (some (t65_4, H2))))))
theorem strings_genSplit.p2_tot {v0 v9 v10 : V} {H : Heap} {Q : V → Heap → Prop} (h : Tot (fun n => strings_genSplit.p2_b @bnd n v0 v9 v10 H) Q) : Tot (fun n => strings_genSplit.p2 n v0 v9 v10 H) Q := Tot.eq (fun n => bd_bnd (fun bd => strings_genSplit.p2_b bd n v0 v9 v10 H) (by kernel_rfl)) h
@[simp] noncomputable def strings_genSplit_b (bd : B2) (n : Nat) (v0 v1 v2 v3 : V) (H : Heap) : Option R :=
 (bd (arA .eql v3 (.int .i64 0)) fun t13_1 =>
 (bd (asB t13_1) fun b2 =>
 if b2 = true then
 (some ((.slice ⟨none, 0, 0, false⟩), H))
 else
 (bd (arA .eql v1 (.str [])) fun t15_3 =>
 (bd (asB t15_3) fun b4 =>
 if b4 = true then
 (bd (f_strings_explode n [v0, v3] H) fun r5 =>
 (some (r5.1, r5.2)))
 else
 (bd (arA .lss v3 (.int .i64 0)) fun t20_6 =>
 (bd (asB t20_6) fun b7 =>
 if b7 = true then
 (bd (f_strings_Count n [v0, v1] H) fun r8 =>
 (bd (arA .add r8.1 (.int .i64 1)) fun t24_9 =>
 (strings_genSplit.p0 n v0 v1 v2 t24_9 r8.2)))
 else
 (strings_genSplit.p0 n v0 v1 v2 v3 H)))))))
theorem strings_genSplit_tot {v0 v1 v2 v3 : V} {H : Heap} {Q : V → Heap → Prop} (h : Tot (fun n => strings_genSplit_b @bnd n v0 v1 v2 v3 H) Q) : Tot (fun n => f_strings_genSplit n [v0, v1, v2, v3] H) Q := Tot.fn (fun n => bd_bnd (fun bd => strings_genSplit_b bd n v0 v1 v2 v3 H) (by kernel_rfl)) h
@[simp] noncomputable def internal_stringslite_TrimSuffix_b (bd : B2) (n : Nat) (v0 v1 : V) (H : Heap) : Option R :=
 (bd (f_internal_stringslite_HasSuffix n [v0, v1] H) fun r1 =>
 (bd (asB r1.1) fun b2 =>
 if b2 = true then
 (bd (lenStr v0) fun t10_3 =>
 (bd (lenStr v1) fun t12_4 =>
 (bd (arA .sub t10_3 t12_4) fun t13_5 =>
 (bd (slStr v0 none (some t13_5)) fun t14_6 =>
 (some (t14_6, r1.2))))))
 else
 (some (v0, r1.2))))
theorem internal_stringslite_TrimSuffix_tot {v0 v1 : V} {H : Heap} {Q : V → Heap → Prop} (h : Tot (fun n => internal_stringslite_TrimSuffix_b @bnd n v0 v1 H) Q) : Tot (fun n => f_internal_stringslite_TrimSuffix n [v0, v1] H) Q := Tot.fn (fun n => bd_bnd (fun bd => internal_stringslite_TrimSuffix_b bd n v0 v1 H) (by kernel_rfl)) h
@[simp] noncomputable def strings_Trim_b (bd : B2) (n : Nat) (v0 v1 : V) (H : Heap) : Option R :=
 (bd (arA .eql v0 (.str [])) fun t8_1 =>
 (bd (asB t8_1) fun b2 =>
 if b2 = true then
 (some (v0, H))
 else
 (bd (arA .eql v1 (.str [])) fun t11_3 =>
 (bd (asB t11_3) fun b4 =>
 if b4 = true then
 (some (v0, H))
 else
 (bd (lenStr v1) fun t15_5 =>
 (bd (arA .eql t15_5 (.int .i64 1)) fun t16_6 =>
 (bd (asB t16_6) fun b7 =>
 if b7 = true then
 (bd (ixStr v1 (.int .i64 0)) fun t19_8 =>
 (bd (arA .lss t19_8 (.int .u8 128)) fun t20_9 =>
 (bd (asB t20_9) fun b10 =>
 if b10 = true then
 (bd (ixStr v1 (.int .i64 0)) fun t24_11 =>
 (bd (f_strings_trimRightByte n [v0, t24_11] (H.more 0)) fun r12 =>
 (bd (ixStr v1 (.int .i64 0)) fun t27_13 =>
 (bd (f_strings_trimLeftByte n [r12.1, t27_13] r12.2) fun r14 =>
 (some (r14.1, r14.2))))))
 else
 (bd (f_strings_makeASCIISet n [v1] H) fun r15 =>
 (bd (extA r15.1 0) fun t32_16 =>
 (bd (extA r15.1 1) fun t33_17 =>
 (bd (stA 256 (.ptr (some (r15.2.n, 0))) t32_16 (r15.2.push (.cells [(.bool false), (.bool false), (.bool false), (.bool false), (.bool false), (.bool false), (.bool false), (.bool false), (.bool false), (.bool false), (.bool false), (.bool false), (.bool false), (.bool false), (.bool false), (.bool false), (.bool false), (.bool false), (.bool false), (.bool false), (.bool false), (.bool false), (.bool false), (.bool false), (.bool false), (.bool false), (.bool false), (.bool false), (.bool false), (.bool false), (.bool false), (.bool false), (.bool false), (.bool false), (.bool false), (.bool false), (.bool false), (.bool false), (.bool false), (.bool false), (.bool false), (.bool false), (.bool false), (.bool false), (.bool false), (.bool false), (.bool false), (.bool false), (.bool false), (.bool false), (.bool false), (.bool false), (.bool false), (.bool false), (.bool false), (.bool false), (.bool false), (.bool false), (.bool false), (.bool false), (.bool false), (.bool false), (.bool false), (.bool false), (.bool false), (.bool false), (.bool false), (.bool false), (.bool false), (.bool false), (.bool false), (.bool false), (.bool false), (.bool false), (.bool false), (.bool false), (.bool false), (.bool false), (.bool false), (.bool false), (.bool false), (.bool false), (.bool false), (.bool false), (.bool false), (.bool false), (.bool false), (.bool false), (.bool false), (.bool false), (.bool false), (.bool false), (.bool false), (.bool false), (.bool false), (.bool false), (.bool false), (.bool false), (.bool false), (.bool false), (.bool false), (.bool false), (.bool false), (.bool false), (.bool false), (.bool false), (.bool false), (.bool false), (.bool false), (.bool false), (.bool false), (.bool false), (.bool false), (.bool false), (.bool false), (.bool false), (.bool false), (.bool false), (.bool false), (.bool false), (.bool false), (.bool false), (.bool false), (.bool false), (.bool false), (.bool false), (.bool false), (.bool false), (.bool false), (.bool false), (.bool false), (.bool false), (.bool false), (.bool false), (.bool false), (.bool false), (.bool false), (.bool false), (.bool false), (.bool false), (.bool false), (.bool false), (.bool false), (.bool false), (.bool false), (.bool false), (.bool false), (.bool false), (.bool false), (.bool false), (.bool false), (.bool false), (.bool false), (.bool false), (.bool false), (.bool false), (.bool false), (.bool false), (.bool false), (.bool false), (.bool false), (.bool false), (.bool false), (.bool false), (.bool false), (.bool false), (.bool false), (.bool false), (.bool false), (.bool false), (.bool false), (.bool false), (.bool false), (.bool false), (.bool false), (.bool false), (.bool false), (.bool false), (.bool false), (.bool false), (.bool false), (.bool false), (.bool false), (.bool false), (.bool false), (.bool false), (.bool false), (.bool false), (.bool false), (.bool false), (.bool false), (.bool false), (.bool false), (.bool false), (.bool false), (.bool false), (.bool false), (.bool false), (.bool false), (.bool false), (.bool false), (.bool false), (.bool false), (.bool false), (.bool false), (.bool false), (.bool false), (.bool false), (.bool false), (.bool false), (.bool false), (.bool false), (.bool false), (.bool false), (.bool false), (.bool false), (.bool false), (.bool false), (.bool false), (.bool false), (.bool false), (.bool false), (.bool false), (.bool false), (.bool false), (.bool false), (.bool false), (.bool false), (.bool false), (.bool false), (.bool false), (.bool false), (.bool false), (.bool false), (.bool false), (.bool false), (.bool false), (.bool false), (.bool false), (.bool false), (.bool false), (.bool false), (.bool false), (.bool false), (.bool false), (.bool false), (.bool false), (.bool false), (.bool false), (.bool false), (.bool false), (.bool false), (.bool false), (.bool false), (.bool false), (.bool false)] ty_strings_asciiSet false))) fun H18 =>
 (bd (asB t33_17) fun b19 =>
 if b19 = true then
 (bd (f_strings_trimRightASCII n [v0, (.ptr (some (r15.2.n, 0)))] H18) fun r20 =>
 (bd (f_strings_trimLeftASCII n [r20.1, (.ptr (some (r15.2.n, 0)))] r20.2) fun r21 =>
 (some (r21.1, r21.2))))
 else
 (bd (f_strings_trimRightUnicode n [v0, v1] H18) fun r22 =>
 (bd (f_strings_trimLeftUnicode n [r22.1, v1] r22.2) fun r23 =>
 (some (r23.1, r23.2))))))))))))
 else
 (bd (f_strings_makeASCIISet n [v1] H) fun r24 =>
 (bd (extA r24.1 0) fun t32_25 =>
 (bd (extA r24.1 1) fun t33_26 =>
 (bd (stA 256 (.ptr (some (r24.2.n, 0))) t32_25 (r24.2.push (.cells [(.bool false), (.bool false), (.bool false), (.bool false), (.bool false), (.bool false), (.bool false), (.bool false), (.bool false), (.bool false), (.bool false), (.bool false), (.bool false), (.bool false), (.bool false), (.bool false), (.bool false), (.bool false), (.bool false), (.bool false), (.bool false), (.bool false), (.bool false), (.bool false), (.bool false), (.bool false), (.bool false), (.bool false), (.bool false), (.bool false), (.bool false), (.bool false), (.bool false), (.bool false), (.bool false), (.bool false), (.bool false), (.bool false), (.bool false), (.bool false), (.bool false), (.bool false), (.bool false), (.bool false), (.bool false), (.bool false), (.bool false), (.bool false), (.bool false), (.bool false), (.bool false), (.bool false), (.bool false), (.bool false), (.bool false), (.bool false), (.bool false), (.bool false), (.bool false), (.bool false), (.bool false), (.bool false), (.bool false), (.bool false), (.bool false), (.bool false), (.bool false), (.bool false), (.bool false), (.bool false), (.bool false), (.bool false), (.bool false), (.bool false), (.bool false), (.bool false), (.bool false), (.bool false), (.bool false), (.bool false), (.bool false), (.bool false), (.bool false), (.bool false), (.bool false), (.bool false), (.bool false), (.bool false), (.bool false), (.bool false), (.bool false), (.bool false), (.bool false), (.bool false), (.bool false), (.bool false), (.bool false), (.bool false), (.bool false), (.bool false), (.bool false), (.bool false), (.bool false), (.bool false), (.bool false), (.bool false), (.bool false), (.bool false), (.bool false), (.bool false), (.bool false), (.bool false), (.bool false), (.bool false), (.bool false), (.bool false), (.bool false), (.bool false), (.bool false), (.bool false), (.bool false), (.bool false), (.bool false), (.bool false), (.bool false), (.bool false), (.bool false), (.bool false), (.bool false), (.bool false), (.bool false), (.bool false), (.bool false), (.bool false), (.bool false), (.bool false), (.bool false), (.bool false), (.bool false), (.bool false), (.bool false), (.bool false), (.bool false), (.bool false), (.bool false), (.bool false), (.bool false), (.bool false), (.bool false), (.bool false), (.bool false), (.bool false), (.bool false), (.bool false), (.bool false), (.bool false), (.bool false), (.bool false), (.bool false), (.bool false), (.bool false), (.bool false), (.bool false), (.bool false), (.bool false), (.bool false), (.bool false), (.bool false), (.bool false), (.bool false), (.bool false), (.bool false), (.bool false), (.bool false), (.bool false), (.bool false), (.bool false), (.bool false), (.bool false), (.bool false), (.bool false), (.bool false), (.bool false), (.bool false), (.bool false), (.bool false), (.bool false), (.bool false), (.bool false), (.bool false), (.bool false), (.bool false), (.bool false), (.bool false), (.bool false), (.bool false), (.bool false), (.bool false), (.bool false), (.bool false), (.bool false), (.bool false), (.bool false), (.bool false), (.bool false), (.bool false), (.bool false), (.bool false), (.bool false), (.bool false), (.bool false), (.bool false), (.bool false), (.bool false), (.bool false), (.bool false), (.bool false), (.bool false), (.bool false), (.bool false), (.bool false), (.bool false), (.bool false), (.bool false), (.bool false), (.bool false), (.bool false), (.bool false), (.bool false), (.bool false), (.bool false), (.bool false), (.bool false), (.bool false), (.bool false), (.bool false), (.bool false), (.bool false), (.bool false), (.bool false), (.bool false), (.bool false), (.bool false), (.bool false), (.bool false), (.bool false), (.bool false), (.bool false), (.bool false), (.bool false), (.bool false), (.bool false), (.bool false), (.bool false), (.bool false), (.bool false)] ty_strings_asciiSet false))) fun H27 =>
 (bd (asB t33_26) fun b28 =>
 if b28 = true then
 (bd (f_strings_trimRightASCII n [v0, (.ptr (some (r24.2.n, 0)))] H27) fun r29 =>
 (bd (f_strings_trimLeftASCII n [r29.1, (.ptr (some (r24.2.n, 0)))] r29.2) fun r30 =>
 (some (r30.1, r30.2))))
 else
 (bd (f_strings_trimRightUnicode n [v0, v1] H27) fun r31 =>
 (bd (f_strings_trimLeftUnicode n [r31.1, v1] r31.2) fun r32 =>
 (some (r32.1, r32.2))))))))))))))))
theorem strings_Trim_tot {v0 v1 : V} {H : Heap} {Q : V → Heap → Prop} (h : Tot (fun n => strings_Trim_b @bnd n v0 v1 H) Q) : Tot (fun n => f_strings_Trim n [v0, v1] H) Q := Tot.fn (fun n => bd_bnd (fun bd => strings_Trim_b bd n v0 v1 H) (by kernel_rfl)) h
@[irreducible] noncomputable def strings_Count.l0 (n m0 : Nat) (v0 v1 v5 : V) (H : Heap) : Option R := Lp C n 18 [1, 1, 1, 1, 0, 0] m0 [(0, v0), (1, v1), (5, v5)] H (kB 0 (kR C 18))
@[simp] noncomputable def strings_Count.l0_b (bd : B2) (n m0 : Nat) (v0 v1 v5 : V) (H : Heap) : Option R :=
 (bd (f_strings_Index n [v0, v1] H) fun r1 =>
 (bd (arA .eql r1.1 (.int .i64 (-1))) fun t24_2 =>
 (bd (asB t24_2) fun b3 =>
 if b3 = true then
 (some (v5, r1.2))
 else
 (bd (arA .add v5 (.int .i64 1)) fun t27_4 =>
 (bd (lenStr v1) fun t31_5 =>
 (bd (arA .add r1.1 t31_5) fun t32_6 =>
 (bd (slStr v0 (some t32_6) none) fun t33_7 =>
 (strings_Count.l0 n m0 t33_7 v1 t27_4 r1.2))))))))
theorem strings_Count.l0_tot {m0 : Nat → Nat} {v0 v1 v5 : V} {H : Heap} {Q : V → Heap → Prop} (hb : Big m0) (h : ∀ m0', Big m0' → Tot (fun n => strings_Count.l0_b @bnd n (m0' n) v0 v1 v5 H) Q) : Tot (fun n => strings_Count.l0 n (m0 n) v0 v1 v5 H) Q :=
  Tot.loop (f := fun n k => strings_Count.l0 n k v0 v1 v5 H) (g := fun n k => strings_Count.l0_b @bnd n k v0 v1 v5 H) hb (fun n k => bd_bnd (fun bd => strings_Count.l0_b bd n k v0 v1 v5 H) (by kernel_rfl)) h
@[simp] noncomputable def strings_Count_b (bd : B2) (n : Nat) (v0 v1 : V) (H : Heap) : Option R :=
 (bd (lenStr v1) fun t8_1 =>
 (bd (arA .eql t8_1 (.int .i64 0)) fun t9_2 =>
 (bd (asB t9_2) fun b3 =>
 if b3 = true then
 (bd (f_unicode_utf8_RuneCountInString n [v0] H) fun r4 =>
 (bd (arA .add r4.1 (.int .i64 1)) fun t12_5 =>
 (some (t12_5, r4.2))))
 else
 (bd (lenStr v1) fun t14_6 =>
 (bd (arA .eql t14_6 (.int .i64 1)) fun t15_7 =>
 (bd (asB t15_7) fun b8 =>
 if b8 = true then
 (bd (ixStr v1 (.int .i64 0)) fun t18_9 =>
 (bd (f_internal_bytealg_CountString n [v0, t18_9] H) fun r10 =>
 (some (r10.1, r10.2))))
 else
 (strings_Count.l0 n n v0 v1 (.int .i64 0) H)))))))
theorem strings_Count_tot {v0 v1 : V} {H : Heap} {Q : V → Heap → Prop} (h : Tot (fun n => strings_Count_b @bnd n v0 v1 H) Q) : Tot (fun n => f_strings_Count n [v0, v1] H) Q := Tot.fn (fun n => bd_bnd (fun bd => strings_Count_b bd n v0 v1 H) (by kernel_rfl)) h
@[simp] noncomputable def strings_Index_b (bd : B2) (n : Nat) (v0 v1 : V) (H : Heap) : Option R :=
 (bd (f_internal_stringslite_Index n [v0, v1] H) fun r1 =>
 (some (r1.1, r1.2)))
theorem strings_Index_tot {v0 v1 : V} {H : Heap} {Q : V → Heap → Prop} (h : Tot (fun n => strings_Index_b @bnd n v0 v1 H) Q) : Tot (fun n => f_strings_Index n [v0, v1] H) Q := Tot.fn (fun n => bd_bnd (fun bd => strings_Index_b bd n v0 v1 H) (by kernel_rfl)) h
@[simp] noncomputable def internal_stringslite_HasSuffix_b (bd : B2) (n : Nat) (v0 v1 : V) (H : Heap) : Option R :=
 (bd (lenStr v0) fun t6_1 =>
 (bd (lenStr v1) fun t8_2 =>
 (bd (arA .geq t6_1 t8_2) fun t9_3 =>
 (bd (asB t9_3) fun b4 =>
 if b4 = true then
 (bd (lenStr v0) fun t13_5 =>
 (bd (lenStr v1) fun t15_6 =>
 (bd (arA .sub t13_5 t15_6) fun t16_7 =>
 (bd (slStr v0 (some t16_7) none) fun t17_8 =>
 (bd (arA .eql t17_8 v1) fun t19_9 =>
 (some (t19_9, H)))))))
 else
 (some ((.bool false), H))))))
theorem internal_stringslite_HasSuffix_tot {v0 v1 : V} {H : Heap} {Q : V → Heap → Prop} (h : Tot (fun n => internal_stringslite_HasSuffix_b @bnd n v0 v1 H) Q) : Tot (fun n => f_internal_stringslite_HasSuffix n [v0, v1] H) Q := Tot.fn (fun n => bd_bnd (fun bd => internal_stringslite_HasSuffix_b bd n v0 v1 H) (by kernel_rfl)) h
@[irreducible] noncomputable def strings_trimLeftByte.l0 (n m0 : Nat) (v0 v1 : V) (H : Heap) : Option R := Lp C n 21 [1, 0, 0, 0] m0 [(0, v0), (1, v1)] H (kB 0 (kC C n 21 [1, 1] (kR C 21)))
@[simp] noncomputable def strings_trimLeftByte.l0_b (bd : B2) (n m0 : Nat) (v0 v1 : V) (H : Heap) : Option R :=
 (bd (lenStr v0) fun t6_1 =>
 (bd (arA .gtr t6_1 (.int .i64 0)) fun t7_2 =>
 (bd (asB t7_2) fun b3 =>
 if b3 = true then
 (bd (ixStr v0 (.int .i64 0)) fun t10_4 =>
 (bd (arA .eql t10_4 v1) fun t12_5 =>
 (bd (asB t12_5) fun b6 =>
 if b6 = true then
 (bd (slStr v0 (some (.int .i64 1)) none) fun t15_7 =>
 (strings_trimLeftByte.l0 n m0 t15_7 v1 H))
 else
 (some (v0, H)))))
 else
 (some (v0, H)))))
theorem strings_trimLeftByte.l0_tot {m0 : Nat → Nat} {v0 v1 : V} {H : Heap} {Q : V → Heap → Prop} (hb : Big m0) (h : ∀ m0', Big m0' → Tot (fun n => strings_trimLeftByte.l0_b @bnd n (m0' n) v0 v1 H) Q) : Tot (fun n => strings_trimLeftByte.l0 n (m0 n) v0 v1 H) Q :=
  Tot.loop (f := fun n k => strings_trimLeftByte.l0 n k v0 v1 H) (g := fun n k => strings_trimLeftByte.l0_b @bnd n k v0 v1 H) hb (fun n k => bd_bnd (fun bd => strings_trimLeftByte.l0_b bd n k v0 v1 H) (by kernel_rfl)) h
@[simp] noncomputable def strings_trimLeftByte_b (bd : B2) (n : Nat) (v0 v1 : V) (H : Heap) : Option R :=
 (strings_trimLeftByte.l0 n n v0 v1 H)
theorem strings_trimLeftByte_tot {v0 v1 : V} {H : Heap} {Q : V → Heap → Prop} (h : Tot (fun n => strings_trimLeftByte_b @bnd n v0 v1 H) Q) : Tot (fun n => f_strings_trimLeftByte n [v0, v1] H) Q := Tot.fn (fun n => bd_bnd (fun bd => strings_trimLeftByte_b bd n v0 v1 H) (by kernel_rfl)) h
@[irreducible] noncomputable def strings_trimRightByte.l0 (n m0 : Nat) (v0 v1 : V) (H : Heap) : Option R := Lp C n 22 [1, 0, 0, 0] m0 [(0, v0), (1, v1)] H (kB 0 (kC C n 22 [1, 1] (kR C 22)))
@[simp] noncomputable def strings_trimRightByte.l0_b (bd : B2) (n m0 : Nat) (v0 v1 : V) (H : Heap) : Option R :=
 (bd (lenStr v0) fun t6_1 =>
 (bd (arA .gtr t6_1 (.int .i64 0)) fun t7_2 =>
 (bd (asB t7_2) fun b3 =>
 if b3 = true then
 (bd (lenStr v0) fun t11_4 =>
 (bd (arA .sub t11_4 (.int .i64 1)) fun t12_5 =>
 (bd (ixStr v0 t12_5) fun t13_6 =>
 (bd (arA .eql t13_6 v1) fun t15_7 =>
 (bd (asB t15_7) fun b8 =>
 if b8 = true then
 (bd (lenStr v0) fun t19_9 =>
 (bd (arA .sub t19_9 (.int .i64 1)) fun t20_10 =>
 (bd (slStr v0 none (some t20_10)) fun t21_11 =>
 (strings_trimRightByte.l0 n m0 t21_11 v1 H))))
 else
 (some (v0, H)))))))
 else
 (some (v0, H)))))
theorem strings_trimRightByte.l0_tot {m0 : Nat → Nat} {v0 v1 : V} {H : Heap} {Q : V → Heap → Prop} (hb : Big m0) (h : ∀ m0', Big m0' → Tot (fun n => strings_trimRightByte.l0_b @bnd n (m0' n) v0 v1 H) Q) : Tot (fun n => strings_trimRightByte.l0 n (m0 n) v0 v1 H) Q :=
  Tot.loop (f := fun n k => strings_trimRightByte.l0 n k v0 v1 H) (g := fun n k => strings_trimRightByte.l0_b @bnd n k v0 v1 H) hb (fun n k => bd_bnd (fun bd => strings_trimRightByte.l0_b bd n k v0 v1 H) (by kernel_rfl)) h
@[simp] noncomputable def strings_trimRightByte_b (bd : B2) (n : Nat) (v0 v1 : V) (H : Heap) : Option R :=
 (strings_trimRightByte.l0 n n v0 v1 H)
theorem strings_trimRightByte_tot {v0 v1 : V} {H : Heap} {Q : V → Heap → Prop} (h : Tot (fun n => strings_trimRightByte_b @bnd n v0 v1 H) Q) : Tot (fun n => f_strings_trimRightByte n [v0, v1] H) Q := Tot.fn (fun n => bd_bnd (fun bd => strings_trimRightByte_b bd n v0 v1 H) (by kernel_rfl)) h
end Go.AM.N
end
section
set_option linter.unusedVariables false
set_option linter.unusedSimpArgs false
set_option maxRecDepth 1000000
set_option linter.unusedVariables false
namespace Go.AM.N
@[irreducible] noncomputable def internal_stringslite_Index.l0 (n m0 : Nat) (v0 v1 v5 v6 v7 v8 v9 v10 : V) (H : Heap) : Option R := Lp C n 39 [1, 1, 1, 1, 1, 1, 1, 1, 0, 0, 0] m0 [(0, v0), (1, v1), (5, v5), (6, v6), (7, v7), (8, v8), (9, v9), (10, v10)] H (kB 1 (kC C n 39 [1, 1, 1, 1, 1, 1, 1, 1, 1] (kR C 39)))
@[irreducible] noncomputable def internal_stringslite_Index.p1 (n m0 : Nat) (v0 v1 v5 v6 v7 v8 v9 v10 : V) (H : Heap) : Option R := E C n 39 [1, 1, 1, 1, 1, 1, 1, 1, 0, 0, 0, 1, 0, 1] [(0, v0), (1, v1), (5, v5), (6, v6), (7, v7), (8, v8), (9, v9), (10, v10)] H (kB 2 (kL C n 39 [1, 1, 1, 1, 1, 1, 1, 1, 0, 0, 0] m0 (kB 1 (kC C n 39 [1, 1, 1, 1, 1, 1, 1, 1, 1] (kR C 39)))))
@[simp] noncomputable def internal_stringslite_Index.l0_b (bd : B2) (n m0 : Nat) (v0 v1 v5 v6 v7 v8 v9 v10 : V) (H : Heap) : Option R :=
 (bd (arA .lss v8 v9) fun t59_1 =>
 (bd (asB t59_1) fun b2 =>
 if b2 = true then
 (bd (ixStr v0 v8) fun t62_3 =>
 (bd (arA .neq t62_3 v6) fun t64_4 =>
 (bd (asB t64_4) fun b5 =>
 if b5 = true then
 (bd (arA .add v8 (.int .i64 1)) fun t67_6 =>
 (bd (slStr v0 (some t67_6) (some v9)) fun t69_7 =>
 (bd (f_internal_stringslite_IndexByte n [t69_7, v6] H) fun r8 =>
 (bd (arA .lss r8.1 (.int .i64 0)) fun t73_9 =>
 (bd (asB t73_9) fun b10 =>
 if b10 = true then
 (some ((.int .i64 (-1)), r8.2))
 else
 (bd (arA .add r8.1 (.int .i64 1)) fun t76_11 =>
 (bd (arA .add v8 t76_11) fun t77_12 =>
 (internal_stringslite_Index.p1 n m0 v0 v1 v5 v6 v7 t77_12 v9 v10 r8.2))))))))
 else
 (internal_stringslite_Index.p1 n m0 v0 v1 v5 v6 v7 v8 v9 v10 H))))
 else
 (some ((.int .i64 (-1)), H))))
theorem internal_stringslite_Index.l0_tot {m0 : Nat → Nat} {v0 v1 v5 v6 v7 v8 v9 v10 : V} {H : Heap} {Q : V → Heap → Prop} (hb : Big m0) (h : ∀ m0', Big m0' → Tot (fun n => internal_stringslite_Index.l0_b @bnd n (m0' n) v0 v1 v5 v6 v7 v8 v9 v10 H) Q) : Tot (fun n => internal_stringslite_Index.l0 n (m0 n) v0 v1 v5 v6 v7 v8 v9 v10 H) Q :=
  Tot.loop (f := fun n k => internal_stringslite_Index.l0 n k v0 v1 v5 v6 v7 v8 v9 v10 H) (g := fun n k => internal_stringslite_Index.l0_b @bnd n k v0 v1 v5 v6 v7 v8 v9 v10 H) hb (fun n k => bd_bnd (fun bd => internal_stringslite_Index.l0_b bd n k v0 v1 v5 v6 v7 v8 v9 v10 H) (by kernel_rfl)) h
@[simp] noncomputable def internal_stringslite_Index.p1_b (bd : B2) (n m0 : Nat) (v0 v1 v5 v6 v7 v8 v9 v10 : V) (H : Heap) : Option R :=
 (bd (arA .add v8 (.int .i64 1)) fun t80_1 =>
 (bd (ixStr v0 t80_1) fun t81_2 =>
 (bd (arA .eql t81_2 v7) fun t83_3 =>
 (bd (asB t83_3) fun b4 =>
 if b4 = true then
 (bd (arA .add v8 v5) fun t89_5 =>
 (bd (slStr v0 (some v8) (some t89_5)) fun t90_6 =>
 (bd (arA .eql t90_6 v1) fun t92_7 =>
 (bd (asB t92_7) fun b8 =>
 if b8 = true then
 (some (v8, H))
 else
 (bd (arA .add v8 (.int .i64 1)) fun t96_9 =>
 (bd (arA .add v10 (.int .i64 1)) fun t98_10 =>
 (bd (ld1 .dead H) fun t100_11 =>
 (bd (arA .leq v5 t100_11) fun t101_12 =>
 (bd (asB t101_12) fun b13 =>
 if b13 = true then
 (bd (f_internal_bytealg_Cutover n [t96_9] H) fun r14 =>
 (bd (arA .gtr t98_10 r14.1) fun t106_15 =>
 (bd (asB t106_15) fun b16 =>
 if b16 = true then
 (bd (slStr v0 (some t96_9) none) fun t110_17 =>
 (bd (f_internal_bytealg_IndexString n [t110_17, v1] r14.2) fun r18 =>
 (bd (arA .geq r18.1 (.int .i64 0)) fun t114_19 =>
 (bd (asB t114_19) fun b20 =>
 if b20 = true then
 (bd (arA .add r18.1 t96_9) fun t117_21 =>
 (some (t117_21, r18.2)))
 else
 (some ((.int .i64 (-1)), r18.2))))))
 else
 (bd (ld1 .dead r14.2) fun t119_22 =>
 (bd (arA .gtr v5 t119_22) fun t120_23 =>
 (bd (asB t120_23) fun b24 =>
 if b24 = true then
 (bd (shA .shr t96_9 (.int .u64 4)) fun t124_25 =>
 (bd (arA .add (.int .i64 4) t124_25) fun t125_26 =>
 (bd (arA .geq t98_10 t125_26) fun t126_27 =>
 (bd (asB t126_27) fun b28 =>
 if b28 = true then
 (bd (arA .lss t96_9 v9) fun t131_29 =>
 (bd (asB t131_29) fun b30 =>
 if b30 = true then
 (bd (slStr v0 (some t96_9) none) fun t135_31 =>
 (bd (f_internal_bytealg_IndexRabinKarp_string n [t135_31, v1] r14.2) fun r32 =>
 (bd (arA .lss r32.1 (.int .i64 0)) fun t139_33 =>
 (bd (asB t139_33) fun b34 =>
 if b34 = true then
 (some ((.int .i64 (-1)), r32.2))
 else
 (bd (arA .add t96_9 r32.1) fun t142_35 =>
 (some (t142_35, r32.2)))))))
 else
 (internal_stringslite_Index.l0 n m0 v0 v1 v5 v6 v7 t96_9 v9 t98_10 r14.2)))
 else
 (internal_stringslite_Index.l0 n m0 v0 v1 v5 v6 v7 t96_9 v9 t98_10 r14.2)))))
 else
 (internal_stringslite_Index.l0 n m0 v0 v1 v5 v6 v7 t96_9 v9 t98_10 r14.2)))))))
 else
 (bd (ld1 .dead H) fun t119_36 =>
 (bd (arA .gtr v5 t119_36) fun t120_37 =>
 (bd (asB t120_37) fun b38 =>
 if b38 = true then
 (bd (shA .shr t96_9 (.int .u64 4)) fun t124_39 =>
 (bd (arA .add (.int .i64 4) t124_39) fun t125_40 =>
 (bd (arA .geq t98_10 t125_40) fun t126_41 =>
 (bd (asB t126_41) fun b42 =>
 if b42 = true then
 (bd (arA .lss t96_9 v9) fun t131_43 =>
 (bd (asB t131_43) fun b44 =>
 if b44 = true then
 (bd (slStr v0 (some t96_9) none) fun t135_45 =>
 (bd (f_internal_bytealg_IndexRabinKarp_string n [t135_45, v1] H) fun r46 =>
 (bd (arA .lss r46.1 (.int .i64 0)) fun t139_47 =>
 (bd (asB t139_47) fun b48 =>
 if b48 = true then
 (some ((.int .i64 (-1)), r46.2))
 else
 (bd (arA .add t96_9 r46.1) fun t142_49 =>
 (some (t142_49, r46.2)))))))
 else
 (internal_stringslite_Index.l0 n m0 v0 v1 v5 v6 v7 t96_9 v9 t98_10 H)))
 else
 (internal_stringslite_Index.l0 n m0 v0 v1 v5 v6 v7 t96_9 v9 t98_10 H)))))
 else
 (internal_stringslite_Index.l0 n m0 v0 v1 v5 v6 v7 t96_9 v9 t98_10 H)))))))))))))
 else
 (bd (arA .add v8 (.int .i64 1)) fun t96_50 =>
 (bd (arA .add v10 (.int .i64 1)) fun t98_51 =>
 (bd (ld1 .dead H) fun t100_52 =>
 (bd (arA .leq v5 t100_52) fun t101_53 =>
 (bd (asB t101_53) fun b54 =>
 if b54 = true then
 (bd (f_internal_bytealg_Cutover n [t96_50] H) fun r55 =>
 (bd (arA .gtr t98_51 r55.1) fun t106_56 =>
 (bd (asB t106_56) fun b57 =>
 if b57 = true then
 (bd (slStr v0 (some t96_50) none) fun t110_58 =>
 (bd (f_internal_bytealg_IndexString n [t110_58, v1] r55.2) fun r59 =>
 (bd (arA .geq r59.1 (.int .i64 0)) fun t114_60 =>
 (bd (asB t114_60) fun b61 =>
 if b61 = true then
 (bd (arA .add r59.1 t96_50) fun t117_62 =>
 (some (t117_62, r59.2)))
 else
 (some ((.int .i64 (-1)), r59.2))))))
 else
 (bd (ld1 .dead r55.2) fun t119_63 =>
 (bd (arA .gtr v5 t119_63) fun t120_64 =>
 (bd (asB t120_64) fun b65 =>
 if b65 = true then
 (bd (shA .shr t96_50 (.int .u64 4)) fun t124_66 =>
 (bd (arA .add (.int .i64 4) t124_66) fun t125_67 =>
 (bd (arA .geq t98_51 t125_67) fun t126_68 =>
 (bd (asB t126_68) fun b69 =>
 if b69 = true then
 (bd (arA .lss t96_50 v9) fun t131_70 =>
 (bd (asB t131_70) fun b71 =>
 if b71 = true then
 (bd (slStr v0 (some t96_50) none) fun t135_72 =>
 (bd (f_internal_bytealg_IndexRabinKarp_string n [t135_72, v1] r55.2) fun r73 =>
 (bd (arA .lss r73.1 (.int .i64 0)) fun t139_74 =>
 (bd (asB t139_74) fun b75 =>
 if b75 = true then
 (some ((.int .i64 (-1)), r73.2))
 else
 (bd (arA .add t96_50 r73.1) fun t142_76 =>
 (some (t142_76, r73.2)))))))
 else
 (internal_stringslite_Index.l0 n m0 v0 v1 v5 v6 v7 t96_50 v9 t98_51 r55.2)))
 else
 (internal_stringslite_Index.l0 n m0 v0 v1 v5 v6 v7 t96_50 v9 t98_51 r55.2)))))
 else
 (internal_stringslite_Index.l0 n m0 v0 v1 v5 v6 v7 t96_50 v9 t98_51 r55.2)))))))
 else
 (bd (ld1 .dead H) fun t119_77 =>
 (bd (arA .gtr v5 t119_77) fun t120_78 =>
 (bd (asB t120_78) fun b79 =>
 if b79 = true then
 (bd (shA .shr t96_50 (.int .u64 4)) fun t124_80 =>
 (bd (arA .add (.int .i64 4) t124_80) fun t125_81 =>
 (bd (arA .geq t98_51 t125_81) fun t126_82 =>
 (bd (asB t126_82) fun b83 =>
 if b83 = true then
 (bd (arA .lss t96_50 v9) fun t131_84 =>
 (bd (asB t131_84) fun b85 =>
 if b85 = true then
 (bd (slStr v0 (some t96_50) none) fun t135_86 =>
 (bd (f_internal_bytealg_IndexRabinKarp_string n [t135_86, v1] H) fun r87 =>
 (bd (arA .lss r87.1 (.int .i64 0)) fun t139_88 =>
 (bd (asB t139_88) fun b89 =>
 if b89 = true then
 (some ((.int .i64 (-1)), r87.2))
 else
 (bd (arA .add t96_50 r87.1) fun t142_90 =>
 (some (t142_90, r87.2)))))))
 else
 (internal_stringslite_Index.l0 n m0 v0 v1 v5 v6 v7 t96_50 v9 t98_51 H)))
 else
 (internal_stringslite_Index.l0 n m0 v0 v1 v5 v6 v7 t96_50 v9 t98_51 H)))))
 else
 (internal_stringslite_Index.l0 n m0 v0 v1 v5 v6 v7 t96_50 v9 t98_51 H)))))))))))))
theorem internal_stringslite_Index.p1_tot {m0 : Nat → Nat} {v0 v1 v5 v6 v7 v8 v9 v10 : V} {H : Heap} {Q : V → Heap → Prop} (h : Tot (fun n => internal_stringslite_Index.p1_b @bnd n (m0 n) v0 v1 v5 v6 v7 v8 v9 v10 H) Q) : Tot (fun n => internal_stringslite_Index.p1 n (m0 n) v0 v1 v5 v6 v7 v8 v9 v10 H) Q := Tot.eq (fun n => bd_bnd (fun bd => internal_stringslite_Index.p1_b bd n (m0 n) v0 v1 v5 v6 v7 v8 v9 v10 H) (by kernel_rfl)) h
@[simp] noncomputable def internal_stringslite_Index_b (bd : B2) (n : Nat) (v0 v1 : V) (H : Heap) : Option R :=
 (bd (lenStr v1) fun t15_1 =>
 (bd (arA .eql t15_1 (.int .i64 0)) fun t18_2 =>
 (bd (asB t18_2) fun b3 =>
 if b3 = true then
 (some ((.int .i64 0), H))
 else
 (bd (arA .eql v1 v0) fun t22_4 =>
 (bd (asB t22_4) fun b5 =>
 if b5 = true then
 (some ((.int .i64 0), H))
 else
 (bd (arA .eql t15_1 (.int .i64 1)) fun t26_6 =>
 (bd (asB t26_6) fun b7 =>
 if b7 = true then
 (bd (ixStr v1 (.int .i64 0)) fun t29_8 =>
 (bd (f_internal_stringslite_IndexByte n [v0, t29_8] H) fun r9 =>
 (some (r9.1, r9.2))))
 else
 (bd (lenStr v0) fun t34_10 =>
 (bd (arA .geq t15_1 t34_10) fun t35_11 =>
 (bd (asB t35_11) fun b12 =>
 if b12 = true then
 (some ((.int .i64 (-1)), H))
 else
 (bd (ld1 .dead H) fun t38_13 =>
 (bd (arA .leq t15_1 t38_13) fun t39_14 =>
 (bd (asB t39_14) fun b15 =>
 if b15 = true then
 (bd (lenStr v0) fun t42_16 =>
 (bd (arA .leq t42_16 (.int .i64 64)) fun t43_17 =>
 (bd (asB t43_17) fun b18 =>
 if b18 = true then
 (bd (f_internal_bytealg_IndexString n [v0, v1] H) fun r19 =>
 (some (r19.1, r19.2)))
 else
 (bd (ixStr v1 (.int .i64 0)) fun t49_20 =>
 (bd (ixStr v1 (.int .i64 1)) fun t51_21 =>
 (bd (lenStr v0) fun t53_22 =>
 (bd (arA .sub t53_22 t15_1) fun t55_23 =>
 (bd (arA .add t55_23 (.int .i64 1)) fun t56_24 =>
 (internal_stringslite_Index.l0 n n v0 v1 t15_1 t49_20 t51_21 (.int .i64 0) t56_24 (.int .i64 0) H)))))))))
 else
 (bd (ixStr v1 (.int .i64 0)) fun t49_25 =>
 (bd (ixStr v1 (.int .i64 1)) fun t51_26 =>
 (bd (lenStr v0) fun t53_27 =>
 (bd (arA .sub t53_27 t15_1) fun t55_28 =>
 (bd (arA .add t55_28 (.int .i64 1)) fun t56_29 =>
 (internal_stringslite_Index.l0 n n v0 v1 t15_1 t49_25 t51_26 (.int .i64 0) t56_29 (.int .i64 0) H)))))))))))))))))))
theorem internal_stringslite_Index_tot {v0 v1 : V} {H : Heap} {Q : V → Heap → Prop} (h : Tot (fun n => internal_stringslite_Index_b @bnd n v0 v1 H) Q) : Tot (fun n => f_internal_stringslite_Index n [v0, v1] H) Q := Tot.fn (fun n => bd_bnd (fun bd => internal_stringslite_Index_b bd n v0 v1 H) (by kernel_rfl)) h
@[simp] noncomputable def internal_stringslite_IndexByte_b (bd : B2) (n : Nat) (v0 v1 : V) (H : Heap) : Option R :=
 (bd (f_internal_bytealg_IndexByteString n [v0, v1] H) fun r1 =>
 (some (r1.1, r1.2)))
theorem internal_stringslite_IndexByte_tot {v0 v1 : V} {H : Heap} {Q : V → Heap → Prop} (h : Tot (fun n => internal_stringslite_IndexByte_b @bnd n v0 v1 H) Q) : Tot (fun n => f_internal_stringslite_IndexByte n [v0, v1] H) Q := Tot.fn (fun n => bd_bnd (fun bd => internal_stringslite_IndexByte_b bd n v0 v1 H) (by kernel_rfl)) h
end Go.AM.N
end
section
set_option linter.unusedVariables false
set_option linter.unusedSimpArgs false

end
