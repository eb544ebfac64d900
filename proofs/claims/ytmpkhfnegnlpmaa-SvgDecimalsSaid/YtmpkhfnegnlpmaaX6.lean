/- Merged by program (mkclaim.py) from: AmPlan AmDraw AmDraw2 AmDraw3 AmCall AmArg AmArg2 AmLaw SrC SrO SrD SrE. -/
import Derived.LoopN
import Derived.Carry
import Derived.WideShapes
import Derived.Shelf.Strings.Repeat
import Derived.Shelf.Lays
import Derived.Ground.NamesProg
import Derived.Lib.Agree
import Derived.Test.YtmpkhfnegnlpmaaX5

section
set_option linter.unusedVariables false
set_option linter.unusedSimpArgs false
/- Regions whose order is open: what a plan must be, checked; what follows. -/
set_option linter.unusedSimpArgs false
namespace Go.AM
open Go.RowKit (Below)

def nodupB : List Nat → Bool
  | [] => true
  | x :: xs => !xs.contains x && nodupB xs
def okOrd (b : Array Nat) : List DStep → Bool
  | [] => true
  | s :: ss => (s :: ss).all (fun u => !(b.getD s.i 0).testBit u.i) && okOrd b ss
def okEff (b : Array Nat) : List DStep → List DStep → Bool
  | _, [] => true
  | prev, s :: ss => (!decide (s.kd = .eff) || prev.all fun u => (b.getD s.i 0).testBit u.i) && okEff b (s :: prev) ss
def okRead (b : Array Nat) : List Nat → List DStep → Bool
  | _, [] => true
  | efs, s :: ss => (!decide (s.kd = .read) || (efs.drop s.past).all fun e => (b.getD s.i 0).testBit e) && okRead b (if s.kd = .eff then s.i :: efs else efs) ss
def okWr (ops : Array Oper) (b : Array Nat) : Bool :=
  (List.range ops.size).all fun j => match (ops.getD j default).dst with
    | none => true
    | some t => (List.range ops.size).all fun i => !((ops.getD i default).looksAt ops).contains t || ((b.getD i 0).testBit j || (b.getD j 0).testBit i)
def mkR (l : List DStep) : List Nat := l.filterMap fun s => if s.kd = .make then some s.r else none
def planOk (P : Program) (ops : Array Oper) (m : Nat) (l : List DStep) : Bool :=
  let b := aheadOf ops
  (List.range ops.size).all (fun i => l.any fun s => s.i == i) && nodupB (l.map (·.i)) &&
  l.all (fun s => decide (s.i < ops.size) && decide (s.kd = kind P (ops.getD s.i default).op)) &&
  okOrd b l && okWr ops b && nodupB (ops.toList.filterMap (·.dst)) && okEff b [] l && okRead b [] l &&
  nodupB (mkR l) && (mkR l).all (fun r => decide (r < m)) &&
  (List.range ops.size).all fun i => (ops.getD i default).after.all fun e => !Region.binds .any e || decide (e.on < i)

/-- The number of writing steps ahead of a place. -/
def cntE (l : List DStep) (p : Nat) : Nat := (l.take p).countP fun s => decide (s.kd = .eff)

structure PlanOk (P : Program) (ops : Array Oper) (m : Nat) (l : List DStep) : Prop where
  all : ∀ i : Nat, i < ops.size → ∃ (p : Nat) (s : DStep), l[p]? = some s ∧ s.i = i
  inj : ∀ (p q : Nat) (s u : DStep), l[p]? = some s → l[q]? = some u → s.i = u.i → p = q
  op : ∀ (p : Nat) (s : DStep), l[p]? = some s → ∃ o : Oper, ops[s.i]? = some o ∧ s.kd = kind P o.op
  ord : ∀ (p q : Nat) (s u : DStep), l[p]? = some s → l[q]? = some u → ((aheadOf ops).getD s.i 0).testBit u.i = true → q < p
  wr : ∀ (i j : Nat) (oi oj : Oper) (t : Tmp), ops[i]? = some oi → ops[j]? = some oj → oj.dst = some t → t ∈ oi.looksAt ops → ((aheadOf ops).getD i 0).testBit j = true ∨ ((aheadOf ops).getD j 0).testBit i = true
  dst : ∀ (i j : Nat) (oi oj : Oper) (t : Tmp), ops[i]? = some oi → ops[j]? = some oj → oi.dst = some t → oj.dst = some t → i = j
  eff : ∀ (p q : Nat) (s u : DStep), p < q → l[p]? = some s → l[q]? = some u → u.kd = .eff → ((aheadOf ops).getD u.i 0).testBit s.i = true
  read : ∀ (p : Nat) (s : DStep), l[p]? = some s → s.kd = .read → ∀ (q : Nat) (u : DStep), q < p → l[q]? = some u → u.kd = .eff → ((aheadOf ops).getD s.i 0).testBit u.i = true ∨ cntE l p - cntE l q ≤ s.past
  makeInj : ∀ (p q : Nat) (s u : DStep), l[p]? = some s → l[q]? = some u → s.kd = .make → u.kd = .make → s.r = u.r → p = q
  makeLt : ∀ (p : Nat) (s : DStep), l[p]? = some s → s.kd = .make → s.r < m
  edge : ∀ (i : Nat) (o : Oper), ops[i]? = some o → ∀ e ∈ o.after, Region.binds .any e = true → e.on < i

theorem nodupB_get : ∀ {xs : List Nat}, nodupB xs = true → ∀ {p q : Nat} {x : Nat}, xs[p]? = some x → xs[q]? = some x → p = q
  | [], _, p, q, x, h, _ => by simp at h
  | y :: ys, hn, p, q, x, h1, h2 => by
    simp only [nodupB, Bool.and_eq_true, Bool.not_eq_true', List.contains_eq_mem, decide_eq_false_iff_not] at hn
    cases p with
    | zero =>
      cases q with
      | zero => rfl
      | succ q =>
        simp at h1 h2; subst h1
        exact absurd (List.mem_of_getElem? h2) hn.1
    | succ p =>
      cases q with
      | zero =>
        simp at h1 h2; subst h2
        exact absurd (List.mem_of_getElem? h1) hn.1
      | succ q => simp at h1 h2; rw [nodupB_get hn.2 h1 h2]

theorem okOrd_spec {b : Array Nat} : ∀ {l : List DStep}, okOrd b l = true → ∀ {p q : Nat} {s u : DStep}, l[p]? = some s → l[q]? = some u → (b.getD s.i 0).testBit u.i = true → q < p
  | [], _, p, q, s, u, h, _, _ => by simp at h
  | x :: l, ho, p, q, s, u, h1, h2, hb => by
    simp only [okOrd, Bool.and_eq_true, List.all_eq_true] at ho
    cases p with
    | zero =>
      simp at h1; subst h1
      have := ho.1 u (List.mem_of_getElem? h2)
      rw [hb] at this; simp at this
    | succ p =>
      cases q with
      | zero => omega
      | succ q =>
        simp at h1 h2
        have := okOrd_spec ho.2 h1 h2 hb
        omega

theorem okEff_spec {b : Array Nat} : ∀ {l prev : List DStep}, okEff b prev l = true → ∀ {q : Nat} {u : DStep}, l[q]? = some u → u.kd = .eff →
    (∀ s ∈ prev, (b.getD u.i 0).testBit s.i = true) ∧ ∀ (p : Nat) (s : DStep), p < q → l[p]? = some s → (b.getD u.i 0).testBit s.i = true
  | [], prev, _, q, u, h, _ => by simp at h
  | x :: l, prev, ho, q, u, h, hk => by
    simp only [okEff, Bool.and_eq_true, Bool.or_eq_true, Bool.not_eq_true', decide_eq_false_iff_not, List.all_eq_true] at ho
    cases q with
    | zero =>
      simp at h; subst h
      refine ⟨(ho.1).resolve_left (by simp [hk]), ?_⟩
      intro p s hp; omega
    | succ q =>
      simp at h
      obtain ⟨h1, h2⟩ := okEff_spec ho.2 h hk
      refine ⟨fun s hs => h1 s (by simp [hs]), ?_⟩
      intro p s hp hs
      cases p with
      | zero => simp at hs; subst hs; exact h1 _ (by simp)
      | succ p => simp at hs; exact h2 p s (by omega) hs

theorem okRead_spec {b : Array Nat} : ∀ {l : List DStep} {efs : List Nat}, okRead b efs l = true → ∀ {p : Nat} {s : DStep}, l[p]? = some s → s.kd = .read →
    (∀ (j e : Nat), efs[j]? = some e → (b.getD s.i 0).testBit e = true ∨ j + cntE l p < s.past) ∧
    ∀ (q : Nat) (u : DStep), q < p → l[q]? = some u → u.kd = .eff → (b.getD s.i 0).testBit u.i = true ∨ cntE l p - cntE l q ≤ s.past
  | [], efs, _, p, s, h, _ => by simp at h
  | x :: l, efs, ho, p, s, h, hk => by
    simp only [okRead, Bool.and_eq_true, Bool.or_eq_true, Bool.not_eq_true', decide_eq_false_iff_not, List.all_eq_true] at ho
    cases p with
    | zero =>
      simp at h; subst h
      have h1 := (ho.1).resolve_left (by simp [hk])
      refine ⟨?_, fun q u hq => by omega⟩
      intro j e he
      by_cases hj : j < x.past
      · exact .inr (by simp [cntE]; omega)
      · refine .inl (h1 e ?_)
        refine List.mem_of_getElem? (i := j - x.past) ?_
        rw [List.getElem?_drop, show x.past + (j - x.past) = j by omega]; exact he
    | succ p =>
      simp at h
      obtain ⟨h1, h2⟩ := okRead_spec ho.2 h hk
      have hc : cntE (x :: l) (p + 1) = cntE l p + if x.kd = .eff then 1 else 0 := by simp [cntE, List.countP_cons]
      refine ⟨?_, ?_⟩
      · intro j e he
        by_cases hx : x.kd = .eff
        · rw [if_pos hx] at h1 hc
          rcases h1 (j + 1) e (by simpa using he) with h | h
          · exact .inl h
          · exact .inr (by omega)
        · rw [if_neg hx] at h1 hc
          rcases h1 j e he with h | h
          · exact .inl h
          · exact .inr (by omega)
      · intro q u hq hu hku
        cases q with
        | zero =>
          simp at hu; subst hu
          rw [if_pos hku] at h1 hc
          rcases h1 0 x.i (by simp) with h | h
          · exact .inl h
          · exact .inr (by rw [hc]; simp [cntE] at h ⊢; omega)
        | succ q =>
          simp at hu
          have hc2 : cntE (x :: l) (q + 1) = cntE l q + if x.kd = .eff then 1 else 0 := by simp [cntE, List.countP_cons]
          rcases h2 q u (by omega) hu hku with h | h
          · exact .inl h
          · exact .inr (by omega)

theorem mkR_inj : ∀ {l : List DStep}, nodupB (mkR l) = true → ∀ {p q : Nat} {s u : DStep}, l[p]? = some s → l[q]? = some u → s.kd = .make → u.kd = .make → s.r = u.r → p = q
  | [], _, p, q, s, u, h, _, _, _, _ => by simp at h
  | x :: l, hn, p, q, s, u, h1, h2, k1, k2, hr => by
    have hmem : ∀ {q : Nat} {u : DStep}, l[q]? = some u → u.kd = .make → u.r ∈ mkR l := by
      intro q u h k
      exact List.mem_filterMap.2 ⟨u, List.mem_of_getElem? h, by simp [k]⟩
    by_cases hx : x.kd = .make
    · simp only [mkR, List.filterMap_cons, hx, if_true, nodupB, Bool.and_eq_true, Bool.not_eq_true', List.contains_eq_mem, decide_eq_false_iff_not] at hn
      cases p with
      | zero =>
        simp at h1; subst h1
        cases q with
        | zero => rfl
        | succ q => simp at h2; exact absurd (hr ▸ hmem h2 k2) hn.1
      | succ p =>
        simp at h1
        cases q with
        | zero => simp at h2; subst h2; exact absurd (hr ▸ hmem h1 k1) hn.1
        | succ q => simp at h2; rw [mkR_inj hn.2 h1 h2 k1 k2 hr]
    · simp only [mkR, List.filterMap_cons, hx, if_false] at hn
      cases p with
      | zero => simp at h1; subst h1; exact absurd k1 hx
      | succ p =>
        cases q with
        | zero => simp at h2; subst h2; exact absurd k2 hx
        | succ q => simp at h1 h2; rw [mkR_inj hn h1 h2 k1 k2 hr]

theorem filterMap_inj {ops : List Oper} (hn : nodupB (ops.filterMap (·.dst)) = true) : ∀ {i j : Nat} {oi oj : Oper} {t : Tmp}, ops[i]? = some oi → ops[j]? = some oj → oi.dst = some t → oj.dst = some t → i = j := by
  induction ops with
  | nil => intro i j oi oj t h; simp at h
  | cons x xs ih =>
    intro i j oi oj t h1 h2 d1 d2
    have hmem : ∀ {q : Nat} {u : Oper}, xs[q]? = some u → u.dst = some t → t ∈ xs.filterMap (·.dst) := by
      intro q u h k
      exact List.mem_filterMap.2 ⟨u, List.mem_of_getElem? h, k⟩
    cases hx : x.dst with
    | none =>
      simp only [List.filterMap_cons, hx] at hn
      cases i with
      | zero => simp at h1; subst h1; rw [hx] at d1; cases d1
      | succ i =>
        cases j with
        | zero => simp at h2; subst h2; rw [hx] at d2; cases d2
        | succ j => simp at h1 h2; rw [ih hn h1 h2 d1 d2]
    | some t' =>
      simp only [List.filterMap_cons, hx, nodupB, Bool.and_eq_true, Bool.not_eq_true', List.contains_eq_mem, decide_eq_false_iff_not] at hn
      cases i with
      | zero =>
        simp at h1; subst h1
        rw [hx] at d1; cases d1
        cases j with
        | zero => rfl
        | succ j => simp at h2; exact absurd (hmem h2 d2) hn.1
      | succ i =>
        cases j with
        | zero => simp at h1 h2; subst h2; rw [hx] at d2; cases d2; exact absurd (hmem h1 d1) hn.1
        | succ j => simp at h1 h2; rw [ih hn.2 h1 h2 d1 d2]

theorem getD_of {ops : Array Oper} {i : Nat} {o : Oper} (h : ops[i]? = some o) : ops.getD i default = o := by
  rw [Array.getD_eq_getD_getElem?, h]; rfl

theorem planOk_spec {P : Program} {ops : Array Oper} {m : Nat} {l : List DStep} (h : planOk P ops m l = true) : PlanOk P ops m l := by
  simp only [planOk, Bool.and_eq_true] at h
  obtain ⟨⟨⟨⟨⟨⟨⟨⟨⟨⟨h1, h2⟩, h3⟩, h4⟩, h5⟩, h6⟩, h7⟩, h8⟩, h9⟩, h10⟩, h11⟩ := h
  refine ⟨?_, ?_, ?_, fun p q s u a b c => okOrd_spec h4 a b c, ?_, ?_, fun p q s u a b c d => (okEff_spec h7 c d).2 p s a b, fun p s a b => (okRead_spec h8 a b).2, fun p q s u a b c d e => mkR_inj h9 a b c d e, ?_, ?_⟩
  · intro i hi
    simp only [List.all_eq_true, List.mem_range, List.any_eq_true, beq_iff_eq] at h1
    obtain ⟨s, hs, e⟩ := h1 i hi
    obtain ⟨p, hp⟩ := List.getElem?_of_mem hs
    exact ⟨p, s, hp, e⟩
  · intro p q s u a b e
    exact nodupB_get h2 (x := s.i) (by simp [a]) (by simp [b, e])
  · intro p s a
    simp only [List.all_eq_true, Bool.and_eq_true, decide_eq_true_eq] at h3
    obtain ⟨k1, k2⟩ := h3 s (List.mem_of_getElem? a)
    refine ⟨ops[s.i], Array.getElem?_eq_getElem k1, ?_⟩
    rw [k2, getD_of (Array.getElem?_eq_getElem k1)]
  · intro i j oi oj t a b c d
    simp only [okWr, List.all_eq_true, List.mem_range] at h5
    have hi := (Array.getElem?_eq_some_iff.1 a).1
    have hj := (Array.getElem?_eq_some_iff.1 b).1
    have := h5 j hj
    rw [getD_of b, c] at this
    simp only [List.all_eq_true, List.mem_range, Bool.or_eq_true, Bool.not_eq_true', List.contains_eq_mem, decide_eq_false_iff_not] at this
    have := this i hi
    rw [getD_of a] at this
    exact this.resolve_left (by simpa using d)
  · intro i j oi oj t a b c d
    exact filterMap_inj h6 (i := i) (j := j) (by simpa using a) (by simpa using b) c d
  · intro p s a b
    simp only [List.all_eq_true, decide_eq_true_eq] at h10
    exact h10 s.r (List.mem_filterMap.2 ⟨s, List.mem_of_getElem? a, by simp [b]⟩)
  · intro i o a e he hb
    simp only [List.all_eq_true, List.mem_range] at h11
    have hi := (Array.getElem?_eq_some_iff.1 a).1
    have := h11 i hi
    rw [getD_of a, Array.all_eq_true_iff_forall_mem] at this
    have := this e he
    simpa [hb] using this

/-! What stands ahead of what -/
theorem before_go (g : Array Nat → Oper → Nat) : ∀ (os : List Oper) (acc : Array Nat), let r := os.foldl (fun acc o => acc.push (g acc o)) acc
    r.size = acc.size + os.length ∧ (∀ j, j < acc.size → r.getD j 0 = acc.getD j 0) ∧
    ∀ (i : Nat) (o : Oper), os[i]? = some o → ∃ a : Array Nat, a.size = acc.size + i ∧ (∀ j, j < acc.size + i → a.getD j 0 = r.getD j 0) ∧ r.getD (acc.size + i) 0 = g a o
  | [], acc => by simp
  | o :: os, acc => by
    obtain ⟨h1, h2, h3⟩ := before_go g os (acc.push (g acc o))
    simp only [List.foldl_cons]
    refine ⟨by rw [h1]; simp; omega, ?_, ?_⟩
    · intro j hj
      rw [h2 j (by simp; omega)]
      simp [Array.getD_eq_getD_getElem?, Array.getElem?_push, show j ≠ acc.size by omega]
    · intro i p hp
      cases i with
      | zero =>
        simp at hp; subst hp
        refine ⟨acc, by simp, ?_, ?_⟩
        · intro j hj
          rw [h2 j (by simp; omega)]
          simp [Array.getD_eq_getD_getElem?, Array.getElem?_push, show j ≠ acc.size by omega]
        · rw [h2 _ (by simp)]
          simp [Array.getD_eq_getD_getElem?]
      | succ i =>
        simp at hp
        obtain ⟨a, a1, a2, a3⟩ := h3 i p hp
        refine ⟨a, by rw [a1]; simp; omega, fun j hj => a2 j (by simp; omega), ?_⟩
        rw [← a3]; congr 1; simp; omega

theorem fold_bits {acc : Array Nat} : ∀ (es : List Edge) (s j : Nat), (es.foldl (fun s e => if Region.binds .any e then s ||| 2 ^ e.on ||| acc.getD e.on 0 else s) s).testBit j = true →
    s.testBit j = true ∨ ∃ e ∈ es, Region.binds .any e = true ∧ (j = e.on ∨ (acc.getD e.on 0).testBit j = true)
  | [], s, j, h => .inl h
  | e :: es, s, j, h => by
    simp only [List.foldl_cons] at h
    rcases fold_bits es _ j h with h | ⟨e', h1, h2⟩
    · split at h
      · rename_i hb
        rw [Nat.testBit_or, Nat.testBit_or, Bool.or_eq_true, Bool.or_eq_true] at h
        rcases h with (h | h) | h
        · exact .inl h
        · rw [Nat.testBit_two_pow] at h
          exact .inr ⟨e, by simp, hb, .inl (by simpa using (of_decide_eq_true h).symm)⟩
        · exact .inr ⟨e, by simp, hb, .inr h⟩
      · exact .inl h
    · exact .inr ⟨e', by simp [h1], h2⟩

theorem before_spec {ops : Array Oper} {i : Nat} {o : Oper} (ho : ops[i]? = some o) {j : Nat} (h : ((aheadOf ops).getD i 0).testBit j = true) :
    ∃ e ∈ o.after, Region.binds .any e = true ∧ (j = e.on ∨ (e.on < i ∧ ((aheadOf ops).getD e.on 0).testBit j = true)) := by
  obtain ⟨_, _, h3⟩ := before_go (fun acc o => o.after.foldl (fun s e => if Region.binds .any e then s ||| 2 ^ e.on ||| acc.getD e.on 0 else s) 0) ops.toList #[]
  obtain ⟨a, a1, a2, a3⟩ := h3 i o (by simpa using ho)
  have hb : aheadOf ops = ops.toList.foldl (fun acc o => acc.push (o.after.foldl (fun s e => if Region.binds .any e then s ||| 2 ^ e.on ||| acc.getD e.on 0 else s) 0)) #[] := by
    unfold aheadOf Region.before
    rw [← Array.foldl_toList]
  rw [hb] at h ⊢
  simp only [List.size_toArray, List.length_nil, Nat.zero_add] at a1 a2 a3
  have a3' := a3
  rw [a3'] at h
  rw [← Array.foldl_toList] at h
  rcases fold_bits _ _ _ h with h | ⟨e, e1, e2, e3⟩
  · simp at h
  · refine ⟨e, by simpa using e1, e2, ?_⟩
    rcases e3 with e3 | e3
    · exact .inl e3
    · have hlt : e.on < i := by
        rcases Nat.lt_or_ge e.on i with h | h
        · exact h
        · rw [Array.getD_eq_getD_getElem?, Array.getElem?_eq_none (by omega)] at e3
          simp at e3
      refine .inr ⟨hlt, ?_⟩
      rw [← a2 _ hlt]; exact e3

/-- A set of operations with all that stands ahead of each. -/
def Closed (ops : Array Oper) (D : Nat → Prop) : Prop := ∀ (i : Nat) (o : Oper), ops[i]? = some o → D i → ∀ e ∈ o.after, Region.binds .any e = true → D e.on

theorem Closed.before {ops : Array Oper} {D : Nat → Prop} (hD : Closed ops D) (hlt : ∀ i, D i → i < ops.size) : ∀ (i : Nat) (o : Oper), ops[i]? = some o → (∀ e ∈ o.after, Region.binds .any e = true → D e.on) →
    ∀ j, ((aheadOf ops).getD i 0).testBit j = true → D j := by
  intro i
  induction i using Nat.strongRecOn with
  | _ i ih =>
    intro o ho he j hj
    obtain ⟨e, h1, h2, h3⟩ := before_spec ho hj
    have hd := he e h1 h2
    rcases h3 with rfl | ⟨h3, h4⟩
    · exact hd
    · have hs := hlt _ hd
      exact ih e.on h3 ops[e.on] (Array.getElem?_eq_getElem hs) (hD _ _ (Array.getElem?_eq_getElem hs) hd) j h4
/-- What is done, all that stands ahead of it is done. -/
theorem Closed.back {ops : Array Oper} {D : Nat → Prop} (hD : Closed ops D) (hlt : ∀ i, D i → i < ops.size) {i j : Nat} (hj : D j) (h : ((aheadOf ops).getD j 0).testBit i = true) : D i := by
  obtain ⟨o, ho⟩ : ∃ o, ops[j]? = some o := ⟨_, Array.getElem?_eq_getElem (hlt j hj)⟩
  exact hD.before hlt j o ho (hD j o ho hj) i h
end Go.AM
end

section
set_option linter.unusedVariables false
set_option linter.unusedSimpArgs false
/- Regions whose order is open: what the machine's own order shows holds in every order. -/
set_option linter.unusedSimpArgs false
namespace Go.AM
open Go.RowKit (Below)

mutual
theorem V.beq_eq : ∀ {u v : V}, V.beq u v = true → u = v
  | .bool a, v, h => by cases v <;> simp [V.beq] at h; subst h; rfl
  | .int j a, v, h => by cases v <;> simp [V.beq] at h; obtain ⟨rfl, rfl⟩ := h; rfl
  | .str a, v, h => by cases v <;> simp [V.beq] at h; subst h; rfl
  | .ptr a, v, h => by cases v <;> simp [V.beq] at h; subst h; rfl
  | .slice s, v, h => by
    cases v <;> simp [V.beq] at h
    rename_i u
    obtain ⟨s1, s2, s3, s4⟩ := s
    obtain ⟨u1, u2, u3, u4⟩ := u
    simp at h
    obtain ⟨⟨⟨rfl, rfl⟩, rfl⟩, rfl⟩ := h
    rfl
  | .map a, v, h => by cases v <;> simp [V.beq] at h; subst h; rfl
  | .nilFunc, v, h => by cases v <;> simp [V.beq] at h; rfl
  | .nilIface, v, h => by cases v <;> simp [V.beq] at h; rfl
  | .iface t x, v, h => by
    cases v <;> simp [V.beq] at h
    rw [h.1, V.beq_eq h.2]
  | .agg a, v, h => by cases v <;> simp [V.beq] at h; rw [V.beqs_eq h]
  | .tuple a, v, h => by cases v <;> simp [V.beq] at h; rw [V.beqs_eq h]
  | .func f a b, v, h => by
    cases v <;> simp [V.beq] at h
    rw [h.1.1, V.beqs_eq h.1.2, V.beqs_eq h.2]
  | .dead, v, h => by cases v <;> simp [V.beq] at h
theorem V.beqs_eq : ∀ {us vs : List V}, V.beqs us vs = true → us = vs
  | [], [], _ => rfl
  | [], _ :: _, h => by simp [V.beqs] at h
  | _ :: _, [], h => by simp [V.beqs] at h
  | u :: us, v :: vs, h => by
    simp [V.beqs] at h
    rw [V.beq_eq h.1, V.beqs_eq h.2]
end

theorem chk_eq {r : Option V} {v : V} (h : chk r v = some ()) : r = some v := by
  cases r with
  | none => simp [chk] at h
  | some u =>
    simp only [chk, Option.bind_some] at h
    split at h
    · rename_i hb; rw [V.beq_eq hb]
    · simp at h

/-- Where the machine stands in a region. -/
structure DS where
  env : Env
  Hk : Heap
  hist : List Heap
  H : Heap

def DStepR (P : Program) (call : FuncId → List V → Heap → Option R) (ops : Array Oper) (base : Nat) (σ σ' : DS) (s : DStep) : Prop :=
  ∃ (o : Oper) (env' : Env) (b : Bool) (v : V), ops[s.i]? = some o ∧ (∀ t, lk t env' = lk t σ.env) ∧ (o.guard = none → b = true) ∧
    (∀ j want, o.guard = some (j, want) → ∃ t c, (ops[j]?).bind (·.dst) = some t ∧ lk t σ.env = .bool c ∧ b = (c == want)) ∧
    (∀ t, lk t σ'.env = lk t (putV o.dst v σ.env)) ∧
    (s.kd = .eff → σ'.Hk = σ'.H ∧ σ'.hist = σ.Hk :: σ.hist) ∧ (s.kd ≠ .eff → σ'.Hk = σ.Hk ∧ σ'.hist = σ.hist) ∧
    (b = false → v = .tuple [] ∧ σ'.H = σ.H) ∧
    (b = true → (s.kd = .pure → valA P env' o.op ⟨0, .nil⟩ = some v ∧ σ'.H = σ.H) ∧
      (s.kd = .read → valA P env' o.op σ.Hk = some v ∧ (∀ H ∈ σ.hist.take s.past, valA P env' o.op H = some v) ∧ σ'.H = σ.H) ∧
      (s.kd = .make → ∃ obj f, makeA P env' o.op = some (obj, f) ∧ v = f (base + s.r) ∧ σ'.H = σ.H.set (base + s.r) obj) ∧
      (s.kd = .eff → ∀ k' : V → Heap → Option R, stepA P call none env' o.op σ.H k' = k' v σ'.H))

section
variable {P : Program} {B n0 : Nat} {w0 w w' w'' : World} {μ μ' μ'' ν : Mu} {H H' H'' : Heap}

theorem lk_putV {d : Option Tmp} {v : V} {e e' : Env} (h : ∀ t, lk t e = lk t e') (t : Nat) : lk t (putV d v e) = lk t (putV d v e') := by
  cases d with
  | none => exact h t
  | some d => simp only [putV, lk]; split; rfl; exact h t

theorem trace {call : FuncId → List V → Heap → Option R} (hc : FrameCall call) {ops : Array Oper} {base : Nat} {k : Env → Heap → Option R} {r : R} :
    ∀ (l : List DStep) (σ : DS), (∀ (p : Nat) (s : DStep), l[p]? = some s → ∃ o : Oper, ops[s.i]? = some o ∧ s.kd = kind P o.op) →
      runD P call ops (fun j => (ops[j]?).bind (·.dst)) base l σ.env σ.Hk σ.hist σ.H k = some r →
      ∃ σs : Nat → DS, σs 0 = σ ∧ (∀ (p : Nat) (s : DStep), l[p]? = some s → DStepR P call ops base (σs p) (σs (p + 1)) s) ∧ k (σs l.length).env (σs l.length).H = some r
  | [], σ, _, h => ⟨fun _ => σ, rfl, by simp, h⟩
  | s :: l, σ, hop, h => by
    have one : ∃ σ' : DS, DStepR P call ops base σ σ' s ∧ runD P call ops (fun j => (ops[j]?).bind (·.dst)) base l σ'.env σ'.Hk σ'.hist σ'.H k = some r := by
      unfold runD at h
      obtain ⟨o', ho', hkd'⟩ := hop 0 s rfl
      rw [ho'] at h
      simp only at h
      obtain ⟨env', b, _, h2, h3, h4, h5⟩ := guarded_spec h
      cases b with
      | false =>
        simp only [Bool.false_eq_true, if_false] at h2
        by_cases hk : s.kd = .eff
        · rw [hk] at h2
          exact ⟨⟨putV o'.dst (.tuple []) env', σ.H, σ.Hk :: σ.hist, σ.H⟩, ⟨o', env', false, .tuple [], ho', h3, fun e => (h4 e).1, h5, lk_putV h3, fun _ => ⟨rfl, rfl⟩, fun e => absurd hk e, fun _ => ⟨rfl, rfl⟩, by simp⟩, h2⟩
        · have h2' : runD P call ops (fun j => (ops[j]?).bind (·.dst)) base l (putV o'.dst (.tuple []) env') σ.Hk σ.hist σ.H k = some r := by
            revert h2 hk
            cases s.kd <;> simp
          exact ⟨⟨putV o'.dst (.tuple []) env', σ.Hk, σ.hist, σ.H⟩, ⟨o', env', false, .tuple [], ho', h3, fun e => (h4 e).1, h5, lk_putV h3, fun e => absurd e hk, fun _ => ⟨rfl, rfl⟩, fun _ => ⟨rfl, rfl⟩, by simp⟩, h2'⟩
      | true =>
        simp only [if_true] at h2
        cases hkd : s.kd with
        | pure =>
          simp only [hkd] at h2
          cases hv : valA P env' o'.op ⟨0, .nil⟩ with
          | none => rw [hv] at h2; simp at h2
          | some v =>
            rw [hv] at h2
            exact ⟨⟨putV o'.dst v env', σ.Hk, σ.hist, σ.H⟩, ⟨o', env', true, v, ho', h3, fun _ => rfl, h5, lk_putV h3, by simp [hkd], fun _ => ⟨rfl, rfl⟩, by simp, by simp [hkd, hv]⟩, h2⟩
        | read =>
          simp only [hkd] at h2
          cases hv : valA P env' o'.op σ.Hk with
          | none => rw [hv] at h2; simp at h2
          | some v =>
            rw [hv] at h2
            obtain ⟨k1, k2⟩ := pastK_spec h2
            exact ⟨⟨putV o'.dst v env', σ.Hk, σ.hist, σ.H⟩, ⟨o', env', true, v, ho', h3, fun _ => rfl, h5, lk_putV h3, by simp [hkd], fun _ => ⟨rfl, rfl⟩, by simp,
              fun _ => ⟨by simp [hkd], fun _ => ⟨hv, fun H hm => chk_eq (k2 H hm), rfl⟩, by simp [hkd], by simp [hkd]⟩⟩, k1⟩
        | make =>
          simp only [hkd] at h2
          obtain ⟨obj, f, m1, m2⟩ := stepA_make (by rw [← hkd', hkd]) h2
          exact ⟨⟨putV o'.dst (f (base + s.r)) env', σ.Hk, σ.hist, σ.H.set (base + s.r) obj⟩, ⟨o', env', true, _, ho', h3, fun _ => rfl, h5, lk_putV h3, by simp [hkd], fun _ => ⟨rfl, rfl⟩, by simp,
            fun _ => ⟨by simp [hkd], by simp [hkd], fun _ => ⟨obj, f, m1, rfl, rfl⟩, by simp [hkd]⟩⟩, m2⟩
        | eff =>
          simp only [hkd] at h2
          have hE : Ext (fun _ => none) σ.H σ.H := ⟨rfl, by simp, fun _ _ => rfl⟩
          obtain ⟨v, H1, G1, g1, g2, g3⟩ := stepA_frame (P := P) hE hc (r := none) (by simp) h2
          rw [g3] at h2
          exact ⟨⟨putV o'.dst v env', G1, σ.Hk :: σ.hist, G1⟩, ⟨o', env', true, v, ho', h3, fun _ => rfl, h5, lk_putV h3, fun _ => ⟨rfl, rfl⟩, by simp [hkd], by simp,
            fun _ => ⟨by simp [hkd], by simp [hkd], by simp [hkd], fun _ => g3⟩⟩, h2⟩
    obtain ⟨σ', hs, hr⟩ := one
    obtain ⟨σs, t1, t2, t3⟩ := trace hc l σ' (fun p s hp => hop (p + 1) s (by simpa using hp)) hr
    refine ⟨fun p => match p with | 0 => σ | p + 1 => σs p, rfl, ?_, t3⟩
    intro p u hp
    cases p with
    | zero => simp at hp; subst hp; simp only; rw [t1]; exact hs
    | succ p => simp at hp; exact t2 p u hp

/-- A run of a region in the machine's own order. -/
structure Tr (P : Program) (call : FuncId → List V → Heap → Option R) (ops : Array Oper) (base m : Nat) (l : List DStep) (σs : Nat → DS) : Prop where
  ok : PlanOk P ops m l
  fr : FrameCall call
  step : ∀ (p : Nat) (s : DStep), l[p]? = some s → DStepR P call ops base (σs p) (σs (p + 1)) s
  base0 : base + m = (σs 0).H.n
  none0 : ∀ i, base ≤ i → (σs 0).H.get i = .none
  hk0 : (σs 0).Hk = (σs 0).H

variable {call : FuncId → List V → Heap → Option R} {ops : Array Oper} {base m : Nat} {l : List DStep} {σs : Nat → DS}

theorem cntE_succ {p : Nat} {s : DStep} (h : l[p]? = some s) : cntE l (p + 1) = cntE l p + if s.kd = .eff then 1 else 0 := by
  unfold cntE
  rw [List.take_add_one, h]
  simp [List.countP_append, List.countP_cons]

theorem cntE_mono {p q : Nat} (h : q ≤ p) : cntE l q ≤ cntE l p := by
  unfold cntE
  have : l.take q = (l.take p).take q := by rw [List.take_take, Nat.min_eq_left h]
  rw [this]
  exact List.Sublist.countP_le (List.take_sublist _ _)

theorem Tr.ks (T : Tr P call ops base m l σs) {q : Nat} : ∀ (d : Nat), q + d ≤ l.length → ∃ pre, (σs (q + d)).Hk :: (σs (q + d)).hist = pre ++ ((σs q).Hk :: (σs q).hist) ∧ pre.length = cntE l (q + d) - cntE l q
  | 0, _ => ⟨[], rfl, by simp⟩
  | d + 1, h => by
    obtain ⟨pre, h1, h2⟩ := T.ks (q := q) d (by omega)
    obtain ⟨s, hs⟩ := getElem?_isSome_of_lt (show q + d < l.length by omega)
    obtain ⟨o, env', b, v, _, _, _, _, _, k1, k2, _⟩ := T.step _ _ hs
    have hm : cntE l q ≤ cntE l (q + d) := cntE_mono (by omega)
    rw [← Nat.add_assoc, cntE_succ hs]
    by_cases hk : s.kd = .eff
    · obtain ⟨e1, e2⟩ := k1 hk
      rw [if_pos hk, e2]
      refine ⟨(σs (q + d + 1)).Hk :: pre, ?_, by simp [h2]; omega⟩
      rw [List.cons_append, ← h1]
    · obtain ⟨e1, e2⟩ := k2 hk
      rw [if_neg hk, e1, e2]
      exact ⟨pre, h1, by simp [h2]⟩

theorem Tr.env (T : Tr P call ops base m l σs) {p t : Nat} : ∀ (d : Nat), p + d ≤ l.length → (∀ (q : Nat) (s : DStep) (o : Oper), p ≤ q → q < p + d → l[q]? = some s → ops[s.i]? = some o → o.dst ≠ some t) → lk t (σs (p + d)).env = lk t (σs p).env
  | 0, _, _ => rfl
  | d + 1, h, hn => by
    obtain ⟨s, hs⟩ := getElem?_isSome_of_lt (show p + d < l.length by omega)
    obtain ⟨o, env', b, v, ho, _, _, _, k, _⟩ := T.step _ _ hs
    rw [← Nat.add_assoc, k t]
    have := hn (p + d) s o (by omega) (by omega) hs ho
    have e : lk t (putV o.dst v (σs (p + d)).env) = lk t (σs (p + d)).env := by
      cases hd : o.dst with
      | none => rfl
      | some d' =>
        simp only [putV, lk]
        rw [if_neg]
        rintro rfl; exact this hd
    rw [e]
    exact T.env d (by omega) fun q s o h1 h2 => hn q s o h1 (by omega)

/-- A step's value stays. -/
theorem Tr.val (T : Tr P call ops base m l σs) {p : Nat} {s : DStep} (hs : l[p]? = some s) {o : Oper} (ho : ops[s.i]? = some o) {t : Tmp} (ht : o.dst = some t) {v : V} (hv : ∀ t, lk t (σs (p + 1)).env = lk t (putV o.dst v (σs p).env)) :
    lk t (σs l.length).env = v := by
  have hp : p < l.length := (List.getElem?_eq_some_iff.1 hs).1
  have := T.env (p := p + 1) (t := t) (l.length - (p + 1)) (by omega) (by
    intro q u o' h1 h2 hu ho' hd
    have := T.ok.dst _ _ _ _ t ho ho' ht hd
    have := T.ok.inj _ _ _ _ hs hu this
    omega)
  rw [show p + 1 + (l.length - (p + 1)) = l.length by omega] at this
  rw [this, hv, ht]
  simp [putV, lk]

/-- What a step looks at stays, when it is written ahead of it. -/
theorem Tr.looksE (T : Tr P call ops base m l σs) {p : Nat} {s : DStep} (hs : l[p]? = some s) {t : Tmp} {j : Nat} {oj : Oper} (hj : ops[j]? = some oj) (hd : oj.dst = some t) (hb : ((aheadOf ops).getD s.i 0).testBit j = true) : lk t (σs p).env = lk t (σs l.length).env := by
  have hp : p < l.length := (List.getElem?_eq_some_iff.1 hs).1
  have := T.env (p := p) (t := t) (l.length - p) (by omega) (by
    intro q u o' h1 h2 hu ho' hd'
    have e := T.ok.dst _ _ _ _ t ho' hj hd' hd
    have := T.ok.ord _ _ _ _ hs hu (by rw [e]; exact hb)
    omega)
  rw [show p + (l.length - p) = l.length by omega] at this
  exact this.symm
/-- What a step looks at is as at the start, when nothing ahead of it writes it. -/
theorem Tr.looksS (T : Tr P call ops base m l σs) {p : Nat} {s : DStep} (hs : l[p]? = some s) {o : Oper} (ho : ops[s.i]? = some o) {t : Tmp} (ht : t ∈ o.looksAt ops) (hn : ∀ (j : Nat) (oj : Oper), ops[j]? = some oj → oj.dst = some t → ¬ ((aheadOf ops).getD s.i 0).testBit j = true) : lk t (σs p).env = lk t (σs 0).env := by
  have hp : p < l.length := (List.getElem?_eq_some_iff.1 hs).1
  have := T.env (p := 0) (t := t) p (by omega) (by
    intro q u o' h1 h2 hu ho' hd'
    rcases T.ok.wr _ _ _ _ t ho ho' hd' ht with h | h
    · exact hn _ _ ho' hd' h
    · have := T.ok.ord _ _ _ _ hu hs h
      omega)
  rw [Nat.zero_add] at this
  exact this

/-- Nothing lies yet where a thing is to be made. -/
theorem Tr.fresh (T : Tr P call ops base m l σs) {p : Nat} {u : DStep} (hu : l[p]? = some u) (hk : u.kd = .make) : ∀ q, q ≤ p → (σs q).H.get (base + u.r) = .none ∧ base + u.r < (σs q).H.n
  | 0, _ => ⟨T.none0 _ (by omega), by rw [← T.base0]; have := T.ok.makeLt _ _ hu hk; omega⟩
  | q + 1, hq => by
    obtain ⟨i1, i2⟩ := T.fresh hu hk q (by omega)
    have hp : p < l.length := (List.getElem?_eq_some_iff.1 hu).1
    obtain ⟨s, hs⟩ := getElem?_isSome_of_lt (show q < l.length by omega)
    obtain ⟨o, env', b, v, ho, _, _, _, _, _, _, kf, kt⟩ := T.step _ _ hs
    cases b with
    | false => rw [(kf rfl).2]; exact ⟨i1, i2⟩
    | true =>
      obtain ⟨k1, k2, k3, k4⟩ := kt rfl
      cases hkd : s.kd with
      | pure => rw [(k1 hkd).2]; exact ⟨i1, i2⟩
      | read => rw [(k2 hkd).2.2]; exact ⟨i1, i2⟩
      | make =>
        obtain ⟨obj, f, _, _, e⟩ := k3 hkd
        rw [e, Heap.get_set]
        refine ⟨?_, i2⟩
        rw [if_neg]
        · exact i1
        · intro e
          have := T.ok.makeInj _ _ _ _ hu hs hk hkd (by omega)
          omega
      | eff =>
        have e := k4 hkd (fun v H => some (v, H))
        have hE : Ext (fun j => if j = base + u.r then some (.siter [] 0) else none) (σs q).H ((σs q).H.set (base + u.r) (.siter [] 0)) := by
          refine ⟨rfl, ?_, ?_⟩
          · intro j o hj
            split at hj
            · rename_i hj'; subst hj'
              simp at hj; subst hj
              exact ⟨i2, i1, by rw [Heap.get_set, if_pos rfl]⟩
            · simp at hj
          · intro j hj
            rw [Heap.get_set]
            split
            · rename_i hj'; simp [hj'] at hj
            · rfl
        obtain ⟨v1, H1, G1, g1, g2, _⟩ := stepA_frame (P := P) hE T.fr (r := Option.none) (by simp) e
        simp at g1
        obtain ⟨rfl, rfl⟩ := g1
        obtain ⟨x1, x2, _⟩ := g2.new (base + u.r) (.siter [] 0) (by simp)
        exact ⟨x2, x1⟩

/-- Where nothing is written but made. -/
theorem Tr.quiet (T : Tr P call ops base m l σs) {q : Nat} : ∀ (d : Nat), q + d ≤ l.length → (∀ (p : Nat) (s : DStep), q ≤ p → p < q + d → l[p]? = some s → s.kd ≠ .eff) →
    (σs (q + d)).H.n = (σs q).H.n ∧ (∀ id, (∀ (p : Nat) (s : DStep), q ≤ p → p < q + d → l[p]? = some s → s.kd = .make → base + s.r ≠ id) → (σs (q + d)).H.get id = (σs q).H.get id) ∧
      (∀ (p : Nat) (s : DStep), q ≤ p → p < q + d → l[p]? = some s → s.kd = .make → (σs (q + d)).H.get (base + s.r) = (σs (p + 1)).H.get (base + s.r))
  | 0, _, _ => ⟨rfl, fun _ _ => rfl, fun p s h1 h2 => by omega⟩
  | d + 1, h, hn => by
    obtain ⟨i1, i2, i3⟩ := T.quiet (q := q) d (by omega) fun p s h1 h2 => hn p s h1 (by omega)
    obtain ⟨s, hs⟩ := getElem?_isSome_of_lt (show q + d < l.length by omega)
    obtain ⟨o, env', b, v, ho, _, _, _, _, _, _, kf, kt⟩ := T.step _ _ hs
    have hne := hn _ _ (by omega) (by omega) hs
    have key : (σs (q + d + 1)).H.n = (σs (q + d)).H.n ∧ ∀ id, (s.kd = .make → base + s.r ≠ id) → (σs (q + d + 1)).H.get id = (σs (q + d)).H.get id := by
      cases b with
      | false => rw [(kf rfl).2]; exact ⟨rfl, fun _ _ => rfl⟩
      | true =>
        obtain ⟨k1, k2, k3, k4⟩ := kt rfl
        cases hkd : s.kd with
        | pure => rw [(k1 hkd).2]; exact ⟨rfl, fun _ _ => rfl⟩
        | read => rw [(k2 hkd).2.2]; exact ⟨rfl, fun _ _ => rfl⟩
        | make =>
          obtain ⟨obj, f, _, _, e⟩ := k3 hkd
          rw [e]
          refine ⟨rfl, fun id hid => ?_⟩
          rw [Heap.get_set, if_neg (Ne.symm (hid rfl))]
        | eff => exact absurd hkd hne
    rw [← Nat.add_assoc]
    refine ⟨key.1.trans i1, ?_, ?_⟩
    · intro id hid
      rw [key.2 id (fun hk => hid _ _ (by omega) (by omega) hs hk)]
      exact i2 id fun p s h1 h2 => hid p s h1 (by omega)
    · intro p u h1 h2 hu hk
      by_cases hp : p = q + d
      · subst hp; rfl
      · rw [key.2 _ (fun hk' e => by
          have := T.ok.makeInj _ _ _ _ hs hu hk' hk (by omega)
          omega)]
        exact i3 p u h1 (by omega) hu hk
end
end Go.AM
end

section
set_option linter.unusedVariables false
set_option linter.unusedSimpArgs false
/- Regions whose order is open: each order ends where the machine's own ends. -/
set_option linter.unusedSimpArgs false
namespace Go.AM
open Go.RowKit (Below)

theorem makeA_congr {P : Program} {env env' : Env} {o : Op} (h : ∀ x ∈ o.operands, opd env x = opd env' x) : makeA P env o = makeA P env' o := by
  cases o with
  | box t x => simp only [makeA, Op.operands] at *; rw [h x (by simp)]
  | buildSlice t len ps => simp only [makeA, Op.operands] at *; rw [map_congr2 h]
  | makeSlice t l c => simp only [makeA, Op.operands] at *; rw [h l (by simp), h c (by simp)]
  | _ => rfl

theorem keep_mem {l : List Nat} {env : Env} {t : Nat} (h : t ∈ l) : lk t (keep (some l) env) = lk t env := by
  simp only [keep]
  induction l with
  | nil => simp at h
  | cons u l ih =>
    simp only [List.map_cons, lk]
    split
    · rename_i hu; rw [hu]
    · rename_i hu; exact ih ((List.mem_cons.1 h).resolve_left hu)
theorem keep_not {l : List Nat} {env : Env} {t : Nat} (h : t ∉ l) : lk t (keep (some l) env) = .dead := by
  simp only [keep]
  induction l with
  | nil => rfl
  | cons u l ih =>
    simp only [List.mem_cons, not_or] at h
    simp only [List.map_cons, lk]
    rw [if_neg h.1]; exact ih h.2

/-- What another heap has that this one lacks. -/
theorem Ext_of {H G : Heap} (hn : G.n = H.n) (h : ∀ id, G.get id = H.get id ∨ (id < H.n ∧ H.get id = .none)) :
    ∃ X : Nat → Option O, Ext X H G ∧ (∀ id, G.get id = H.get id → X id = none) ∧ (∀ id, G.get id ≠ H.get id → X id = some (G.get id)) := by
  classical
  refine ⟨fun id => if G.get id = H.get id then none else some (G.get id), ⟨hn, ?_, ?_⟩, ?_, ?_⟩
  · intro i o e
    split at e
    · simp at e
    · rename_i hne
      simp at e
      obtain ⟨h1, h2⟩ := (h i).resolve_left hne
      exact ⟨h1, h2, e⟩
  · intro i e
    split at e
    · assumption
    · simp at e
  · intro id e; exact if_pos e
  · intro id e; exact if_neg e

section
variable {P : Program} {B n0 N : Nat} {w0 w1 w w' w'' : World} {μ0 μ μ' μ'' ν : Mu} {H0 H H' H'' : Heap}
variable {call : FuncId → List V → Heap → Option R} {ops : Array Oper} {base m : Nat} {l : List DStep} {σs : Nat → DS}

theorem Rel.congr (hr : Rel B w0 μ H w) (hn : H'.n = H.n) (hg : ∀ id, H'.get id = H.get id) : Rel B w0 μ H' w :=
  ⟨hr.below, hr.size, fun i L e => by rw [hn, hg]; exact hr.dom i L e, fun i L e => by rw [hg]; exact hr.objs i L e, fun i j L M e1 e2 h l1 l2 l3 => by
    rw [hg] at l1 l2 l3; exact hr.sep i j L M e1 e2 h l1 l2 l3, fun i hi => by rw [hg]; exact hr.clean i (by omega)⟩

theorem Step.congr (h : Step B w0 n0 μ H w μ' H' w') (hn : H''.n = H'.n) (hg : ∀ id, H''.get id = H'.get id) : Step B w0 n0 μ H w μ' H'' w' :=
  ⟨h.le, h.rel.congr hn hg, by rw [hn]; exact h.n, h.size, h.keeps, h.new⟩

theorem make_gives' (hr : Rel B w0 μ H w) {r : Option Nat} (hf : FreeId μ H n0 r) {env : Env} {ρ : Operand → Value} (hρ : ∀ x, VRel μ (opd env x) (ρ x)) {o : Oper} {obj : O} {f : Nat → V}
    (h : makeA P env o.op = some (obj, f)) :
    Gives P (fun x w' => ∃ μ', Step B w0 n0 μ H w μ' (newA r obj H).2 w' ∧ VRel μ' (f (newA r obj H).1) x ∧ ∀ j, j ≠ (newA r obj H).1 → μ' j = μ j) ((execOp ρ o).run P w) := by
  obtain ⟨cobj, sz, y, w', hrun, h1, h2, h3, h4, hν⟩ := make_run (P := P) hρ hr.size h
  rw [hrun]
  have hfree : μ (newA r obj H).1 = none := by
    cases r with
    | none => exact hr.fresh (Nat.le_refl _)
    | some k => exact hf.2.1
  have hle := Mu.le_put (L := ⟨w.heap.size, 0, sz⟩) hfree
  exact ⟨_, hr.alloc hf h1 h2 h3 h4 (hν _ hle).1, (hν _ hle).2 _ Mu.put_same, fun j hj => by simp only [Mu.put, if_neg hj]⟩

/-- What holds once the operations of D have been done. -/
structure DInv (B n0 N : Nat) (w0 w1 : World) (μ0 : Mu) (H0 : Heap) (ops : Array Oper) (base m : Nat) (l : List DStep) (σs : Nat → DS) (D : Nat → Prop) (q : Nat) (μ : Mu) (HD : Heap) (a : Act) (w : World) : Prop where
  qle : q ≤ l.length
  done : ∀ (p : Nat) (s : DStep), p < q → l[p]? = some s → D s.i
  todo : ∀ (p : Nat) (s : DStep), q ≤ p → l[p]? = some s → s.kd = .eff → ¬ D s.i
  hk : (σs q).Hk = (σs q).H
  st : Step B w0 n0 μ0 H0 w1 μ HD w
  room : base + m ≤ HD.n
  n : HD.n = (σs q).H.n
  old : ∀ id, (∀ (p : Nat) (s : DStep), q ≤ p → l[p]? = some s → s.kd = .make → base + s.r ≠ id) → HD.get id = (σs q).H.get id
  made : ∀ (p : Nat) (s : DStep), q ≤ p → l[p]? = some s → s.kd = .make → D s.i → HD.get (base + s.r) = (σs (p + 1)).H.get (base + s.r)
  notyet : ∀ (p : Nat) (s : DStep), q ≤ p → l[p]? = some s → s.kd = .make → ¬ D s.i → HD.get (base + s.r) = .none
  free : ∀ (p : Nat) (s : DStep), l[p]? = some s → s.kd = .make → ¬ D s.i → μ (base + s.r) = none
  defers : a.defers = []
  size : N ≤ a.tmps.size
  slot : ∀ t : Nat, (∀ (j : Nat) (o : Oper), ops[j]? = some o → o.dst = some t → D j) → VRel μ (lk t (σs l.length).env) (a.tmps.getD t undef)
  slot0 : ∀ t : Nat, (∀ (j : Nat) (o : Oper), ops[j]? = some o → o.dst = some t → ¬ D j) → VRel μ (lk t (σs 0).env) (a.tmps.getD t undef)

theorem DInv.step (T : Tr P call ops base m l σs) (hc : CallSound P call) (hn0 : n0 ≤ base) (hdst : ∀ o ∈ ops, okDst N o = true) {D : Nat → Prop} (hD : Closed ops D) (hlt : ∀ i, D i → i < ops.size) {q : Nat} {HD : Heap} {a : Act}
    (I : DInv B n0 N w0 w1 μ0 H0 ops base m l σs D q μ HD a w) {i : Nat} {o : Oper} (ho : ops[i]? = some o) (hi : ¬ D i) (he : ∀ e ∈ o.after, Region.binds .any e = true → D e.on) {Q : Exit → Act → World → Prop} :
    wpOp P ops Q i (fun a' w' => ∃ q' μ' HD', DInv B n0 N w0 w1 μ0 H0 ops base m l σs (fun j => D j ∨ j = i) q' μ' HD' a' w') a w := by
  have hil : i < ops.size := (Array.getElem?_eq_some_iff.1 ho).1
  obtain ⟨p, s, hs, rfl⟩ := T.ok.all i hil
  have hpl : p < l.length := (List.getElem?_eq_some_iff.1 hs).1
  have hb := hD.before hlt _ _ ho he
  have hqp : q ≤ p := by
    rcases Nat.lt_or_ge p q with h | h
    · exact absurd (I.done p s h hs) hi
    · exact h
  have hinj : ∀ (p' : Nat) (u : DStep), l[p']? = some u → u.i = s.i → p' = p := fun p' u hu e => T.ok.inj _ _ _ _ hu hs e
  obtain ⟨o2, env', b, v, ho2, g1, g2, g3, g4, g5, g6, g7, g8⟩ := T.step p s hs
  rw [ho] at ho2; cases ho2
  -- what it looks at
  let envD : Env := keep (some (o.looksAt ops)) (σs p).env
  have hslot : ∀ t, VRel μ (lk t envD) (a.tmps.getD t undef) := by
    intro t
    by_cases ht : t ∈ o.looksAt ops
    · rw [show lk t envD = lk t (σs p).env from keep_mem ht]
      by_cases hw : ∃ (j : Nat) (oj : Oper), ops[j]? = some oj ∧ oj.dst = some t ∧ ((aheadOf ops).getD s.i 0).testBit j = true
      · obtain ⟨j, oj, hj, hd, hbj⟩ := hw
        rw [T.looksE hs hj hd hbj]
        refine I.slot t fun j' oj' hj' hd' => ?_
        rw [T.ok.dst _ _ _ _ t hj' hj hd' hd]
        exact hb j hbj
      · have hnw : ∀ (j : Nat) (oj : Oper), ops[j]? = some oj → oj.dst = some t → ¬ ((aheadOf ops).getD s.i 0).testBit j = true := fun j oj hj hd h => hw ⟨j, oj, hj, hd, h⟩
        rw [T.looksS hs ho ht hnw]
        refine I.slot0 t fun j oj hj hd hDj => ?_
        rcases T.ok.wr _ _ _ _ t ho hj hd ht with h | h
        · exact hnw j oj hj hd h
        · exact hi (hD.back hlt hDj h)
    · rw [show lk t envD = .dead from keep_not ht]; simp [VRel]
  have hρ : ∀ x, VRel μ (opd envD x) (a.eval x) := opd_rel hslot
  have hlook : ∀ t ∈ o.looksAt ops, lk t env' = lk t envD := by
    intro t ht
    rw [g1, show lk t envD = lk t (σs p).env from keep_mem ht]
  have hopd : ∀ x ∈ o.op.operands, opd env' x = opd envD x := by
    intro x hx
    cases x with
    | tmp t => exact hlook t (List.mem_append_left _ (List.mem_filterMap.2 ⟨.tmp t, by simpa using hx, rfl⟩))
    | _ => rfl
  have hwant : Region.wanted o (yielded ops a.tmps) = b := by
    refine wanted_spec (ops := ops) (env := envD) hslot g2 ?_
    intro j want hg
    obtain ⟨t, c, t1, t2, t3⟩ := g3 j want hg
    refine ⟨t, c, t1, ?_, t3⟩
    rw [← hlook t (by simp [Oper.looksAt, hg, t1]), g1]; exact t2
  have hdo := okDst_spec (hdst o (Array.mem_of_getElem? ho))
  -- the slots afterwards
  have hput : ∀ {μ' : Mu} {x : Value}, μ.le μ' → VRel μ' v x → (a.put o.dst x).defers = [] ∧ N ≤ (a.put o.dst x).tmps.size ∧
      (∀ t : Nat, (∀ (j : Nat) (oj : Oper), ops[j]? = some oj → oj.dst = some t → D j ∨ j = s.i) → VRel μ' (lk t (σs l.length).env) ((a.put o.dst x).tmps.getD t undef)) ∧
      ∀ t : Nat, (∀ (j : Nat) (oj : Oper), ops[j]? = some oj → oj.dst = some t → ¬ (D j ∨ j = s.i)) → VRel μ' (lk t (σs 0).env) ((a.put o.dst x).tmps.getD t undef) := by
    intro μ' x hle hx
    cases hd : o.dst with
    | none =>
      refine ⟨I.defers, I.size, fun t ht => VRel.mono hle _ _ (I.slot t fun j oj hj hdj => ?_), fun t ht => VRel.mono hle _ _ (I.slot0 t fun j oj hj hdj h => ht j oj hj hdj (.inl h))⟩
      rcases ht j oj hj hdj with h | rfl
      · exact h
      · rw [ho] at hj; cases hj; rw [hd] at hdj; cases hdj
    | some d =>
      have hdN : d < a.tmps.size := Nat.lt_of_lt_of_le (hdo d hd) I.size
      refine ⟨I.defers, by simp [Act.put, I.size], fun t ht => ?_, fun t ht => ?_⟩
      rotate_left
      · simp only [Act.put, getD_set hdN]
        split
        · rename_i htd; subst htd
          exact absurd (.inr rfl) (ht s.i o ho hd)
        · exact VRel.mono hle _ _ (I.slot0 t fun j oj hj hdj h => ht j oj hj hdj (.inl h))
      simp only [Act.put, getD_set hdN]
      split
      · rename_i htd; subst htd
        rw [T.val hs ho hd g4]; exact hx
      · rename_i htd
        refine VRel.mono hle _ _ (I.slot t fun j oj hj hdj => ?_)
        rcases ht j oj hj hdj with h | rfl
        · exact h
        · rw [ho] at hj; cases hj; rw [hd] at hdj; simp at hdj; exact absurd hdj.symm htd
  -- nothing was written, or something made
  have hquiet : ∀ {μ' : Mu} {HD' : Heap} {x : Value} {w' : World}, s.kd ≠ .eff → Step B w0 (base + m) μ HD w μ' HD' w' ∨ Step B w0 n0 μ HD w μ' HD' w' → VRel μ' v x → HD'.n = HD.n →
      (∀ id, (s.kd = .make → base + s.r ≠ id) → HD'.get id = HD.get id) → (s.kd = .make → HD'.get (base + s.r) = (σs (p + 1)).H.get (base + s.r)) →
      (∀ (p' : Nat) (u : DStep), l[p']? = some u → u.kd = .make → ¬ (D u.i ∨ u.i = s.i) → μ' (base + u.r) = none) →
      ∃ q' μ' HD', DInv B n0 N w0 w1 μ0 H0 ops base m l σs (fun j => D j ∨ j = s.i) q' μ' HD' (a.put o.dst x) w' := by
    intro μ' HD' x w' hne hst hx hn hget hmk hfree
    have hst' : Step B w0 n0 μ HD w μ' HD' w' := hst.elim (fun h => h.mono (by omega)) id
    obtain ⟨p1, p2, p3, p4⟩ := hput hst'.le hx
    refine ⟨q, μ', HD', ⟨I.qle, fun p' u h1 h2 => .inl (I.done p' u h1 h2), ?_, I.hk, I.st.trans hst', by rw [hn]; exact I.room, hn.trans I.n, ?_, ?_, ?_, hfree, p1, p2, p3, p4⟩⟩
    · rintro p' u h1 h2 h3 (h | h)
      · exact I.todo p' u h1 h2 h3 h
      · have := hinj p' u h2 h; subst this
        rw [hs] at h2; cases h2; exact hne h3
    · intro id hid
      rw [hget id fun hk => hid p s hqp hs hk]
      exact I.old id hid
    · rintro p' u h1 h2 h3 (h | h)
      · rw [hget _ fun hk e => by
          have := T.ok.makeInj _ _ _ _ hs h2 hk h3 (by omega)
          subst this; rw [hs] at h2; cases h2; exact hi h]
        exact I.made p' u h1 h2 h3 h
      · have := hinj p' u h2 h; subst this
        rw [hs] at h2; cases h2; exact hmk h3
    · intro p' u h1 h2 h3 h
      rw [hget _ fun hk e => by
          have := T.ok.makeInj _ _ _ _ hs h2 hk h3 (by omega)
          subst this; rw [hs] at h2; cases h2; exact h (.inr rfl)]
      exact I.notyet p' u h1 h2 h3 fun h' => h (.inl h')
  -- an effect: all that stands ahead of it in the machine's order is done
  have hahead : s.kd = .eff → ∀ (p' : Nat) (u : DStep), p' < p → l[p']? = some u → D u.i := fun hk p' u h1 h2 => hb _ (T.ok.eff _ _ _ _ h1 h2 hs hk)
  have heff0 : s.kd = .eff → HD.n = (σs p).H.n ∧ (∀ id, (∀ (p' : Nat) (u : DStep), p < p' → l[p']? = some u → u.kd = .make → base + u.r ≠ id) → HD.get id = (σs p).H.get id) ∧
      ∀ id, HD.get id = (σs p).H.get id ∨ (id < (σs p).H.n ∧ (σs p).H.get id = .none) := by
    intro hk
    have hnoeff : ∀ (p' : Nat) (u : DStep), q ≤ p' → p' < q + (p - q) → l[p']? = some u → u.kd ≠ .eff := fun p' u h1 h2 h3 h4 => I.todo p' u h1 h3 h4 (hahead hk p' u (by omega) h3)
    obtain ⟨q1, q2, q3⟩ := T.quiet (q := q) (p - q) (by omega) hnoeff
    rw [show q + (p - q) = p by omega] at q1 q2 q3
    have hold : ∀ id, (∀ (p' : Nat) (u : DStep), p < p' → l[p']? = some u → u.kd = .make → base + u.r ≠ id) → HD.get id = (σs p).H.get id := by
      intro id hid
      by_cases hex : ∃ (p' : Nat) (u : DStep), q ≤ p' ∧ p' < p ∧ l[p']? = some u ∧ u.kd = .make ∧ base + u.r = id
      · obtain ⟨p', u, h1, h2, h3, h4, rfl⟩ := hex
        rw [I.made p' u h1 h3 h4 (hahead hk p' u h2 h3), q3 p' u h1 h2 h3 h4]
      · have hnex : ∀ (p' : Nat) (u : DStep), q ≤ p' → l[p']? = some u → u.kd = .make → base + u.r ≠ id := by
          intro p' u h1 h2 h3 h4
          rcases Nat.lt_trichotomy p' p with h | h | h
          · exact hex ⟨p', u, h1, h, h2, h3, h4⟩
          · subst h; rw [hs] at h2; cases h2; rw [hk] at h3; cases h3
          · exact hid p' u h h2 h3 h4
        rw [I.old id hnex, q2 id fun p' u h1 h2 h3 h4 => hnex p' u h1 h3 h4]
    refine ⟨I.n.trans q1.symm, hold, ?_⟩
    intro id
    by_cases hex : ∃ (p' : Nat) (u : DStep), p < p' ∧ l[p']? = some u ∧ u.kd = .make ∧ base + u.r = id
    · obtain ⟨p', u, h1, h2, h3, rfl⟩ := hex
      obtain ⟨x1, x2⟩ := T.fresh h2 h3 p (by omega)
      exact .inr ⟨x2, x1⟩
    · exact .inl (hold id fun p' u h1 h2 h3 h4 => hex ⟨p', u, h1, h2, h3, h4⟩)
  have hdone : s.kd = .eff → ∀ {μ' : Mu} {HD' : Heap} {x : Value} {w' : World}, Step B w0 (base + m) μ HD w μ' HD' w' → VRel μ' v x → HD'.n = (σs (p + 1)).H.n →
      (∀ id, HD.get id = (σs p).H.get id → HD'.get id = (σs (p + 1)).H.get id) → (∀ id, HD.get id ≠ (σs p).H.get id → HD'.get id = HD.get id) →
      ∃ q' μ' HD', DInv B n0 N w0 w1 μ0 H0 ops base m l σs (fun j => D j ∨ j = s.i) q' μ' HD' (a.put o.dst x) w' := by
    intro hk μ' HD' x w' hst hx hn hget1 hget2
    obtain ⟨z1, z2, z3⟩ := heff0 hk
    obtain ⟨p1, p2, p3, p4⟩ := hput hst.le hx
    obtain ⟨e1, e2⟩ := g5 hk
    refine ⟨p + 1, μ', HD', ⟨by omega, ?_, ?_, e1, I.st.trans (hst.mono (by omega)), Nat.le_trans I.room hst.n, hn, ?_, ?_, ?_, ?_, p1, p2, p3, p4⟩⟩
    · intro p' u h1 h2
      by_cases h : p' = p
      · subst h; rw [hs] at h2; cases h2; exact .inr rfl
      · exact .inl (hahead hk p' u (by omega) h2)
    · rintro p' u h1 h2 h3 (h | h)
      · exact I.todo p' u (by omega) h2 h3 h
      · have := hinj p' u h2 h; omega
    · intro id hid
      exact hget1 id (z2 id fun p' u h1 h2 h3 => hid p' u (by omega) h2 h3)
    · rintro p' u h1 h2 h3 (h | h)
      · have hm := I.made p' u (by omega) h2 h3 h
        by_cases hh : HD.get (base + u.r) = (σs p).H.get (base + u.r)
        · obtain ⟨x1, x2⟩ := T.fresh h2 h3 p (by omega)
          obtain ⟨x3, x4⟩ := T.fresh h2 h3 (p + 1) (by omega)
          rw [hget1 _ hh, x3, ← hm, hh, x1]
        · rw [hget2 _ hh, hm]
      · have := hinj p' u h2 h; omega
    · intro p' u h1 h2 h3 h
      have hm := I.notyet p' u (by omega) h2 h3 fun h' => h (.inl h')
      obtain ⟨x1, x2⟩ := T.fresh h2 h3 p (by omega)
      obtain ⟨x3, x4⟩ := T.fresh h2 h3 (p + 1) (by omega)
      rw [hget1 _ (by rw [hm, x1]), x3]
    · intro p' u h2 h3 h
      have hm := I.free p' u h2 h3 fun h' => h (.inl h')
      cases hμ : μ' (base + u.r) with
      | none => rfl
      | some L =>
        rcases hst.new _ _ hμ with h' | ⟨h', _⟩
        · rw [hm] at h'; cases h'
        · have := T.ok.makeLt _ _ h2 h3; omega
  unfold wpOp
  simp only [ho]
  rw [hwant]
  cases b with
  | false =>
    simp only [Bool.false_eq_true, if_false]
    obtain ⟨hv, hH⟩ := g7 rfl
    by_cases hk : s.kd = .eff
    · exact hdone hk (Step.refl I.st.rel) (hv ▸ VRel.unit) (by rw [hH]; exact (heff0 hk).1) (fun id h => by rw [hH]; exact h) (fun _ _ => rfl)
    · refine hquiet hk (.inl (Step.refl I.st.rel)) (hv ▸ VRel.unit) rfl (fun _ _ => rfl) ?_ ?_
      · intro hm
        rw [I.notyet p s hqp hs hm hi, hH, (T.fresh hs hm p (Nat.le_refl _)).1]
      · intro p' u h1 h2 h3; exact I.free p' u h1 h2 fun h => h3 (.inl h)
  | true =>
    simp only [if_true]
    refine .inl ?_
    obtain ⟨k1, k2, k3, k4⟩ := g8 rfl
    unfold Oper.wp
    have hvalue : s.kd ≠ .eff → s.kd ≠ .make → valA P envD o.op HD = some v → Oper.upon P o a (fun a' w' => ∃ q' μ' HD', DInv B n0 N w0 w1 μ0 H0 ops base m l σs (fun j => D j ∨ j = s.i) q' μ' HD' a' w') Q ((execOp a.eval o).run P w) := by
      intro h1 h2 h3
      obtain ⟨y, hrun, hy⟩ := valA_sound (P := P) I.st.rel hρ h3
      rw [hrun]
      exact hquiet h1 (.inl (Step.refl I.st.rel)) hy rfl (fun _ _ => rfl) (fun h => absurd h h2) fun p' u h1 h2 h3 => I.free p' u h1 h2 fun h => h3 (.inl h)
    cases hkd : s.kd with
    | pure =>
      refine hvalue (by simp [hkd]) (by simp [hkd]) ?_
      rw [← valA_congr hopd]
      refine valA_up ?_ (k1 hkd).1
      intro i hi
      exact absurd rfl hi
    | read =>
      refine hvalue (by simp [hkd]) (by simp [hkd]) ?_
      obtain ⟨r1, r2, _⟩ := k2 hkd
      -- the memory that is read is one of those that were looked at
      have hcount : cntE l p - cntE l q ≤ s.past := by
        rcases Nat.lt_or_ge s.past (cntE l p - cntE l q) with hlt' | h
        · exfalso
          have key : ∀ d, q + d ≤ p → cntE l (q + d) = cntE l q := by
            intro d
            induction d with
            | zero => intro _; rfl
            | succ d ih =>
              intro hd
              have ihd := ih (by omega)
              obtain ⟨u, hu⟩ := getElem?_isSome_of_lt (show q + d < l.length by omega)
              rw [← Nat.add_assoc, cntE_succ hu, ihd]
              by_cases hku : u.kd = .eff
              · rcases T.ok.read p s hs hkd (q + d) u (by omega) hu hku with h | h
                · exact absurd (hb _ h) (I.todo _ _ (by omega) hu hku)
                · omega
              · simp [hku]
          have := key (p - q) (by omega)
          rw [show q + (p - q) = p by omega] at this
          omega
        · exact h
      obtain ⟨pre, e1, e2⟩ := T.ks (q := q) (p - q) (by omega)
      rw [show q + (p - q) = p by omega] at e1 e2
      have hread : valA P env' o.op (σs q).Hk = some v := by
        cases pre with
        | nil => simp at e1; rw [← e1.1]; exact r1
        | cons K pre =>
          simp only [List.cons_append, List.cons.injEq] at e1
          obtain ⟨_, e1⟩ := e1
          refine r2 _ ?_
          rw [e1, List.mem_iff_getElem?]
          refine ⟨pre.length, ?_⟩
          simp only [List.length_cons] at e2
          rw [List.getElem?_take, if_pos (by omega), List.getElem?_append_right (by omega)]
          simp
      rw [← valA_congr hopd]
      refine valA_up ?_ hread
      rw [I.hk]
      intro id hid
      by_cases hex : ∃ (p' : Nat) (u : DStep), q ≤ p' ∧ l[p']? = some u ∧ u.kd = .make ∧ base + u.r = id
      · obtain ⟨p', u, h1, h2, h3, rfl⟩ := hex
        exact absurd (T.fresh h2 h3 q h1).1 hid
      · exact I.old id fun p' u h1 h2 h3 h4 => hex ⟨p', u, h1, h2, h3, h4⟩
    | make =>
      obtain ⟨obj, f, m1, rfl, m3⟩ := k3 hkd
      rw [makeA_congr hopd] at m1
      have hr := T.ok.makeLt _ _ hs hkd
      have hf := I.free p s hs hkd hi
      have hfr : FreeId μ HD n0 (some (base + s.r)) := ⟨by have := I.room; omega, hf, by omega⟩
      refine (make_gives' (P := P) I.st.rel hfr hρ m1).upon ?_
      rintro x w2 ⟨μ', hst, hx, hsame⟩
      refine hquiet (by simp [hkd]) (.inr hst) hx rfl ?_ ?_ ?_
      · intro id hid
        simp only [newA, Heap.get_set]
        rw [if_neg (Ne.symm (hid hkd))]
      · intro _
        simp only [newA, Heap.get_set, if_true]
        rw [m3, Heap.get_set, if_pos rfl]
      · intro p' u h1 h2 h3
        rw [hsame, I.free p' u h1 h2 fun h => h3 (.inl h)]
        simp only [newA]
        intro e
        have := T.ok.makeInj _ _ _ _ h1 hs h2 hkd (by omega)
        subst this
        rw [hs] at h1; cases h1
        exact h3 (.inr rfl)
    | eff =>
      have hS := k4 hkd (fun v H => some (v, H))
      obtain ⟨z1, z2, z3⟩ := heff0 hkd
      obtain ⟨X, hX, x1, x2⟩ := Ext_of z1 z3
      obtain ⟨v1, H1, G1, y1, y2, y3⟩ := stepA_frame (P := P) hX T.fr (r := none) (by simp) hS
      simp at y1
      obtain ⟨rfl, rfl⟩ := y1
      have hS' := y3 (fun v H => some (v, H))
      rw [stepA_congr hopd] at hS'
      obtain ⟨v2, H2, u1, u2⟩ := stepA_sound (P := P) (n0 := base + m) hc I.st.rel (r := none) I.room hρ hS'
      simp at u1
      obtain ⟨rfl, rfl⟩ := u1
      refine u2.upon ?_
      rintro x w2 ⟨μ', hst, hx⟩
      exact hdone hkd hst hx y2.n (fun id h => y2.old id (x1 id h)) (fun id h => (y2.new id _ (x2 id h)).2.2)
end
end Go.AM
end

section
set_option linter.unusedVariables false
set_option linter.unusedSimpArgs false
/- Regions, code, calls: what the abstract machine gives is what the model's machine gives. -/
set_option linter.unusedSimpArgs false
namespace Go.AM
open Go.RowKit (Below)

def unl : List Bool → Nat
  | [] => 0
  | b :: bs => (if b = true then 0 else 1) + unl bs
theorem unl_set : ∀ {bs : List Bool} {i : Nat}, bs[i]? = some false → unl (bs.set i true) + 1 = unl bs
  | [], i, h => by simp at h
  | b :: bs, 0, h => by simp at h; subst h; simp [unl]; omega
  | b :: bs, i + 1, h => by
    simp at h
    have := unl_set h
    simp only [List.set_cons_succ, unl]; omega
theorem unl_pos : ∀ {bs : List Bool} {i : Nat}, bs[i]? = some false → 0 < unl bs
  | [], i, h => by simp at h
  | b :: bs, 0, h => by simp at h; subst h; simp [unl]; omega
  | b :: bs, i + 1, h => by simp at h; have := unl_pos h; simp only [unl]; omega

section
variable {P : Program} {B n0 N : Nat} {w0 w1 w w' w'' : World} {μ0 μ μ' μ'' ν : Mu} {H0 H H' H'' : Heap}
variable {call : FuncId → List V → Heap → Option R} {ops : Array Oper} {base m : Nat} {l : List DStep} {σs : Nat → DS}

theorem all_listed {listed : Array Bool} (T : PlanOk P ops m l) (hs : listed.size = ops.size) (hr : Region.ready .any ops listed = []) : ∀ i, i < ops.size → listed.getD i false = true := by
  intro i
  induction i using Nat.strongRecOn with
  | _ i ih =>
    intro hi
    cases hl : listed.getD i false with
    | true => rfl
    | false =>
      exfalso
      have : i ∈ Region.ready .any ops listed := by
        rw [mem_ready]
        refine ⟨?_, ops[i], Array.getElem?_eq_getElem hi, ?_⟩
        · rw [Array.getD_eq_getD_getElem?, Array.getElem?_eq_getElem (by omega)] at hl ⊢
          simpa using hl
        · intro e he hb
          have hlt := T.edge i _ (Array.getElem?_eq_getElem hi) e he hb
          exact ih e.on hlt (by omega)
      rw [hr] at this; cases this

theorem draw_any (T : Tr P call ops base m l σs) (hc : CallSound P call) (hn0 : n0 ≤ base) (hdst : ∀ o ∈ ops, okDst N o = true) {Q : Exit → Act → World → Prop}
    (hK : ∀ a' w' μ', Step B w0 n0 μ0 H0 w1 μ' (σs l.length).H w' → St N μ' (σs l.length).env a' → Q .normal a' w') :
    ∀ (fuel : Nat) (listed : Array Bool) (a : Act) (w : World), listed.size = ops.size → unl listed.toList ≤ fuel → Closed ops (fun i => listed.getD i false = true) →
      (∃ q μ HD, DInv B n0 N w0 w1 μ0 H0 ops base m l σs (fun i => listed.getD i false = true) q μ HD a w) → wpAny P .any ops Q fuel listed a w := by
  have hend : ∀ (listed : Array Bool) (a : Act) (w : World), (∀ i, i < ops.size → listed.getD i false = true) →
      (∃ q μ HD, DInv B n0 N w0 w1 μ0 H0 ops base m l σs (fun i => listed.getD i false = true) q μ HD a w) → Q .normal a w := by
    rintro listed a w hall ⟨q, μ, HD, I⟩
    have hop : ∀ (p : Nat) (s : DStep), l[p]? = some s → listed.getD s.i false = true := by
      intro p s hs
      obtain ⟨o, ho, _⟩ := T.ok.op p s hs
      exact hall _ (Array.getElem?_eq_some_iff.1 ho).1
    obtain ⟨q1, q2, q3⟩ := T.quiet (q := q) (l.length - q) (by have := I.qle; omega) (fun p s h1 h2 hs hk => I.todo p s h1 hs hk (hop p s hs))
    have hq := I.qle
    rw [show q + (l.length - q) = l.length by omega] at q1 q2 q3
    refine hK a w μ (I.st.congr (q1.trans I.n.symm) ?_) ⟨I.defers, I.size, fun t => I.slot t fun j o hj _ => hall j (Array.getElem?_eq_some_iff.1 hj).1⟩
    intro id
    by_cases hex : ∃ (p' : Nat) (u : DStep), q ≤ p' ∧ l[p']? = some u ∧ u.kd = .make ∧ base + u.r = id
    · obtain ⟨p', u, h1, h2, h3, rfl⟩ := hex
      have hp := (List.getElem?_eq_some_iff.1 h2).1
      rw [q3 p' u h1 hp h2 h3, I.made p' u h1 h2 h3 (hop p' u h2)]
    · rw [q2 id fun p u h1 h2 h3 h4 h5 => hex ⟨p, u, h1, h3, h4, h5⟩, I.old id fun p u h1 h3 h4 h5 => hex ⟨p, u, h1, h3, h4, h5⟩]
  have hlisted : ∀ {listed : Array Bool}, listed.size = ops.size → unl listed.toList = 0 → ∀ i, i < ops.size → listed.getD i false = true := by
    intro listed hs h0 i hi
    cases hl : listed.getD i false with
    | true => rfl
    | false =>
      exfalso
      rw [Array.getD_eq_getD_getElem?, Array.getElem?_eq_getElem (by omega)] at hl
      have := unl_pos (bs := listed.toList) (i := i) (by rw [Array.getElem?_toList, Array.getElem?_eq_getElem (by omega)]; simpa using hl)
      omega
  intro fuel
  induction fuel with
  | zero =>
    intro listed a w hs hu hcl I
    have hall := hlisted hs (by omega)
    refine ⟨?_, hend listed a w hall I⟩
    cases hr : Region.ready .any ops listed with
    | nil => rfl
    | cons x xs =>
      exfalso
      have hx : x ∈ Region.ready .any ops listed := by rw [hr]; simp
      obtain ⟨h0, o, ho, _⟩ := mem_ready.1 hx
      have hxl := (Array.getElem?_eq_some_iff.1 ho).1
      have := hall x hxl
      rw [Array.getD_eq_getD_getElem?, Array.getElem?_eq_getElem (by omega)] at this h0
      simp at this h0
      rw [this] at h0; cases h0
  | succ fuel ih =>
    intro listed a w hs hu hcl I
    refine ⟨fun hr => hend listed a w (all_listed T.ok hs hr) I, ?_⟩
    intro i hi
    obtain ⟨q, μ, HD, I⟩ := I
    obtain ⟨h0, o, ho, he⟩ := mem_ready.1 hi
    have hil := (Array.getElem?_eq_some_iff.1 ho).1
    have hni : listed[i]? = some false := by
      rw [Array.getD_eq_getD_getElem?, Array.getElem?_eq_getElem (by omega)] at h0
      rw [Array.getElem?_eq_getElem (by omega)]; simpa using h0
    have hset : ∀ j, (listed.setIfInBounds i true).getD j false = true ↔ (listed.getD j false = true ∨ j = i) := by
      intro j
      simp only [Array.getD_eq_getD_getElem?, Array.getElem?_setIfInBounds]
      by_cases hij : i = j
      · subst hij; simp [show i < listed.size by omega]
      · rw [if_neg hij]; simp [Ne.symm hij]
    refine wpOp_mono ?_ (I.step T hc hn0 hdst hcl (fun j hj => ?_) ho (fun h => ?_) he)
    · rintro a' w' ⟨q', μ', HD', I'⟩
      refine ih _ a' w' (by simp [hs]) ?_ ?_ ⟨q', μ', HD', ?_⟩
      · have := unl_set (bs := listed.toList) (i := i) (by simpa using hni)
        rw [← Array.toList_setIfInBounds] at this
        omega
      · intro j oj hj hd e hem hb
        rw [hset] at hd ⊢
        rcases hd with hd | rfl
        · exact .inl (hcl j oj hj hd e hem hb)
        · rw [ho] at hj; cases hj
          exact .inl (he e hem hb)
      · have : (fun j => (listed.setIfInBounds i true).getD j false = true) = fun j => listed.getD j false = true ∨ j = i := funext fun j => propext (hset j)
        rw [this]; exact I'
    · rw [← hs]
      rcases Nat.lt_or_ge j listed.size with h | h
      · exact h
      · rw [Array.getD_eq_getD_getElem?, Array.getElem?_eq_none h] at hj; simp at hj
    · rw [Array.getD_eq_getD_getElem?, hni] at h; simp at h

def regionOk (P : Program) (N : Nat) (ops : Array Oper) (draw : Bool) : Bool :=
  ops.toList.all (okDst N) && (!draw || match plan P ops with
    | some (m, l) => planOk P ops m l
    | none => true)

theorem Rel.more (hr : Rel B w0 μ H w) (m : Nat) : Rel B w0 μ (H.more m) w :=
  ⟨hr.below, hr.size, fun i L e => by have := hr.dom i L e; exact ⟨by simp; omega, by simpa using this.2⟩, fun i L e => by simpa using hr.objs i L e, fun i j L M e1 e2 h l1 l2 l3 => hr.sep i j L M e1 e2 h (by simpa using l1) (by simpa using l2) (by simpa using l3),
    fun i hi => by simp at hi ⊢; exact hr.clean i (by omega)⟩

theorem region_sound (hm : P.follows .mixedOrders = true) (hc : CallSound P call) (hf : FrameCall call) {id : Nat} {draw : Bool} {env : Env} {k : Env → Heap → Option R} {res : R} (hok : regionOk P N ops draw = true)
    (h : regA P call ops draw env H k = some res) (hr : Rel B w0 μ H w) (hn : n0 ≤ H.n) {a : Act} (hst : St N μ env a) {Q : Exit → Act → World → Prop}
    (hK : ∀ a' w' env' H' μ', Step B w0 n0 μ H w μ' H' w' → St N μ' env' a' → k env' H' = some res → Q .normal a' w') : (Code.region id ops draw).wp P Q a w := by
  simp only [regionOk, Bool.and_eq_true] at hok
  obtain ⟨hd, hp⟩ := hok
  unfold regA at h
  cases draw with
  | false =>
    simp only [Bool.false_eq_true, if_false] at h
    refine wp_region ?_
    have := runOps_sound (P := P) (n0 := n0) (N := N) (Q := Q) hc (ops := ops) ops.toList 0 env H μ a w (by simp) (List.all_eq_true.1 hd) h hr hn hst hK
    rw [List.range_eq_range']
    simpa using this
  | true =>
    simp only [if_true] at h
    split at h
    · rename_i m l hpl
      simp only [hpl, Bool.not_true, Bool.false_or] at hp
      have hplan := planOk_spec hp
      obtain ⟨σs, t1, t2, t3⟩ := trace hf l ⟨env, H.more m, [], H.more m⟩ hplan.op h
      have T : Tr P call ops H.n m l σs := ⟨hplan, hf, t2, by rw [t1]; rfl, fun i hi => by rw [t1]; simp; exact hr.clean i hi, by rw [t1]⟩
      refine wp_region_any hm ?_
      refine draw_any (n0 := n0) (w1 := w) (μ0 := μ) (H0 := H) (B := B) (w0 := w0) (N := N) T hc hn (fun o ho => ?_) (fun a' w' μ' s hs => hK a' w' _ _ μ' s hs t3) ops.size _ a _ (by simp) ?_ ?_ ⟨0, μ, H.more m, ?_⟩
      · simp only [List.all_eq_true] at hd
        exact hd o (by simpa using ho)
      · have : ∀ n, unl (List.replicate n false) = n := by
          intro n
          induction n with
          | zero => rfl
          | succ n ih => simp [List.replicate_succ, unl, ih]; omega
        rw [Array.toList_replicate, this]; exact Nat.le_refl _
      · intro i o _ hd
        exfalso
        simp only [Array.getD_eq_getD_getElem?, Array.getElem?_replicate] at hd
        split at hd <;> simp at hd
      · have hno : ∀ i, ¬ (Array.replicate ops.size false).getD i false = true := by
          intro i hd
          simp only [Array.getD_eq_getD_getElem?, Array.getElem?_replicate] at hd
          split at hd <;> simp at hd
        refine ⟨Nat.zero_le _, fun p s hp => by omega, fun p s _ _ _ => hno _, by rw [t1], ?_, by simp, by rw [t1], fun id _ => by rw [t1], fun p s _ _ _ hd => absurd hd (hno _), ?_, ?_, hst.defers, hst.size, ?_, fun t _ => by rw [t1]; exact hst.slot t⟩
        · exact ⟨Mu.le_refl _, (hr.more m).heap_eq rfl rfl rfl rfl, by simp, Nat.le_refl _, fun _ _ _ => rfl, fun _ _ e => .inl e⟩
        · intro p s _ _ _ _
          simp
          exact hr.clean _ (by omega)
        · intro p s _ _ _
          exact hr.fresh (by omega)
        · intro t ht
          have := T.env (p := 0) (t := t) l.length (by omega) (fun q s o _ _ _ ho hd => hno _ (ht _ o ho hd))
          rw [Nat.zero_add] at this
          rw [this, t1]
          exact hst.slot t
    · simp at h
end
end Go.AM
end

section
set_option linter.unusedVariables false
set_option linter.unusedSimpArgs false
/- Code, calls: what the abstract machine gives is what the model's machine gives. -/
set_option linter.unusedSimpArgs false
namespace Go.AM
open Go.RowKit (Below)

def X.toExit : X → Exit
  | .normal => .normal
  | .exit id => .exit id
  | .ret => .ret

def okC (P : Program) (N : Nat) : Code → Bool
  | .region _ ops draw => regionOk P N ops draw
  | .seq a b => okC P N a && okC P N b
  | .cond _ a b => okC P N a && okC P N b
  | .block _ c => okC P N c
  | .loop c => okC P N c
  | _ => true

section
variable {P : Program} {B n0 N : Nat} {w0 w1 w w' w'' : World} {μ0 μ μ' μ'' ν : Mu} {H0 H H' H'' : Heap}
variable {call : FuncId → List V → Heap → Option R}

/-- Where code ends, and what follows there. -/
def Post (B n0 N : Nat) (w0 : World) (μ : Mu) (H : Heap) (w : World) (k : K) (res : R) : Exit → Act → World → Prop := fun e a' w' =>
  ∃ x env' H' μ', e = X.toExit x ∧ Step B w0 n0 μ H w μ' H' w' ∧ St N μ' env' a' ∧ k x env' H' = some res

theorem Post.mono {k : K} {res : R} {e : Exit} {a : Act} (s : Step B w0 n0 μ H w μ' H' w') (h : Post B n0 N w0 μ' H' w' k res e a w'') : Post B n0 N w0 μ H w k res e a w'' := by
  obtain ⟨x, env', H1, μ1, e1, s1, s2, s3⟩ := h
  exact ⟨x, env', H1, μ1, e1, s.trans s1, s2, s3⟩

theorem exec_sound (hm : P.follows .mixedOrders = true) (hc : CallSound P call) (hf : FrameCall call) {tab : List (Nat × List Nat)} {n : Nat} {res : R} :
    ∀ (c : Code) (k : K) (env : Env) (H : Heap) (μ : Mu) (a : Act) (w : World), okC P N c = true → exec P call tab n c env H k = some res → Rel B w0 μ H w → n0 ≤ H.n → St N μ env a →
      c.wp P (Post B n0 N w0 μ H w k res) a w := by
  intro c
  induction c with
  | skip => intro k env H μ a w _ h hr hn hs; exact wp_skip ⟨.normal, env, H, μ, rfl, Step.refl hr, hs, h⟩
  | label l => intro k env H μ a w _ h hr hn hs; exact wp_label ⟨.normal, env, H, μ, rfl, Step.refl hr, hs, h⟩
  | exit id => intro k env H μ a w _ h hr hn hs; exact wp_exit ⟨.exit id, env, H, μ, rfl, Step.refl hr, hs, h⟩
  | ret => intro k env H μ a w _ h hr hn hs; exact wp_ret ⟨.ret, env, H, μ, rfl, Step.refl hr, hs, h⟩
  | region id ops draw =>
    intro k env H μ a w ho h hr hn hs
    unfold exec at h
    exact region_sound hm hc hf (by simpa [okC] using ho) h hr hn hs fun a' w' env' H' μ' s hs' hk => ⟨.normal, env', H', μ', rfl, s, hs', hk⟩
  | seq x y ihx ihy =>
    intro k env H μ a w ho h hr hn hs
    simp only [okC, Bool.and_eq_true] at ho
    unfold exec at h
    refine wp_seq (wp_mono (ihx _ env H μ a w ho.1 h hr hn hs) ?_)
    rintro e a' w' ⟨x', env', H', μ', rfl, s1, s2, s3⟩
    cases x' with
    | normal => exact wp_mono (ihy k _ H' μ' a' w' ho.2 s3 s1.rel (Nat.le_trans hn s1.n) (s2.keep _)) fun e a w h => h.mono s1
    | exit id => exact ⟨.exit id, env', H', μ', rfl, s1, s2, s3⟩
    | ret => exact ⟨.ret, env', H', μ', rfl, s1, s2, s3⟩
  | cond c x y ihx ihy =>
    intro k env H μ a w ho h hr hn hs
    simp only [okC, Bool.and_eq_true] at ho
    unfold exec at h
    cases hb : opd env c with
    | bool t =>
      rw [hb] at h
      have hv := hs.eval c
      rw [hb] at hv
      simp only [VRel] at hv
      refine wp_cond hv ?_
      cases t with
      | true => exact ihx k env H μ a w ho.1 h hr hn hs
      | false => exact ihy k env H μ a w ho.2 h hr hn hs
    | _ => rw [hb] at h; simp [asB] at h
  | block id c ih =>
    intro k env H μ a w ho h hr hn hs
    unfold exec at h
    refine wp_block (wp_mono (ih _ env H μ a w (by simpa [okC] using ho) h hr hn hs) ?_)
    rintro e a' w' ⟨x', env', H', μ', rfl, s1, s2, s3⟩
    cases x' with
    | normal => exact ⟨.normal, env', H', μ', rfl, s1, s2, s3⟩
    | ret => exact ⟨.ret, env', H', μ', rfl, s1, s2, s3⟩
    | exit j =>
      simp only [kB] at s3
      simp only [X.toExit, Exit.inBlock]
      split
      · rename_i hj; rw [if_pos hj] at s3; exact ⟨.normal, env', H', μ', rfl, s1, s2, s3⟩
      · rename_i hj; rw [if_neg hj] at s3; exact ⟨.exit j, env', H', μ', rfl, s1, s2, s3⟩
  | loop c ih =>
    intro k env H μ a w ho h hr hn hs
    unfold exec at h
    refine wp_loop_rounds n ?_
    have key : ∀ (m : Nat) (env : Env) (H1 : Heap) (μ1 : Mu) (a1 : Act) (w1 : World), loopA (exec P call tab n c) (tabOf tab c) m env H1 k = some res → Step B w0 n0 μ H w μ1 H1 w1 → St N μ1 env a1 →
        Code.rounds P c (Post B n0 N w0 μ H w k res) m a1 w1 := by
      intro m
      induction m with
      | zero => intro env H1 μ1 a1 w1 h s hs; simp [loopA] at h
      | succ m ihm =>
        intro env H1 μ1 a1 w1 h s hs
        unfold loopA at h
        rw [rounds_succ]
        refine wp_mono (ih _ env H1 μ1 a1 w1 (by simpa [okC] using ho) h s.rel (Nat.le_trans hn s.n) hs) ?_
        rintro e a' w' ⟨x', env', H', μ', rfl, s1, s2, s3⟩
        cases x' with
        | normal => exact ihm _ H' μ' a' w' s3 (s.trans s1) (s2.keep _)
        | exit id => exact ⟨.exit id, env', H', μ', rfl, s.trans s1, s2, s3⟩
        | ret => exact ⟨.ret, env', H', μ', rfl, s.trans s1, s2, s3⟩
    exact key n _ H μ a w h (Step.refl hr) (hs.keep _)
  | _ => intro k env H μ a w _ h; simp [exec] at h

def resOne (tmps : Array Value) : ResultVar → Sem Value
  | .tmp t => pure (tmps.getD t undef)
  | .cell a t => do loadVar t (← asAddr (tmps.getD a undef))

theorem resA_sound (hr : Rel B w0 μ H w) {env : Env} {tmps : Array Value} (hs : ∀ t, VRel μ (lk t env) (tmps.getD t undef)) {res : R} : ∀ (rs : List ResultVar) (k : List V → Option R), resA P env H rs k = some res →
    ∃ vs xs, k vs = some res ∧ (rs.mapM (resOne tmps)).run P w = .ok xs w ∧ VRels μ vs xs
  | [], k, h => ⟨[], [], h, by simp, rfl⟩
  | .tmp t :: rs, k, h => by
    unfold resA at h
    obtain ⟨vs, xs, h1, h2, h3⟩ := resA_sound hr hs rs _ h
    refine ⟨_, tmps.getD t undef :: xs, h1, ?_, ?_⟩
    · rw [List.mapM_cons]
      simp only [resOne, Sem.run_bind, Sem.run_pure, Result.andThen_ok, h2]
    · simp only [VRels]; exact ⟨_, _, rfl, hs t, h3⟩
  | .cell a t :: rs, k, h => by
    unfold resA at h
    cases hl : loadA P t (lk a env) H with
    | none => rw [hl] at h; simp at h
    | some v =>
      rw [hl] at h
      obtain ⟨ad, y, h4, h5, h6⟩ := loadA_sound (P := P) hr hl (hs a)
      obtain ⟨vs, xs, h1, h2, h3⟩ := resA_sound hr hs rs _ h
      refine ⟨_, y :: xs, h1, ?_, ?_⟩
      · rw [List.mapM_cons]
        simp only [resOne, h4, asAddr, Sem.run_bind, Sem.run_pure, Result.andThen_ok, h5, h2]
      · simp only [VRels]; exact ⟨_, _, rfl, h6, h3⟩

theorem results_sound (hr : Rel B w0 μ H w) {env : Env} {tmps : Array Value} (hs : ∀ t, VRel μ (lk t env) (tmps.getD t undef)) {fn : Func} {v : V} {H' : Heap} (h : resA P env H fn.results.toList (oneV H) = some (v, H')) :
    H' = H ∧ ∃ y, (results fn tmps).run P w = .ok y w ∧ VRel μ v y := by
  obtain ⟨vs, xs, h1, h2, h3⟩ := resA_sound (P := P) hr hs _ _ h
  have hrun : (results fn tmps).run P w = .ok (if h : xs.toArray.size = 1 then xs.toArray[0] else .tuple xs.toArray) w := by
    have he : results fn tmps = (fn.results.mapM (resOne tmps) >>= fun vs => pure (if h : vs.size = 1 then vs[0] else .tuple vs)) := by
      unfold results
      congr 1
    rw [he, Array.mapM_eq_mapM_toList]
    simp only [Sem.run_bind, map_eq_pure_bind]
    rw [h2]
    simp
  have hl := h3.length
  unfold oneV at h1
  split at h1
  · rename_i u
    simp at h1
    obtain ⟨rfl, rfl⟩ := h1
    simp only [VRels] at h3
    obtain ⟨y, ys, rfl, h4, rfl⟩ := h3
    exact ⟨rfl, y, by rw [hrun]; simp, h4⟩
  · rename_i hne
    simp at h1
    obtain ⟨rfl, rfl⟩ := h1
    refine ⟨rfl, .tuple xs.toArray, ?_, by simp only [VRel]; exact ⟨_, rfl, by simpa using h3⟩⟩
    rw [hrun, dif_neg]
    intro h1
    simp at h1
    rw [hl] at h1
    match vs, h1, hne with
    | [u], _, hne => exact hne u rfl

def okFun (P : Program) (f : FuncId) : Bool := match P.funcs[f]? with
  | some fn => match fn.body with
    | some c => !(fn.name == "runtime.NumGoroutine") && okC P fn.ntmps c
    | none => true
  | none => true

theorem lk_args : ∀ (vs : List V) (i t : Nat), lk t (argsA i vs) = if i ≤ t then (vs[t - i]?).getD .dead else .dead
  | [], i, t => by simp [argsA, lk]
  | v :: vs, i, t => by
    simp only [argsA, lk]
    by_cases h : t = i
    · subst h; simp
    · rw [if_neg h, lk_args vs (i + 1) t]
      by_cases h2 : i ≤ t
      · rw [if_pos h2, if_pos (by omega), show t - i = (t - (i + 1)) + 1 by omega]; simp
      · rw [if_neg h2, if_neg (by omega)]

/-- Functions that are known otherwise. -/
def ExtSound (P : Program) (f : FuncId) (g : List V → Heap → Option R) : Prop :=
  ∀ args H v H', g args H = some (v, H') → ∀ (B n0 : Nat) (w0 w : World) (μ : Mu) (xs : Array Value), Rel B w0 μ H w → n0 ≤ H.n → VRels μ args xs.toList →
    Gives P (fun x w' => ∃ μ', Step B w0 n0 μ H w μ' H' w' ∧ VRel μ' v x) ((callFunc f xs).run P w)
def ExtFrame (g : List V → Heap → Option R) : Prop :=
  ∀ args H v H' X G, g args H = some (v, H') → Ext X H G → ∃ G', g args G = some (v, G') ∧ Ext X H' G'

structure Cfg.Ok (C : Cfg) : Prop where
  mixed : C.P.follows .mixedOrders = true
  fns : ∀ f tab, C.tabs f = some tab → okFun C.P f = true
  ext : ∀ f g, C.ext f = some g → ExtSound C.P f g ∧ ExtFrame g

theorem callA_sound {C : Cfg} (ok : C.Ok) : ∀ n, CallSound C.P (callA C n) := by
  have hfr := callA_frame (C := C) fun f g h => (ok.ext f g h).2
  intro n
  induction n with
  | zero => intro f args H v H' h; simp [callA] at h
  | succ n ih =>
    intro f args H v H' h B n0 w0 w μ xs hr hn hv
    unfold callA at h
    split at h
    · rename_i g hg
      exact (ok.ext f g hg).1 args H v H' h B n0 w0 w μ xs hr hn hv
    · split at h
      · rename_i tab htab
        have hok := ok.fns f tab htab
        split at h
        · rename_i fn hfn
          split at h
          · rename_i c hbody
            simp only [okFun, hfn, hbody, Bool.and_eq_true, Bool.not_eq_true'] at hok
            have hrun : (callFunc f xs).run C.P w = .ok (.enter f xs) w := by
              have hne : ¬ fn.name = "runtime.NumGoroutine" := by simpa using hok.1
              simp [callFunc, hfn, hbody, hne]
            rw [hrun]
            simp only [Gives]
            have hst : St fn.ntmps μ (argsA 0 args) { tmps := xs ++ Array.replicate (fn.ntmps - xs.size) undef, defers := [] } := by
              refine ⟨rfl, by simp; omega, ?_⟩
              intro t
              rw [lk_args]
              simp only [Nat.zero_le, if_true, Nat.sub_zero]
              cases ha : args[t]? with
              | none => simp [VRel]
              | some u =>
                obtain ⟨x, e, q⟩ := hv.get t u ha
                have hlt := (List.getElem?_eq_some_iff.1 e).1
                simp at hlt
                rw [Array.getD_eq_getD_getElem?, Array.getElem?_append_left hlt]
                have e' : xs[t]? = some x := by simpa using e
                rw [e']; exact q
            refine calls_of_wp hfn hbody (wp_mono (exec_sound (P := C.P) (B := B) (n0 := n0) (w0 := w0) ok.mixed ih (hfr n) c _ _ H μ _ w hok.2 h hr hn hst) ?_)
            rintro e a' w' ⟨x', env', H1, μ1, rfl, s1, s2, s3⟩
            have key : resA C.P env' H1 fn.results.toList (oneV H1) = some (v, H') → a'.defers = [] ∧ ∃ y, (results fn a'.tmps).run C.P w' = .ok y w' ∧ ∃ x, Ending.returned y = .returned x ∧ ∃ μ', Step B w0 n0 μ H w μ' H' w' ∧ VRel μ' v x := by
              intro h
              obtain ⟨rfl, y, h1, h2⟩ := results_sound s1.rel s2.slot h
              exact ⟨s2.defers, y, h1, y, rfl, μ1, s1, h2⟩
            cases x' with
            | normal => exact key s3
            | ret => exact key s3
            | exit id => simp [kRet] at s3
          · simp at h
        · simp at h
      · simp at h
end
end Go.AM
end

section
set_option linter.unusedVariables false
set_option linter.unusedSimpArgs false
/- A call's arguments, as the data they are read as, laid into the abstract machine's memory. -/
set_option linter.unusedSimpArgs false
namespace Go.AM
open Go.RowKit (Below)

/-- The cells of a value of a type: numbers, texts, slices of such, structs and arrays of such. -/
def WT (P : Program) : Nat → TypeId → List V → Heap → Prop
  | 0, _, _, _ => False
  | fuel + 1, t, cs, H => match P.underlying t with
    | some .bool => ∃ b, cs = [.bool b]
    | some (.int k) => ∃ n, cs = [.int k n] ∧ (Lit.int k n).wf = true
    | some .string => ∃ s : List UInt8, cs = [.str s] ∧ s.length ≤ maxLen
    | some (.slice e) => cs = [.slice ⟨none, 0, 0, false⟩] ∨ ∃ i len full, cs = [.slice ⟨some (i, 0), len, P.cellsOf e, full⟩] ∧ i < H.n ∧ len ≤ maxLen ∧
        (len ≠ 0 → ∃ el xs, H.get i = .cells xs el true ∧ xs.length = len * P.cellsOf e ∧ ∀ j, j < len → WT P fuel e ((xs.drop (j * P.cellsOf e)).take (P.cellsOf e)) H)
    | some (.struct fs) => cs.length = P.cellsOf t ∧ ∀ f ∈ fs.toList, WT P fuel f.type ((cs.drop f.offset).take (P.cellsOf f.type)) H
    | some (.array n e) => cs.length = P.cellsOf t ∧ ∀ i, i < n → WT P fuel e ((cs.drop (i * P.cellsOf e)).take (P.cellsOf e)) H
    | _ => False

/-- The fields lie one behind the other. -/
def tiles (P : Program) : List Field → Nat → Nat → Bool
  | [], off, total => off == total
  | f :: fs, off, total => f.offset == off && tiles P fs (off + P.cellsOf f.type) total
/-- A type of numbers, texts, slices of such, structs and arrays of such. -/
def plainT (P : Program) : Nat → TypeId → Bool
  | 0, _ => false
  | fuel + 1, t => match P.underlying t with
    | some .bool | some (.int _) | some .string => decide (P.cellsOf t = 1)
    | some (.slice e) => decide (P.cellsOf t = 1) && decide (0 < P.cellsOf e) && plainT P fuel e
    | some (.struct fs) => tiles P fs.toList 0 (P.cellsOf t) && fs.toList.all fun f => plainT P fuel f.type
    | some (.array n e) => decide (n * P.cellsOf e = P.cellsOf t) && plainT P fuel e
    | _ => false

/-- Memory with more things. -/
structure Grows (μ : Mu) (H : Heap) (μ' : Mu) (H' : Heap) : Prop where
  le : μ.le μ'
  n : H.n ≤ H'.n
  get : ∀ i, i < H.n → H'.get i = H.get i

section
variable {P : Program} {B n0 N : Nat} {w0 w1 w w' w'' : World} {μ0 μ μ' μ'' ν : Mu} {H0 H H' H'' : Heap}

theorem Grows.refl : Grows μ H μ H := ⟨Mu.le_refl _, Nat.le_refl _, fun _ _ => rfl⟩
theorem Grows.trans (h : Grows μ H μ' H') (k : Grows μ' H' μ'' H'') : Grows μ H μ'' H'' :=
  ⟨Mu.le_trans h.le k.le, Nat.le_trans h.n k.n, fun i hi => (k.get i (Nat.lt_of_lt_of_le hi h.n)).trans (h.get i hi)⟩

theorem WT.mono (hn : H.n ≤ H'.n) (hg : ∀ i, i < H.n → H'.get i = H.get i) : ∀ (fuel : Nat) (t : TypeId) (cs : List V), WT P fuel t cs H → WT P fuel t cs H'
  | 0, t, cs, h => h
  | fuel + 1, t, cs, h => by
    unfold WT at h ⊢
    split at h
    · exact h
    · exact h
    · exact h
    · rcases h with h | ⟨i, len, full, h1, h2, h3, h4⟩
      · exact .inl h
      · refine .inr ⟨i, len, full, h1, by omega, h3, fun hl => ?_⟩
        obtain ⟨el, xs, k1, k2, k3⟩ := h4 hl
        exact ⟨el, xs, by rw [hg i h2]; exact k1, k2, fun j hj => WT.mono hn hg fuel _ _ (k3 j hj)⟩
    · exact ⟨h.1, fun f hf => WT.mono hn hg fuel _ _ (h.2 f hf)⟩
    · exact ⟨h.1, fun i hi => WT.mono hn hg fuel _ _ (h.2 i hi)⟩
    · exact h

/-- A thing of the arguments' is laid. -/
theorem Rel.lay (hr : Rel B w0 μ H w) {L : Loc} {o : O} (hlive : o.live = true → L.b < w.heap.size) (hown : o.own = false) (hsep : ∀ j M, μ j = some M → (H.get j).own = false)
    (ho : ORel (μ.put H.n L) B o L w) : Rel B w0 (μ.put H.n L) (H.push o) w := by
  have hfr : μ H.n = none := hr.fresh (Nat.le_refl _)
  have hle := Mu.le_put (L := L) hfr
  have hget : ∀ j, (H.push o).get j = if j = H.n then o else H.get j := fun j => Heap.get_push _ _ _
  refine ⟨hr.below, hr.size, ?_, ?_, ?_, ?_⟩
  · intro j M e
    unfold Mu.put at e
    rw [hget]
    split at e
    · rename_i hj; subst hj; simp at e; subst e; rw [if_pos rfl]; exact ⟨by simp, hlive⟩
    · rename_i hj
      have := hr.dom j M e
      rw [if_neg hj]
      exact ⟨by simp; omega, this.2⟩
  · intro j M e
    unfold Mu.put at e
    rw [hget]
    split at e
    · rename_i hj; subst hj; simp at e; subst e; rw [if_pos rfl]; exact ho
    · rename_i hj; rw [if_neg hj]; exact (hr.objs j M e).mono hle rfl
  · intro j k M N' e1 e2 hjk l1 l2 l3
    exfalso
    rw [hget] at l3
    unfold Mu.put at e1
    split at e1
    · rename_i hj; rw [if_pos hj, hown] at l3; cases l3
    · rename_i hj; rw [if_neg hj, hsep j M e1] at l3; cases l3
  · intro i hi
    simp at hi
    rw [hget, if_neg (by omega)]
    exact hr.clean i (by omega)


/-- What a value's reading gives. -/
def Got (P : Program) (B : Nat) (w0 : World) (μ : Mu) (H : Heap) (w : World) (fuel : Nat) (t : TypeId) (cs : List Value) : Prop :=
  ∃ μ' H' vs, Grows μ H μ' H' ∧ Rel B w0 μ' H' w ∧ (∀ j M, μ' j = some M → (H'.get j).own = false) ∧ VRels μ' vs cs ∧ vs.all V.one = true ∧ vs.length = P.cellsOf t ∧ WT P fuel t vs H'

theorem mapM_some {α β : Type} {f : α → Option β} : ∀ {xs : List α} {ys : List β}, xs.mapM f = some ys → xs.length = ys.length ∧ ∀ (i : Nat) (x : α), xs[i]? = some x → ∃ y, f x = some y ∧ ys[i]? = some y
  | [], ys, h => by simp at h; subst h; simp
  | x :: xs, ys, h => by
    rw [List.mapM_cons] at h
    cases h1 : f x with
    | none => simp [h1] at h
    | some y =>
      cases h2 : xs.mapM f with
      | none => simp [h1, h2] at h
      | some zs =>
        simp [h1, h2] at h; subst h
        obtain ⟨l, k⟩ := mapM_some h2
        refine ⟨by simp [l], ?_⟩
        intro i z hz
        cases i with
        | zero => simp at hz; subst hz; exact ⟨y, h1, by simp⟩
        | succ i => simp at hz; simpa using k i z hz

/-- Pieces one behind the other. -/
theorem got_list {fuel : Nat} {A : Type} (ty : A → TypeId) (part : A → List Value) (hstep : ∀ x μ H, Rel B w0 μ H w → (∀ j M, μ j = some M → (H.get j).own = false) → Got P B w0 μ H w fuel (ty x) (part x)) :
    ∀ (las : List A) (μ : Mu) (H : Heap), Rel B w0 μ H w → (∀ j M, μ j = some M → (H.get j).own = false) →
      ∃ (μ' : Mu) (H' : Heap) (vss : List (List V)), Grows μ H μ' H' ∧ Rel B w0 μ' H' w ∧ (∀ j M, μ' j = some M → (H'.get j).own = false) ∧ vss.length = las.length ∧
        VRels μ' vss.flatten (las.map part).flatten ∧ vss.flatten.all V.one = true ∧ ∀ (i : Nat) (a : A) (vs : List V), las[i]? = some a → vss[i]? = some vs → vs.length = P.cellsOf (ty a) ∧ WT P fuel (ty a) vs H'
  | [], μ, H, hr, ho => ⟨μ, H, [], Grows.refl, hr, ho, rfl, by simp [VRels], by simp, by simp⟩
  | a :: las, μ, H, hr, ho => by
    obtain ⟨μ1, H1, vs, g1, r1, o1, v1, n1, l1, t1⟩ := hstep a μ H hr ho
    obtain ⟨μ2, H2, vss, g2, r2, o2, l2, v2, n2, t2⟩ := got_list ty part hstep las μ1 H1 r1 o1
    refine ⟨μ2, H2, vs :: vss, g1.trans g2, r2, o2, by simp [l2], ?_, ?_, ?_⟩
    · simp only [List.flatten_cons, List.map_cons]
      exact VRels.append (VRels.mono g2.le _ _ v1) v2
    · simp only [List.flatten_cons, List.all_append, n1, n2, Bool.and_self]
    · intro i b us h1 h2
      cases i with
      | zero => simp at h1 h2; subst h1 h2; exact ⟨l1, t1.mono g2.n g2.get⟩
      | succ i => simp at h1 h2; exact t2 i b us h1 h2

theorem flatten_chunk {α : Type} {k : Nat} : ∀ {vss : List (List α)} {j : Nat} {v : List α}, (∀ (i : Nat) (u : List α), vss[i]? = some u → u.length = k) → vss[j]? = some v → (vss.flatten.drop (j * k)).take k = v
  | [], j, v, _, h => by simp at h
  | u :: vss, 0, v, hl, h => by
    simp at h; subst h
    simp only [List.flatten_cons, Nat.zero_mul, List.drop_zero]
    rw [List.take_append_of_le_length (by rw [hl 0 u (by simp)]; exact Nat.le_refl _)]
    rw [List.take_of_length_le (by rw [hl 0 u (by simp)]; exact Nat.le_refl _)]
  | u :: vss, j + 1, v, hl, h => by
    simp at h
    have hu := hl 0 u (by simp)
    simp only [List.flatten_cons]
    rw [List.drop_append, List.drop_of_length_le (by rw [hu, Nat.succ_mul]; omega), List.nil_append, hu, show (j + 1) * k - k = j * k by rw [Nat.succ_mul]; omega]
    exact flatten_chunk (fun i u hi => hl (i + 1) u (by simpa using hi)) h

theorem flatten_len {α : Type} {k : Nat} : ∀ {vss : List (List α)}, (∀ (i : Nat) (u : List α), vss[i]? = some u → u.length = k) → vss.flatten.length = vss.length * k
  | [], _ => by simp
  | u :: vss, hl => by
    have hu := hl 0 u (by simp)
    simp only [List.flatten_cons, List.length_append, List.length_cons, hu, Nat.succ_mul]
    rw [flatten_len fun i u hi => hl (i + 1) u (by simpa using hi)]
    omega

theorem tiles_chunk {α : Type} {total : Nat} : ∀ {fs : List Field} {off : Nat} {vss : List (List α)}, tiles P fs off total = true → vss.length = fs.length →
    (∀ (i : Nat) (f : Field) (u : List α), fs[i]? = some f → vss[i]? = some u → u.length = P.cellsOf f.type) →
    off ≤ total ∧ vss.flatten.length = total - off ∧ ∀ (i : Nat) (f : Field) (u : List α), fs[i]? = some f → vss[i]? = some u → off ≤ f.offset ∧ (vss.flatten.drop (f.offset - off)).take (P.cellsOf f.type) = u
  | [], off, vss, ht, hl, _ => by
    simp [tiles] at ht; subst ht
    have : vss = [] := List.eq_nil_of_length_eq_zero (by simpa using hl)
    subst this
    simp
  | f :: fs, off, [], ht, hl, _ => by simp at hl
  | f :: fs, off, v :: vss, ht, hl, hs => by
    simp only [tiles, Bool.and_eq_true, beq_iff_eq] at ht
    obtain ⟨h1, h2⟩ := ht
    subst h1
    have hv := hs 0 f v (by simp) (by simp)
    obtain ⟨i1, i2, i3⟩ := tiles_chunk h2 (by simpa using hl) fun i g u a b => hs (i + 1) g u (by simpa using a) (by simpa using b)
    refine ⟨by omega, by simp only [List.flatten_cons, List.length_append, i2, hv]; omega, ?_⟩
    intro i g u a b
    cases i with
    | zero =>
      simp at a b; subst a b
      refine ⟨Nat.le_refl _, ?_⟩
      simp only [Nat.sub_self, List.drop_zero, List.flatten_cons]
      rw [List.take_append_of_le_length (by rw [hv]; exact Nat.le_refl _), List.take_of_length_le (by rw [hv]; exact Nat.le_refl _)]
    | succ i =>
      simp at a b
      obtain ⟨j1, j2⟩ := i3 i g u a b
      refine ⟨by omega, ?_⟩
      simp only [List.flatten_cons]
      rw [List.drop_append, List.drop_of_length_le (by rw [hv]; omega), List.nil_append, hv, show g.offset - f.offset - P.cellsOf f.type = g.offset - (f.offset + P.cellsOf f.type) by omega]
      exact j2

theorem tiles_whole {total : Nat} {α : Type} {cs : List α} (hc : cs.length = total) : ∀ {fs : List Field} {off : Nat}, tiles P fs off total = true →
    off ≤ total ∧ (fs.map fun f => (cs.drop f.offset).take (P.cellsOf f.type)).flatten = cs.drop off
  | [], off, ht => by
    simp [tiles] at ht; subst ht
    exact ⟨Nat.le_refl _, by simp [hc]⟩
  | f :: fs, off, ht => by
    simp only [tiles, Bool.and_eq_true, beq_iff_eq] at ht
    obtain ⟨h1, h2⟩ := ht
    subst h1
    obtain ⟨i1, i2⟩ := tiles_whole hc h2
    refine ⟨by omega, ?_⟩
    simp only [List.map_cons, List.flatten_cons, i2]
    rw [← List.drop_drop]
    exact List.take_append_drop _ _
end
end Go.AM
end

section
set_option linter.unusedVariables false
set_option linter.unusedSimpArgs false
/- A call's arguments, as the data they are read as, laid into the abstract machine's memory: every plain type. -/
set_option linter.unusedSimpArgs false
namespace Go.AM
open Go.RowKit (Below)

section
variable {P : Program} {B n0 N : Nat} {w0 w1 w w' w'' : World} {μ0 μ μ' μ'' ν : Mu} {H0 H H' H'' : Heap} {T : Type} {enc : TypeId × Value → T}

theorem got_one {k : Nat} {t : TypeId} {v : V} {x : Value} (hr : Rel B w0 μ H w) (ho : ∀ j M, μ j = some M → (H.get j).own = false) (h1 : VRel μ v x) (h2 : v.one = true) (h3 : P.cellsOf t = 1) (h4 : WT P k t [v] H) : Got P B w0 μ H w k t [x] :=
  ⟨μ, H, [v], Grows.refl, hr, ho, by simp only [VRels]; exact ⟨x, [], rfl, h1, rfl⟩, by simp [h2], by simp [h3], h4⟩

/-- The cells that are read. -/
theorem cells_spec {base n : Nat} {a : Addr} {xs : List Value} (h : w.cells? base a n = some xs) : xs.length = n ∧ ∀ (i : Nat), i < n → w.cell? (a.add i) = xs[i]? := by
  unfold World.cells? at h
  split at h
  · obtain ⟨h1, h2⟩ := mapM_some h
    simp at h1
    refine ⟨h1.symm, fun i hi => ?_⟩
    obtain ⟨y, h3, h4⟩ := h2 i i (by simp [hi])
    rw [h3, h4]
  · simp at h

theorem cell_spot {a : Addr} {x : Value} (h : w.cell? a = some x) : ∃ c e fr, w.heap[a.block]? = some (.cells c e fr) ∧ a.spot = none ∧ c[a.off]? = some x := by
  unfold World.cell? at h
  split at h
  · rename_i c e fr hb
    split at h
    · simp at h
    · rename_i hs; exact ⟨c, e, fr, hb, by simpa using hs, h⟩
  · simp at h

theorem flatten_get {α : Type} {k : Nat} {xss : List (List α)} {i j : Nat} {xs : List α} (hl : ∀ (i : Nat) (u : List α), xss[i]? = some u → u.length = k) (hi : xss[i]? = some xs) (hj : j < k) : xss.flatten[i * k + j]? = xs[j]? := by
  have := flatten_chunk hl hi
  rw [← this, List.getElem?_take, if_pos hj, List.getElem?_drop]

theorem build_list {A : Type} : ∀ (n : Nat) {Q : Nat → A → Prop}, (∀ i, i < n → ∃ x, Q i x) → ∃ l : List A, l.length = n ∧ ∀ (i : Nat) (x : A), l[i]? = some x → Q i x
  | 0, Q, _ => ⟨[], rfl, by simp⟩
  | n + 1, Q, h => by
    obtain ⟨x, hx⟩ := h 0 (by omega)
    obtain ⟨l, hl, hq⟩ := build_list n (Q := fun i x => Q (i + 1) x) fun i hi => h (i + 1) (by omega)
    refine ⟨x :: l, by simp [hl], ?_⟩
    intro i y hy
    cases i with
    | zero => simp at hy; subst hy; exact hx
    | succ i => simp at hy; exact hq i y hy

theorem chunk_whole {α : Type} {k : Nat} {cs : List α} : ∀ {xss : List (List α)} {off : Nat}, off + xss.length * k = cs.length → (∀ (i : Nat) (u : List α), xss[i]? = some u → u = (cs.drop (off + i * k)).take k) → xss.flatten = cs.drop off
  | [], off, h, _ => by simp at h; simp [h]
  | u :: xss, off, h, hu => by
    have h0 := hu 0 u (by simp)
    simp only [Nat.zero_mul, Nat.add_zero] at h0
    have ih := chunk_whole (k := k) (cs := cs) (xss := xss) (off := off + k) (by simp [Nat.succ_mul] at h; omega) fun i v hv => by
      have := hu (i + 1) v (by simpa using hv)
      rw [this, Nat.succ_mul]
      congr 2
      omega
    simp only [List.flatten_cons, ih, h0]
    rw [← List.drop_drop]
    exact List.take_append_drop _ _

theorem add_off (a : Addr) (i : Nat) (hs : a.spot = none) : a.add i = ⟨a.block, a.off + i, none⟩ := by
  cases a with
  | mk b o s =>
    simp only at hs; subst hs
    unfold Addr.add
    split
    · rename_i h; subst h; rfl
    · rfl

/-- A slice of an argument. -/
theorem got_slice {k fuel len cap : Nat} {t e : TypeId} {a : Addr} (hr : Rel B w0 μ H w) (ho : ∀ j M, μ j = some M → (H.get j).own = false)
    (hu : P.underlying t = some (.slice e)) (hp1 : P.cellsOf t = 1) (hp2 : 0 < P.cellsOf e) (hlc : len ≤ cap) (hcm : cap ≤ maxLen)
    (hstep : ∀ (x : {xs : List Value // ∃ d ps, DataW.trod enc P w 0 (fun _ => true) true fuel e xs = some (d, ps)}) (μ : Mu) (H : Heap), Rel B w0 μ H w → (∀ j M, μ j = some M → (H.get j).own = false) → Got P B w0 μ H w k e x.1)
    (hE : ∀ i, i < cap → ∃ xs, w.cells? 0 (a.add (i * P.cellsOf e)) (P.cellsOf e) = some xs ∧ ∃ d ps, DataW.trod enc P w 0 (fun _ => true) true fuel e xs = some (d, ps)) :
    Got P B w0 μ H w (k + 1) t [.slice (some a) len cap] := by
  by_cases hc0 : cap = 0
  · subst hc0
    have hl0 : len = 0 := by omega
    subst hl0
    have hfr : μ H.n = none := hr.fresh (Nat.le_refl _)
    refine ⟨μ.put H.n ⟨0, 0, 0⟩, H.push .none, [.slice ⟨some (H.n, 0), 0, P.cellsOf e, false⟩], ⟨Mu.le_put hfr, by simp, fun i hi => by rw [Heap.get_push, if_neg (by omega)]⟩,
      hr.lay (by simp [O.live]) rfl ho trivial, ?_, ?_, rfl, by simp [hp1], ?_⟩
    · intro j M e1
      rw [Heap.get_push]
      unfold Mu.put at e1
      split at e1
      · rename_i hj; rw [if_pos hj]; rfl
      · rename_i hj; rw [if_neg hj]; exact ho j M e1
    · simp only [VRels, VRel]
      exact ⟨_, _, rfl, ⟨⟨0, 0, 0⟩, a, 0, by simp [Mu.put], rfl, Nat.le_refl _, by simp, .inl rfl⟩, rfl⟩
    · unfold WT
      simp only [hu]
      exact .inr ⟨H.n, 0, false, rfl, by simp, by omega, by simp⟩
  · obtain ⟨las, hl, hq⟩ := build_list (A := {xs : List Value // ∃ d ps, DataW.trod enc P w 0 (fun _ => true) true fuel e xs = some (d, ps)}) len
      (Q := fun i x => w.cells? 0 (a.add (i * P.cellsOf e)) (P.cellsOf e) = some x.1) fun i hi => by
        obtain ⟨xs, h1, h2⟩ := hE i (by omega)
        exact ⟨⟨xs, h2⟩, h1⟩
    obtain ⟨μ1, H1, vss, g1, r1, o1, l1, v1, n1, t1⟩ := got_list (P := P) (fuel := k) (w := w) (w0 := w0) (B := B) (fun _ => e) (fun x => x.1) hstep las μ H hr ho
    have hget : ∀ (i : Nat) (u : List V), vss[i]? = some u → u.length = P.cellsOf e ∧ WT P k e u H1 := by
      intro i u h2
      have hi : i < las.length := by rw [← l1]; exact (List.getElem?_eq_some_iff.mp h2).1
      exact t1 i _ u (List.getElem?_eq_getElem hi) h2
    have hfl := flatten_len fun i u hi => (hget i u hi).1
    rw [l1, hl] at hfl
    -- the block
    have hlast : ∃ c e' fr, w.heap[a.block]? = some (.cells c e' fr) ∧ a.spot = none ∧ a.off + cap * P.cellsOf e ≤ c.size := by
      obtain ⟨xs, h1, _⟩ := hE (cap - 1) (by omega)
      obtain ⟨hx1, hx2⟩ := cells_spec h1
      have h3 := hx2 (P.cellsOf e - 1) (by omega)
      have h4 : xs[P.cellsOf e - 1]? = some (xs[P.cellsOf e - 1]'(by omega)) := List.getElem?_eq_getElem _
      rw [h4] at h3
      obtain ⟨c, e', fr, k1, k2, k3⟩ := cell_spot h3
      have hs : a.spot = none := by
        obtain ⟨ys, j1, _⟩ := hE 0 (by omega)
        obtain ⟨jx1, jx2⟩ := cells_spec j1
        have j3 := jx2 0 hp2
        have j4 : ys[0]? = some (ys[0]'(by omega)) := List.getElem?_eq_getElem _
        rw [j4] at j3
        obtain ⟨_, _, _, _, m2, _⟩ := cell_spot j3
        simpa [Addr.add] using m2
      rw [add_off a _ hs, add_off _ _ rfl] at k1 k3
      simp only at k1 k3
      have k4 := (Array.getElem?_eq_some_iff.mp k3).1
      refine ⟨c, e', fr, k1, hs, ?_⟩
      have : cap * P.cellsOf e = (cap - 1) * P.cellsOf e + P.cellsOf e := by
        rw [← Nat.succ_mul]; congr 1; omega
      omega
    obtain ⟨c, e', fr, hb, hs, hsz⟩ := hlast
    have hfr : μ1 H1.n = none := r1.fresh (Nat.le_refl _)
    have hle := Mu.le_put (L := ⟨a.block, a.off, c.size⟩) hfr
    have hmul : len * P.cellsOf e ≤ cap * P.cellsOf e := Nat.mul_le_mul_right _ hlc
    refine ⟨μ1.put H1.n ⟨a.block, a.off, c.size⟩, H1.push (.cells vss.flatten e true), [.slice ⟨some (H1.n, 0), len, P.cellsOf e, false⟩],
      g1.trans ⟨hle, by simp, fun i hi => by rw [Heap.get_push, if_neg (by omega)]⟩,
      r1.lay (fun _ => (Array.getElem?_eq_some_iff.mp hb).1) rfl o1 ?_, ?_, ?_, rfl, by simp [hp1], ?_⟩
    · refine ⟨c, e', fr, hb, rfl, by simp only [hfl]; omega, ?_, by simp⟩
      intro j v hv
      have hj : j < len * P.cellsOf e := by rw [← hfl]; exact (List.getElem?_eq_some_iff.mp hv).1
      refine ⟨?_, ?_⟩
      · have := List.all_eq_true.mp n1 v (List.mem_of_getElem? hv)
        exact this
      · obtain ⟨x, hx, hv'⟩ := VRels.get v1 j v hv
        refine ⟨x, ?_, VRel.mono hle _ _ hv'⟩
        have hdm : j / P.cellsOf e < len := (Nat.div_lt_iff_lt_mul hp2).mpr hj
        have hja : las[j / P.cellsOf e]? = some (las[j / P.cellsOf e]'(by omega)) := List.getElem?_eq_getElem _
        have hq1 := hq _ _ hja
        obtain ⟨hx1, hx2⟩ := cells_spec hq1
        have hmod : j % P.cellsOf e < P.cellsOf e := Nat.mod_lt _ hp2
        have h3 := hx2 _ hmod
        have hlens : ∀ (i : Nat) (u : List Value), (las.map fun x => x.1)[i]? = some u → u.length = P.cellsOf e := by
          intro i u hi
          rw [List.getElem?_map] at hi
          cases ha : las[i]? with
          | none => rw [ha] at hi; simp at hi
          | some y => rw [ha] at hi; simp at hi; rw [← hi]; exact (cells_spec (hq i y ha)).1
        have h4 := flatten_get (xss := las.map fun x => x.1) (i := j / P.cellsOf e) (j := j % P.cellsOf e) (k := P.cellsOf e) hlens (by rw [List.getElem?_map, hja]; rfl) hmod
        have hjj : j / P.cellsOf e * P.cellsOf e + j % P.cellsOf e = j := by rw [Nat.mul_comm]; exact Nat.div_add_mod _ _
        rw [hjj, hx] at h4
        rw [← h4, add_off a _ hs, add_off _ _ rfl] at h3
        obtain ⟨c', e'', fr', k1, k2, k3⟩ := cell_spot h3
        simp only at k1 k3
        rw [hb] at k1
        cases k1
        rw [show a.off + j / P.cellsOf e * P.cellsOf e + j % P.cellsOf e = a.off + j by omega] at k3
        exact k3
    · intro j M e1
      rw [Heap.get_push]
      unfold Mu.put at e1
      split at e1
      · rename_i hj; rw [if_pos hj]; rfl
      · rename_i hj; rw [if_neg hj]; exact o1 j M e1
    · simp only [VRels, VRel]
      refine ⟨_, _, rfl, ⟨⟨a.block, a.off, c.size⟩, a, cap, by simp [Mu.put], rfl, hlc, by simp, .inr ⟨?_, by simpa using hsz⟩⟩, rfl⟩
      cases a with
      | mk b o s => simp at hs; subst hs; simp
    · unfold WT
      simp only [hu]
      refine .inr ⟨H1.n, len, false, rfl, by simp, by omega, fun _ => ⟨e, vss.flatten, by rw [Heap.get_push, if_pos rfl], hfl, fun j hj => ?_⟩⟩
      have h2 : vss[j]? = some vss[j] := List.getElem?_eq_getElem (by omega)
      rw [flatten_chunk (fun i u hi => (hget i u hi).1) h2]
      exact (hget j _ h2).2.mono (by simp) fun i hi => by rw [Heap.get_push, if_neg (by omega)]

theorem got : ∀ (k : Nat) (t : TypeId), plainT P k t = true → ∀ (fuel : Nat) (cs : List Value) (d : DataW T) (ps : List MemPlace),
    DataW.trod enc P w 0 (fun _ => true) true fuel t cs = some (d, ps) → ∀ (μ : Mu) (H : Heap), Rel B w0 μ H w → (∀ j M, μ j = some M → (H.get j).own = false) → Got P B w0 μ H w k t cs
  | 0, t, hp, _, _, _, _, _, _, _, _, _ => by simp [plainT] at hp
  | k + 1, t, hp, 0, cs, d, ps, h, μ, H, hr, ho => by simp [DataW.trod] at h
  | k + 1, t, hp, fuel + 1, cs, d, ps, h, μ, H, hr, ho => by
    unfold plainT at hp
    unfold DataW.trod at h
    split at hp
    · rename_i hu
      simp only [hu] at h
      split at h
      all_goals first
        | (rename_i heq; cases heq; done)
        | (simp at h; done)
        | skip
      rename_i b _
      exact got_one hr ho (v := .bool b) (by simp only [VRel]) rfl (by simpa using hp) (by unfold WT; simp [hu])
    · rename_i q hu
      simp only [hu] at h
      split at h
      all_goals first
        | (rename_i heq; cases heq; done)
        | (simp at h; done)
        | skip
      rename_i q' k' n heq
      cases heq
      split at h
      · rename_i hc
        obtain ⟨rfl, hw⟩ := hc
        exact got_one hr ho (v := .int k' n) (by simp only [VRel]) rfl (by simpa using hp) (by unfold WT; simp [hu]; exact hw)
      · simp at h
    · rename_i hu
      simp only [hu] at h
      split at h
      all_goals first
        | (rename_i heq; cases heq; done)
        | (simp at h; done)
        | skip
      rename_i s _
      split at h
      · rename_i hc
        exact got_one hr ho (v := .str s.data.toList) (by simp only [VRel]) rfl (by simpa using hp) (by unfold WT; simp only [hu]; exact ⟨_, rfl, by simpa using hc⟩)
      · simp at h
    · rename_i e hu
      simp only [Bool.and_eq_true, decide_eq_true_eq] at hp
      obtain ⟨⟨hp1, hp2⟩, hp3⟩ := hp
      simp only [hu] at h
      split at h
      all_goals first
        | (rename_i heq; cases heq; done)
        | (simp at h; done)
        | skip
      · exact got_one hr ho (v := .slice ⟨none, 0, 0, false⟩) (by simp only [VRel]; exact ⟨trivial, trivial⟩) rfl hp1 (by unfold WT; simp [hu])
      · rename_i e' a len cap heq
        cases heq
        split at h
        · rename_i hc
          obtain ⟨_, hlc, hcm⟩ := hc
          cases hes : (List.range len).mapM fun i => (w.cells? 0 (a.add (i * P.cellsOf e)) (P.cellsOf e)).bind (DataW.trod enc P w 0 (fun _ => true) true fuel e) with
          | none => rw [hes] at h; simp at h
          | some elems =>
            rw [hes] at h
            simp only [Option.bind_some, if_true] at h
            cases hrs : (List.range (cap - len)).mapM fun j => (w.cells? 0 (a.add ((len + j) * P.cellsOf e)) (P.cellsOf e)).bind (DataW.trod enc P w 0 (fun _ => true) true fuel e) with
            | none => rw [hrs] at h; simp at h
            | some rest =>
              clear h
              have hE : ∀ i, i < cap → ∃ xs, w.cells? 0 (a.add (i * P.cellsOf e)) (P.cellsOf e) = some xs ∧ ∃ d ps, DataW.trod enc P w 0 (fun _ => true) true fuel e xs = some (d, ps) := by
                intro i hi
                by_cases hil : i < len
                · obtain ⟨y, h1, _⟩ := (mapM_some hes).2 i i (by simp [hil])
                  cases hx : w.cells? 0 (a.add (i * P.cellsOf e)) (P.cellsOf e) with
                  | none => rw [hx] at h1; simp at h1
                  | some xs => rw [hx] at h1; exact ⟨xs, rfl, y.1, y.2, h1⟩
                · obtain ⟨y, h1, _⟩ := (mapM_some hrs).2 (i - len) (i - len) (by rw [List.getElem?_range (by omega)])
                  rw [show len + (i - len) = i by omega] at h1
                  cases hx : w.cells? 0 (a.add (i * P.cellsOf e)) (P.cellsOf e) with
                  | none => rw [hx] at h1; simp at h1
                  | some xs => rw [hx] at h1; exact ⟨xs, rfl, y.1, y.2, h1⟩
              exact got_slice hr ho hu hp1 hp2 hlc hcm (fun x μ H r o => got k e hp3 fuel x.1 _ _ x.2.choose_spec.choose_spec μ H r o) hE
        · simp at h
    · rename_i fs hu
      simp only [Bool.and_eq_true, List.all_eq_true] at hp
      obtain ⟨hp1, hp2⟩ := hp
      simp only [hu] at h
      split at h
      · rename_i hlen
        cases hm : fs.toList.mapM fun f => DataW.trod enc P w 0 (fun _ => true) true fuel f.type ((cs.drop f.offset).take (P.cellsOf f.type)) with
        | none => rw [hm] at h; simp at h
        | some xs =>
          clear h
          obtain ⟨_, hm2⟩ := mapM_some hm
          obtain ⟨las, hl, hq⟩ := build_list (A := {p : Field × List Value // plainT P k p.1.type = true ∧ ∃ d ps, DataW.trod enc P w 0 (fun _ => true) true fuel p.1.type p.2 = some (d, ps)}) fs.toList.length
            (Q := fun i x => fs.toList[i]? = some x.1.1 ∧ x.1.2 = (cs.drop x.1.1.offset).take (P.cellsOf x.1.1.type)) fun i hi => by
              have hf : fs.toList[i]? = some fs.toList[i] := List.getElem?_eq_getElem hi
              obtain ⟨y, h1, _⟩ := hm2 i _ hf
              exact ⟨⟨(fs.toList[i], (cs.drop fs.toList[i].offset).take (P.cellsOf fs.toList[i].type)), hp2 _ (List.getElem_mem hi), y.1, y.2, h1⟩, hf, rfl⟩
          obtain ⟨μ1, H1, vss, g1, r1, o1, l1, v1, n1, t1⟩ := got_list (P := P) (fuel := k) (w := w) (w0 := w0) (B := B) (fun x => x.1.1.type) (fun x => x.1.2) (fun x μ H r o => got k x.1.1.type x.2.1 fuel x.1.2 _ _ x.2.2.choose_spec.choose_spec μ H r o) las μ H hr ho
          have hlen' : vss.length = fs.toList.length := by rw [l1, hl]
          have hget : ∀ (i : Nat) (f : Field) (u : List V), fs.toList[i]? = some f → vss[i]? = some u → u.length = P.cellsOf f.type ∧ WT P k f.type u H1 := by
            intro i f u h1 h2
            have hi : i < las.length := by rw [hl]; exact (List.getElem?_eq_some_iff.mp h1).1
            have ha := List.getElem?_eq_getElem hi
            have hq1 := hq i _ ha
            have := t1 i _ u ha h2
            rw [h1] at hq1
            have hff : f = las[i].1.1 := by simpa using hq1.1
            rw [hff]; exact this
          obtain ⟨q1, q2, q3⟩ := tiles_chunk hp1 hlen' fun i f u h1 h2 => (hget i f u h1 h2).1
          have hcs : (las.map fun x => x.1.2).flatten = cs := by
            have he : (las.map fun x => x.1.2) = fs.toList.map fun f => (cs.drop f.offset).take (P.cellsOf f.type) := by
              apply List.ext_getElem?
              intro i
              simp only [List.getElem?_map]
              cases ha : las[i]? with
              | none =>
                have : fs.toList[i]? = none := by rw [List.getElem?_eq_none_iff] at ha ⊢; omega
                rw [this]; rfl
              | some x =>
                obtain ⟨h1, h2⟩ := hq i x ha
                rw [h1]; simp [h2]
            rw [he, (tiles_whole hlen hp1).2]; rfl
          rw [hcs] at v1
          refine ⟨μ1, H1, vss.flatten, g1, r1, o1, v1, n1, by simpa using q2, ?_⟩
          unfold WT
          simp only [hu]
          refine ⟨by simpa using q2, fun f hf => ?_⟩
          obtain ⟨i, hi, rfl⟩ := List.getElem_of_mem hf
          have h1 : fs.toList[i]? = some fs.toList[i] := List.getElem?_eq_getElem hi
          have h2 : vss[i]? = some vss[i] := List.getElem?_eq_getElem (by omega)
          have := (q3 i _ _ h1 h2).2
          simp only [Nat.sub_zero] at this
          rw [this]
          exact (hget i _ _ h1 h2).2
      · simp at h
    · rename_i n e hu
      simp only [Bool.and_eq_true, decide_eq_true_eq] at hp
      obtain ⟨hp1, hp2⟩ := hp
      simp only [hu] at h
      split at h
      · rename_i hlen
        cases hm : (List.range n).mapM fun i => DataW.trod enc P w 0 (fun _ => true) true fuel e ((cs.drop (i * P.cellsOf e)).take (P.cellsOf e)) with
        | none => rw [hm] at h; simp at h
        | some xs =>
          clear h
          obtain ⟨_, hm2⟩ := mapM_some hm
          obtain ⟨las, hl, hq⟩ := build_list (A := {p : List Value // ∃ d ps, DataW.trod enc P w 0 (fun _ => true) true fuel e p = some (d, ps)}) n
            (Q := fun i x => x.1 = (cs.drop (i * P.cellsOf e)).take (P.cellsOf e)) fun i hi => by
              obtain ⟨y, h1, _⟩ := hm2 i i (by simp [hi])
              exact ⟨⟨_, y.1, y.2, h1⟩, rfl⟩
          obtain ⟨μ1, H1, vss, g1, r1, o1, l1, v1, n1, t1⟩ := got_list (P := P) (fuel := k) (w := w) (w0 := w0) (B := B) (fun _ => e) (fun x => x.1) (fun x μ H r o => got k e hp2 fuel x.1 _ _ x.2.choose_spec.choose_spec μ H r o) las μ H hr ho
          have hget : ∀ (i : Nat) (u : List V), vss[i]? = some u → u.length = P.cellsOf e ∧ WT P k e u H1 := by
            intro i u h2
            have hi : i < las.length := by rw [← l1]; exact (List.getElem?_eq_some_iff.mp h2).1
            exact t1 i _ u (List.getElem?_eq_getElem hi) h2
          have hcs : (las.map fun x => x.1).flatten = cs := by
            have := chunk_whole (cs := cs) (k := P.cellsOf e) (xss := las.map fun x => x.1) (off := 0) (by simp [hl, hp1, hlen]) fun i u hi => by
              rw [List.getElem?_map] at hi
              cases ha : las[i]? with
              | none => rw [ha] at hi; simp at hi
              | some x => rw [ha] at hi; simp at hi; rw [← hi, hq i x ha]; simp
            simpa using this
          rw [hcs] at v1
          have hfl := flatten_len fun i u hi => (hget i u hi).1
          rw [l1, hl, hp1] at hfl
          refine ⟨μ1, H1, vss.flatten, g1, r1, o1, v1, n1, hfl, ?_⟩
          unfold WT
          simp only [hu]
          refine ⟨hfl, fun i hi => ?_⟩
          have h2 : vss[i]? = some vss[i] := List.getElem?_eq_getElem (by omega)
          rw [flatten_chunk (fun i u hi => (hget i u hi).1) h2]
          exact (hget i _ h2).2
      · simp at h
    · simp at hp
end
end Go.AM
end

section
set_option linter.unusedVariables false
set_option linter.unusedSimpArgs false
/- A law's row out of what the abstract machine gives: its arguments are laid, the call runs, nothing that was there has turned. -/
set_option linter.unusedSimpArgs false
namespace Go.AM
open Go.RowKit (Below)

/-- A value of cells. -/
def argV (P : Program) (t : TypeId) (vs : List V) : V := match P.underlying t with
  | some (.struct _) | some (.array _ _) => .agg vs
  | _ => vs.headD .dead

/-- Arguments, one behind the other, all in one memory. -/
def WTs (P : Program) (k : Nat) (H : Heap) : List TypeId → List V → Prop
  | [], vs => vs = []
  | t :: ts, vs => ∃ cs us, vs = argV P t cs :: us ∧ WT P k t cs H ∧ WTs P k H ts us

theorem WTs.mono {P : Program} {k : Nat} {H H' : Heap} (hn : H.n ≤ H'.n) (hg : ∀ i, i < H.n → H'.get i = H.get i) : ∀ (ts : List TypeId) (vs : List V), WTs P k H ts vs → WTs P k H' ts vs
  | [], _, h => h
  | t :: ts, vs, ⟨cs, us, e, h, r⟩ => ⟨cs, us, e, WT.mono hn hg k t cs h, WTs.mono hn hg ts us r⟩

section
variable {P : Program} {B : Nat} {w0 w : World} {μ : Mu} {H : Heap} {T : Type} {enc : TypeId × Value → T}

theorem argV_rel {k b : Nat} {t : TypeId} {v : Value} {vs : List V} (h : VRels μ vs v.cells.toList) (hv : Value.okWide P w .any b t v) (hp : plainT P k t = true) : VRel μ (argV P t vs) v := by
  unfold argV
  cases k with
  | zero => simp [plainT] at hp
  | succ k =>
    unfold plainT at hp
    have key : ∀ x, v = x → x.cells = #[x] → VRel μ (vs.headD .dead) v := by
      intro x e1 e2
      subst e1
      rw [e2] at h
      cases vs with
      | nil => simp [VRel]
      | cons u us =>
        simp only [VRels] at h
        obtain ⟨y, ys, e, a, _⟩ := h
        simp at e
        rw [e.1]; exact a
    split at hp
    · rename_i hu; simp only [hu]
      obtain ⟨x, rfl⟩ := WideShapes.okWide_bool hu hv
      exact key _ rfl rfl
    · rename_i q hu; simp only [hu]
      obtain ⟨x, rfl⟩ := WideShapes.okWide_int hu hv
      exact key _ rfl rfl
    · rename_i hu; simp only [hu]
      obtain ⟨x, rfl⟩ := WideShapes.okWide_string hu hv
      exact key _ rfl rfl
    · rename_i e hu; simp only [hu]
      obtain ⟨a, l, c, rfl⟩ := WideShapes.okWide_slice hu hv
      exact key _ rfl rfl
    · rename_i fs hu
      simp only [hu]
      unfold Value.okWide at hv
      simp only [hu] at hv
      obtain ⟨cs, rfl, _⟩ := hv
      simp only [VRel]
      exact ⟨cs, rfl, by simpa [Value.cells] using h⟩
    · rename_i n e hu
      simp only [hu]
      unfold Value.okWide at hv
      simp only [hu] at hv
      obtain ⟨cs, rfl, _⟩ := hv
      simp only [VRel]
      exact ⟨cs, rfl, by simpa [Value.cells] using h⟩
    · cases hp

/-- All arguments are laid. -/
theorem got_all {k : Nat} : ∀ (ts : List TypeId) (vs : List Value) (ds : List (DataW T)) (ps : List MemPlace) (μ : Mu) (H : Heap),
    ts.all (fun t => plainT P k t) = true → DataW.TrodAll enc P w 0 (fun _ => true) true ts vs ds ps → (∀ (j : Nat) t v, ts[j]? = some t → vs[j]? = some v → ∃ b, Value.okWide P w .any b t v) →
    Rel B w0 μ H w → (∀ j M, μ j = some M → (H.get j).own = false) →
    ∃ μ' H' us, Grows μ H μ' H' ∧ Rel B w0 μ' H' w ∧ (∀ j M, μ' j = some M → (H'.get j).own = false) ∧ VRels μ' us vs ∧ WTs P k H' ts us
  | [], vs, ds, ps, μ, H, _, h, _, hr, ho => by
    cases vs with
    | nil => exact ⟨μ, H, [], Grows.refl, hr, ho, rfl, rfl⟩
    | cons v vs => simp [DataW.TrodAll] at h
  | t :: ts, vs, ds, ps, μ, H, hp, h, hv, hr, ho => by
    cases vs with
    | nil => simp [DataW.TrodAll] at h
    | cons v vs =>
      cases ds with
      | nil => simp [DataW.TrodAll] at h
      | cons d ds =>
        obtain ⟨p, q, ⟨fuel, h1⟩, h2, _⟩ := h
        simp only [List.all_cons, Bool.and_eq_true] at hp
        obtain ⟨μ1, H1, us, g1, r1, o1, v1, n1, l1, t1⟩ := got k t hp.1 fuel _ _ _ h1 μ H hr ho
        obtain ⟨μ2, H2, us2, g2, r2, o2, v2, t2⟩ := got_all ts vs ds q μ1 H1 hp.2 h2 (fun j t v a b => hv (j + 1) t v (by simpa using a) (by simpa using b)) r1 o1
        obtain ⟨b, hw⟩ := hv 0 t v (by simp) (by simp)
        refine ⟨μ2, H2, argV P t us :: us2, g1.trans g2, r2, o2, ?_, us, us2, rfl, WT.mono g2.n g2.get _ _ _ t1, t2⟩
        simp only [VRels]
        exact ⟨v, vs, rfl, VRel.mono g2.le _ _ (argV_rel v1 hw hp.1), v2⟩

theorem Rel.start (w : World) : Rel w.heap.size w (fun _ => none) ⟨0, .nil⟩ w :=
  ⟨Below.refl _ _, Nat.le_refl _, fun i L h => (by cases h), fun i L h => (by cases h), fun i j L M h => (by cases h), fun i _ => by simp [Heap.get, T.get]⟩

/-- A law that gives true on the abstract machine, whatever its arguments, gives true; nothing that was there turns. -/
theorem law_calls {C : Cfg} (ok : C.Ok) {f : FuncId} {k : Nat} {ts : List TypeId} {args : Array Value} {ds : List (DataW T)} {ps : List MemPlace} {W : World}
    (hp : ts.all (fun t => plainT C.P k t) = true) (hA : DataW.TrodAll enc C.P W 0 (fun _ => true) true ts args.toList ds ps)
    (hv : ∀ (j : Nat) t v, ts[j]? = some t → args.toList[j]? = some v → ∃ b, Value.okWide C.P W .any b t v)
    (hent : (callFunc f args).run C.P W = .ok (.enter f args) W)
    (hlaw : ∀ (H : Heap) (us : List V), WTs C.P k H ts us → ∃ n H', callA C n f us H = some (.bool true, H')) :
    Calls C.P f args W (fun e W' => e = .returned (.bool true) ∧ Below W.heap.size W W') := by
  obtain ⟨μ, H, us, _, hr, _, hvs, hwt⟩ := got_all (P := C.P) (B := W.heap.size) (w0 := W) (w := W) ts args.toList ds ps _ _ hp hA hv (Rel.start W) (by intro j M h; cases h)
  obtain ⟨n, H', hc⟩ := hlaw H us hwt
  have := callA_sound ok n f us H _ H' hc W.heap.size 0 W W μ args hr (Nat.zero_le _) hvs
  rw [hent] at this
  simp only [Gives] at this
  refine this.mono fun e w' ⟨x, he, μ', s, hx⟩ => ?_
  simp only [VRel] at hx
  subst hx
  exact ⟨he, s.rel.below⟩
end
end Go.AM
end

section
set_option linter.unusedVariables false
set_option linter.unusedSimpArgs false
/- Arguments that are fractions and numbers, as the law's function gets them. -/
set_option linter.unusedSimpArgs false
set_option linter.unusedVariables false
namespace Go.AM

/-- A type of slices of 32-bit numbers. -/
def isNatT (P : Program) (t : TypeId) : Bool := match P.underlying t with
  | some (.slice e) => (P.cellsOf e == 1) && (match P.underlying e with | some (.int .u32) => true | _ => false)
  | _ => false
def isBoolT (P : Program) (t : TypeId) : Bool := match P.underlying t with
  | some .bool => true
  | _ => false
def isI64T (P : Program) (t : TypeId) : Bool := match P.underlying t with
  | some (.int .i64) => true
  | _ => false
/-- A whole number: its sign, its digits. -/
def isIntT (P : Program) (t : TypeId) : Bool := match P.underlying t with
  | some (.struct fs) => match fs.toList with
    | [f, g] => (f.offset == 0) && (g.offset == 1) && (P.cellsOf f.type == 1) && (P.cellsOf g.type == 1) && (P.cellsOf t == 2) && isBoolT P f.type && isNatT P g.type
    | _ => false
  | _ => false
/-- A fraction. -/
def isRatT (P : Program) (t : TypeId) : Bool := match P.underlying t with
  | some (.struct fs) => match fs.toList with
    | [f, g] => (f.offset == 0) && (g.offset == 2) && (P.cellsOf f.type == 2) && (P.cellsOf g.type == 1) && (P.cellsOf t == 3) && isIntT P f.type && isNatT P g.type
    | _ => false
  | _ => false

theorem all_nums : ∀ (xs : List V), (∀ j, j < xs.length → ∃ n : Nat, (xs.drop j).take 1 = [.int .u32 n] ∧ n < 4294967296) → ∃ l, xs = nums .u32 l ∧ Lim 4294967296 l
  | [], _ => ⟨[], rfl, fun x h => (by cases h)⟩
  | x :: xs, h => by
    obtain ⟨n, h1, h2⟩ := h 0 (by simp)
    obtain ⟨l, e, hl⟩ := all_nums xs fun j hj => by
      have := h (j + 1) (by simp; omega)
      simpa using this
    refine ⟨n :: l, ?_, ?_⟩
    · simp at h1; simp [h1, e]
    · intro y hy
      rcases List.mem_cons.1 hy with rfl | hy
      · exact h2
      · exact hl y hy

theorem WT.nat {P : Program} {k : Nat} {t : TypeId} {cs : List V} {H : Heap} (ht : isNatT P t = true) (h : WT P (k + 2) t cs H) : ∃ s l, cs = [.slice s] ∧ Row H .u32 s l ∧ Lim 4294967296 l := by
  unfold isNatT at ht
  unfold WT at h
  split at ht
  · rename_i e hu
    simp only [hu] at h
    simp only [Bool.and_eq_true, beq_iff_eq] at ht
    obtain ⟨hc, hk⟩ := ht
    rw [hc] at h
    rcases h with rfl | ⟨i, len, full, rfl, h1, h2, h3⟩
    · exact ⟨_, [], rfl, Row.nil, fun x h => (by cases h)⟩
    · split at hk
      · rename_i hu2
        by_cases h0 : len = 0
        · subst h0
          exact ⟨_, [], rfl, ⟨rfl, fun b o e => by simp at e; exact ⟨by rw [← e.1]; exact h1, rfl⟩, fun h => (h rfl).elim⟩, fun x h => (by cases h)⟩
        · obtain ⟨el, xs, g, hl, hx⟩ := h3 h0
          obtain ⟨l, e, hL⟩ := all_nums xs fun j hj => by
            have := hx j (by omega)
            unfold WT at this
            simp only [hu2, Nat.mul_one] at this
            obtain ⟨n, e, w⟩ := this
            have w' : 0 ≤ n ∧ n < 4294967296 := by
              simp only [Lit.wf, Bool.and_eq_true, decide_eq_true_eq] at w
              have a1 : IntKind.u32.min = 0 := by decide
              have a2 : IntKind.u32.max = 4294967295 := by decide
              omega
            exact ⟨n.toNat, by rw [e]; congr 2; omega, by omega⟩
          subst e
          have hl' : len = l.length := by simpa using hl.symm
          refine ⟨_, l, rfl, ⟨hl', fun b o e => by simp at e; exact ⟨by rw [← e.1]; exact h1, rfl⟩, fun hn => ⟨i, 0, _, el, true, rfl, g, by simp, by rw [List.drop_zero, show l.length = (nums .u32 l).length by simp, List.take_length]⟩⟩, hL⟩
      · cases hk
  · cases ht

theorem len2 {cs : List V} {a b : V} (h : cs.length = 2) (h1 : (cs.drop 0).take 1 = [a]) (h2 : (cs.drop 1).take 1 = [b]) : cs = [a, b] := by
  match cs, h with
  | [x, y], _ => simp at h1 h2; simp [h1, h2]
theorem len3 {cs : List V} {a b c : V} (h : cs.length = 3) (h1 : (cs.drop 0).take 2 = [a, b]) (h2 : (cs.drop 2).take 1 = [c]) : cs = [a, b, c] := by
  match cs, h with
  | [x, y, z], _ => simp at h1 h2; simp [h1, h2]

theorem WT.bool {P : Program} {k : Nat} {t : TypeId} {cs : List V} {H : Heap} (ht : isBoolT P t = true) (h : WT P (k + 1) t cs H) : ∃ b, cs = [.bool b] := by
  unfold isBoolT at ht
  unfold WT at h
  split at ht
  · rename_i hu
    simp only [hu] at h
    exact h
  · cases ht

theorem WT.i64 {P : Program} {k : Nat} {t : TypeId} {cs : List V} {H : Heap} (ht : isI64T P t = true) (h : WT P (k + 1) t cs H) : ∃ n, cs = [.int .i64 n] := by
  unfold isI64T at ht
  unfold WT at h
  split at ht
  · rename_i hu
    simp only [hu] at h
    obtain ⟨n, e, -⟩ := h
    exact ⟨n, e⟩
  · cases ht

theorem WT.whole {P : Program} {k : Nat} {t : TypeId} {cs : List V} {H : Heap} (ht : isIntT P t = true) (h : WT P (k + 3) t cs H) : ∃ b s l, cs = [.bool b, .slice s] ∧ Row H .u32 s l ∧ Lim 4294967296 l := by
  unfold isIntT at ht
  unfold WT at h
  split at ht
  · rename_i fs hu
    simp only [hu] at h
    split at ht
    · rename_i f g hfs
      simp only [Bool.and_eq_true, beq_iff_eq] at ht
      obtain ⟨⟨⟨⟨⟨⟨a1, a2⟩, a3⟩, a4⟩, a5⟩, a6⟩, a7⟩ := ht
      rw [hfs] at h
      obtain ⟨hl, hf⟩ := h
      have w1 := hf f (by simp)
      have w2 := hf g (by simp)
      rw [a1, a3] at w1
      rw [a2, a4] at w2
      obtain ⟨b, e1⟩ := WT.bool a6 w1
      obtain ⟨s, l, e2, r, L⟩ := WT.nat a7 w2
      exact ⟨b, s, l, len2 (by omega) e1 e2, r, L⟩
    · cases ht
  · cases ht

theorem WT.rat {P : Program} {k : Nat} {t : TypeId} {cs : List V} {H : Heap} (ht : isRatT P t = true) (h : WT P (k + 4) t cs H) : ∃ n d N, rawR H (argV P t cs) n d N := by
  have hag : argV P t cs = .agg cs := by
    unfold isRatT at ht
    unfold argV
    split at ht
    · rename_i fs hu; simp only [hu]
    · cases ht
  rw [hag]
  unfold isRatT at ht
  unfold WT at h
  split at ht
  · rename_i fs hu
    simp only [hu] at h
    split at ht
    · rename_i f g hfs
      simp only [Bool.and_eq_true, beq_iff_eq] at ht
      obtain ⟨⟨⟨⟨⟨⟨a1, a2⟩, a3⟩, a4⟩, a5⟩, a6⟩, a7⟩ := ht
      rw [hfs] at h
      obtain ⟨hl, hf⟩ := h
      have w1 := hf f (by simp)
      have w2 := hf g (by simp)
      rw [a1, a3] at w1
      rw [a2, a4] at w2
      obtain ⟨b, s, l, e1, r, L⟩ := WT.whole a6 w1
      obtain ⟨s', l', e2, r', L'⟩ := WT.nat a7 w2
      exact ⟨_, _, max l.length l'.length, b, s, s', l, l', by rw [len3 (by omega) e1 e2], r, r', L, L', by omega, by omega, rfl, rfl⟩
    · cases ht
  · cases ht

theorem args_ri {P : Program} {t u : TypeId} (ht : isRatT P t = true) (hu : isI64T P u = true) {H : Heap} {us : List V} (h : WTs P 8 H [t, u] us) : ∃ v m n d N, us = [v, .int .i64 m] ∧ rawR H v n d N := by
  obtain ⟨cs, us', rfl, w1, cs2, us2, rfl, w2, rfl⟩ := h
  obtain ⟨n, d, N, r⟩ := WT.rat (k := 4) ht w1
  obtain ⟨m, e⟩ := WT.i64 (k := 7) hu w2
  have hi : argV P u cs2 = .int .i64 m := by
    subst e
    unfold isI64T at hu
    unfold argV
    split at hu
    · rename_i hx; simp only [hx]; rfl
    · cases hu
  exact ⟨_, m, n, d, N, by rw [hi], r⟩

/-- SvgDecimals gives true on the machine, whatever its arguments. -/
theorem decimals_all {t u : TypeId} (ht : isRatT P t = true) (hu : isI64T P u = true) (H : Heap) (us : List V) (h : WTs P 8 H [t, u] us) : ∃ n H', callA C n 3 us H = some (.bool true, H') := by
  obtain ⟨v, m, n, d, N, rfl, r⟩ := args_ri ht hu h
  obtain ⟨u, H', rfl, n0, h2⟩ := law_decimals (places := m) r
  refine ⟨n0, H', ?_⟩
  rw [← h2 n0 (Nat.le_refl _)]
  unfold f_law40_SvgDecimals
  exact (Eq.refl _).trans (Eq.refl _)
end Go.AM
end

section
set_option linter.unusedVariables false
set_option linter.unusedSimpArgs false
/- SvgNear gives true on the machine, whatever its arguments. -/
set_option linter.unusedSimpArgs false
set_option linter.unusedVariables false
namespace Go.AM
def isU8T (P : Program) (t : TypeId) : Bool := match P.underlying t with
  | some (.int .u8) => true
  | _ => false
theorem WT.u8 {P : Program} {k : Nat} {t : TypeId} {cs : List V} {H : Heap} (ht : isU8T P t = true) (h : WT P (k + 1) t cs H) : ∃ n, cs = [.int .u8 n] ∧ 0 ≤ n ∧ n ≤ 255 := by
  unfold isU8T at ht
  unfold WT at h
  split at ht
  · rename_i hu
    simp only [hu] at h
    obtain ⟨n, e, w⟩ := h
    refine ⟨n, e, ?_⟩
    simp only [Lit.wf, Bool.and_eq_true, decide_eq_true_eq] at w
    have a1 : IntKind.u8.min = 0 := by decide
    have a2 : IntKind.u8.max = 255 := by decide
    omega
  · cases ht
theorem args_ru {P : Program} {t u : TypeId} (ht : isRatT P t = true) (hu : isU8T P u = true) {H : Heap} {us : List V} (h : WTs P 8 H [t, u] us) : ∃ v m n d N, us = [v, .int .u8 m] ∧ rawR H v n d N ∧ 0 ≤ m ∧ m ≤ 255 := by
  obtain ⟨cs, us', rfl, w1, cs2, us2, rfl, w2, rfl⟩ := h
  obtain ⟨n, d, N, r⟩ := WT.rat (k := 4) ht w1
  obtain ⟨m, e, hm⟩ := WT.u8 (k := 7) hu w2
  have hi : argV P u cs2 = .int .u8 m := by
    subst e
    unfold isU8T at hu
    unfold argV
    split at hu
    · rename_i hx; simp only [hx]; rfl
    · cases hu
  exact ⟨_, m, n, d, N, by rw [hi], r, hm⟩
theorem near_all {t u : TypeId} (ht : isRatT P t = true) (hu : isU8T P u = true) (H : Heap) (us : List V) (h : WTs P 8 H [t, u] us) : ∃ n H', callA C n 4 us H = some (.bool true, H') := by
  obtain ⟨v, m, n, d, N, rfl, r, hm⟩ := args_ru ht hu h
  obtain ⟨u, H', rfl, n0, h2⟩ := law_near r hm
  refine ⟨n0, H', ?_⟩
  rw [← h2 n0 (Nat.le_refl _)]
  unfold f_law40_SvgNear
  exact (Eq.refl _).trans (Eq.refl _)
end Go.AM
end

section
set_option linter.unusedVariables false
set_option linter.unusedSimpArgs false
/- This seat's machine is sound, but for its library functions. -/
set_option maxRecDepth 1000000
namespace Go.AM
theorem look_mem {α : Type} {f : Nat} {t : α} : ∀ {l : List (Nat × α)}, l.lookup f = some t → (f, t) ∈ l
  | [], h => by cases h
  | (a, b) :: l, h => by
    rw [List.lookup_cons] at h
    split at h
    · rename_i he
      have : f = a := by simpa using he
      simp at h; subst h; subst this; exact List.mem_cons_self
    · exact List.mem_cons_of_mem _ (look_mem h)
theorem seat_mixed : P.follows .mixedOrders = true := by kernel_rfl
theorem seat_fns1 : tabList.all (fun p => okFun P p.1) = true := by kernel_rfl
theorem seat_fns : ∀ f tab, C.tabs f = some tab → okFun C.P f = true := fun f tab h => List.all_eq_true.1 seat_fns1 (f, tab) (look_mem h)
end Go.AM
end

section
set_option linter.unusedVariables false
set_option linter.unusedSimpArgs false
/- strings.Repeat on the machine: by its contract. -/
namespace Go.Proofs
open Go.Shelf Go.RowKit
def Try.laysRepeat_ren : Go.Shelf.Ren := ⟨fun | 105 => 40 | 212 => 58 | 99 => 59 | 165 => 60 | 166 => 61 | 170 => 62 | 169 => 63 | 263 => 76 | 264 => 77 | 206 => 78 | 240 => 79 | 241 => 80 | 276 => 85 | 277 => 86 | n => n, fun | 9 => 9 | 3 => 3 | 4 => 4 | 20 => 20 | 0 => 0 | 46 => 59 | 109 => 84 | 5 => 5 | 72 => 90 | 76 => 94 | 51 => 50 | 146 => 103 | 53 => 58 | 148 => 105 | 70 => 87 | 37 => 88 | 75 => 93 | 127 => 107 | 164 => 115 | 80 => 97 | n => n, fun | n => n⟩
theorem Try.laysRepeat : Go.Proofs.Lays.n105 Try.prog Try.laysRepeat_ren := {
  mixed := by kernel_rfl
  f99 := Try.func59.trans (congrArg some (by kernel_rfl))
  f105 := Try.func40.trans (congrArg some (by kernel_rfl))
  f165 := Try.func60.trans (congrArg some (by kernel_rfl))
  f166 := Try.func61.trans (congrArg some (by kernel_rfl))
  f169 := Try.func63.trans (congrArg some (by kernel_rfl))
  f170 := Try.func62.trans (congrArg some (by kernel_rfl))
  f206 := Try.func78.trans (congrArg some (by kernel_rfl))
  f212 := Try.func58.trans (congrArg some (by kernel_rfl))
  f240 := Try.func79.trans (congrArg some (by kernel_rfl))
  f241 := Try.func80.trans (congrArg some (by kernel_rfl))
  f263 := Try.func76.trans (congrArg some (by kernel_rfl))
  f264 := Try.func77.trans (congrArg some (by kernel_rfl))
  f276 := Try.func85.trans (congrArg some (by kernel_rfl))
  f277 := Try.func86.trans (congrArg some (by kernel_rfl))
  t0 := Try.underlying0
  a0 := Try.isAgg0
  z0 := Try.sizeOf0
  v0 := Try.zeroValue0
  t3 := Try.underlying3
  a3 := Try.isAgg3
  z3 := Try.sizeOf3
  v3 := Try.zeroValue3
  t4 := Try.underlying4
  a4 := Try.isAgg4
  z4 := Try.sizeOf4
  v4 := Try.zeroValue4
  t5 := Try.underlying5
  a5 := Try.isAgg5
  z5 := Try.sizeOf5
  v5 := Try.zeroValue5
  t9 := Try.underlying9
  a9 := Try.isAgg9
  z9 := Try.sizeOf9
  v9 := Try.zeroValue9
  t20 := Try.underlying20
  a20 := Try.isAgg20
  z20 := Try.sizeOf20
  v20 := Try.zeroValue20
  t37 := Try.underlying88
  a37 := Try.isAgg88
  z37 := Try.sizeOf88
  v37 := Try.zeroValue88
  t46 := Try.underlying59
  a46 := Try.isAgg59
  z46 := Try.sizeOf59
  v46 := Try.zeroValue59
  t51 := Try.underlying50
  a51 := Try.isAgg50
  z51 := Try.sizeOf50
  v51 := Try.zeroValue50
  t53 := Try.underlying58
  a53 := Try.isAgg58
  z53 := Try.sizeOf58
  v53 := Try.zeroValue58
  t70 := Try.underlying87
  a70 := Try.isAgg87
  z70 := Try.sizeOf87
  v70 := Try.zeroValue87
  t72 := Try.underlying90
  a72 := Try.isAgg90
  z72 := Try.sizeOf90
  v72 := Try.zeroValue90
  t75 := Try.underlying93
  a75 := Try.isAgg93
  z75 := Try.sizeOf93
  v75 := Try.zeroValue93
  t76 := Try.underlying94
  a76 := Try.isAgg94
  z76 := Try.sizeOf94
  v76 := Try.zeroValue94
  t109 := Try.underlying84
  a109 := Try.isAgg84
  z109 := Try.sizeOf84
  v109 := Try.zeroValue84
  t127 := Try.underlying107
  a127 := Try.isAgg107
  z127 := Try.sizeOf107
  v127 := Try.zeroValue107
  t146 := Try.underlying103
  a146 := Try.isAgg103
  z146 := Try.sizeOf103
  v146 := Try.zeroValue103
  t148 := Try.underlying105
  a148 := Try.isAgg105
  z148 := Try.sizeOf105
  v148 := Try.zeroValue105
  t164 := Try.underlying115
  a164 := Try.isAgg115
  z164 := Try.sizeOf115
  v164 := Try.zeroValue115 }
theorem Try.extra : Builder.Extra Try.prog Try.laysRepeat_ren where
  sizeBuilder := by kernel_rfl
  liesBuilder := by kernel_rfl
  t5 := Try.laysRepeat.t5
  a5 := Try.laysRepeat.a5
  z5 := Try.laysRepeat.z5
  v5 := Try.laysRepeat.v5
  infoByte := by kernel_rfl
  cellsByte := by kernel_rfl
  sizeByte := by kernel_rfl
  neB5 := by decide
theorem Try.fRepeat : Try.laysRepeat_ren.f 105 = 40 := by kernel_rfl
end Go.Proofs
namespace Go.AM
open Go.RowKit (Below)
open Go.Shelf
def hasBody (P : Program) (f : FuncId) : Bool := match P.funcs[f]? with
  | some fn => fn.body.isSome && !(fn.name == "runtime.NumGoroutine")
  | none => false
theorem enter_run {P : Program} {f : FuncId} {xs : Array Value} {w : World} (h : hasBody P f = true) : (callFunc f xs).run P w = .ok (.enter f xs) w := by
  unfold hasBody at h
  split at h
  · rename_i fn hfn
    simp only [Bool.and_eq_true, Bool.not_eq_true'] at h
    obtain ⟨h1, h2⟩ := h
    obtain ⟨c, hc⟩ := Option.isSome_iff_exists.1 h1
    have hne : ¬ fn.name = "runtime.NumGoroutine" := by simpa using h2
    simp [callFunc, hfn, hc, hne]
  · cases h

theorem Rel.grow {B : Nat} {w0 w w' : World} {μ : Mu} {H : Heap} (hr : Rel B w0 μ H w) (hb : Below w.heap.size w w') : Rel B w0 μ H w' := by
  have hs := hr.size
  refine ⟨hr.below.trans ⟨hb.os, hb.tape, hb.output, hb.size, fun k hk => hb.block k (by omega)⟩, Nat.le_trans hr.size hb.size, fun i L e => ⟨(hr.dom i L e).1, fun hl => Nat.lt_of_lt_of_le ((hr.dom i L e).2 hl) hb.size⟩, ?_, hr.sep, hr.clean⟩
  intro i L e
  have h1 := hr.objs i L e
  have h2 := (hr.dom i L e).2
  cases ho : H.get i with
  | none => trivial
  | _ =>
    rw [ho] at h1 h2
    exact h1.mono (Mu.le_refl _) (hb.block _ (h2 rfl))

theorem Step.grow {B n0 : Nat} {w0 w w' : World} {μ : Mu} {H : Heap} (hr : Rel B w0 μ H w) (hb : Below w.heap.size w w') : Step B w0 n0 μ H w μ H w' :=
  ⟨Mu.le_refl _, hr.grow hb, Nat.le_refl _, hb.size, fun b h _ => hb.block b h, fun _ _ h => .inl h⟩

theorem repS_lib {s : List UInt8} : ∀ {n : Nat}, repS s n = Lib.repeatL s n
  | 0 => rfl
  | n + 1 => by simp only [repS, Lib.repeatL, repS_lib (n := n)]

theorem repeat_body : hasBody P 40 = true := by kernel_rfl

theorem repeat_sound : ExtSound P 40 ext_strings_Repeat ∧ ExtFrame ext_strings_Repeat := by
  constructor
  · intro args H v H' h B n0 w0 w μ xs hr hn hv
    unfold ext_strings_Repeat at h
    split at h
    · rename_i s n
      split at h
      · rename_i hc
        simp at h
        obtain ⟨rfl, rfl⟩ := h
        obtain ⟨h0, h1, h2⟩ := hc
        obtain ⟨c, rfl⟩ : ∃ c : Nat, n = (c : Int) := ⟨n.toNat, by omega⟩
        have hx : xs = #[.string ⟨s.toArray⟩, .int .i64 c] := by
          rcases xs with ⟨l⟩
          simp only [VRels] at hv
          obtain ⟨x, ys, e, a, y, zs, e2, b, e3⟩ := hv
          simp only [VRel] at a b
          subst a b e2 e3
          simpa using e
        subst hx
        rw [enter_run repeat_body]
        simp only [Gives]
        have hsz : (ByteArray.mk s.toArray).size = s.length := by simp [ByteArray.size]
        have hm : (ByteArray.mk s.toArray).size * c ≤ 140737488355328 := by
          rw [hsz]
          have : s.length * c ≤ 8 * 64 := Nat.mul_le_mul h2 (by omega)
          omega
        have := Go.Proofs.Any.strings_Repeat Go.Proofs.Try.laysRepeat Go.Proofs.Try.extra ⟨s.toArray⟩ c w (by omega) hm
        rw [Go.Proofs.Try.fRepeat] at this
        refine this.mono fun e w' ⟨he, hb⟩ => ⟨_, he, μ, Step.grow hr hb, ?_⟩
        simp only [VRel, Int.toNat_natCast, repS_lib]
      · cases h
    · cases h
  · intro args H v H' X G h e
    unfold ext_strings_Repeat at h ⊢
    split at h
    · split at h
      · rename_i hc
        simp at h
        obtain ⟨rfl, rfl⟩ := h
        exact ⟨G, by simp only [if_pos hc], e⟩
      · cases h
    · cases h

theorem seat_ok : C.Ok := ⟨seat_mixed, seat_fns, fun f g h => by
  have := look_mem h
  simp at this
  obtain ⟨rfl, rfl⟩ := this
  exact repeat_sound⟩
end Go.AM
end
