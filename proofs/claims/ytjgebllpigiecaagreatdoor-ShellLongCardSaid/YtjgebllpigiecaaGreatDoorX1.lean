/- Merged by program from: LrG LrH AmBase AmPrim AmExec AmTot AmVal AmVal2 AmVal3 AmVal4 AmVal5 AmVal6. -/
import Derived.Test.YtjgebllpigiecaaGreatDoorRows
import Derived.WalkKit
import Derived.ProofKit
import Derived.OpenShut
import Derived.ChangeOld
import Derived.Below
import Derived.SizedLaws
import Derived.LaidMore
import Derived.Stop.Joined
import Derived.SevenTiedAt
import Derived.Test.YtjgebllpigiecaaGreatDoorTie
import Derived.Test.YtjgebllpigiecaaGreatDoorCards
import Derived.Orders
import Derived.KernelRfl
import Derived.Laws.Cells
import Derived.Laws.Append
import Derived.Laws.Strings
import Derived.Laws.StructEq
import Derived.ChangeKeysEq
import Derived.Laws.Tables
import Derived.Laws.BytesArg
import Derived.Lib.Builder
import Derived.Lib.UnsafeStr
import Derived.Test.YtjgebllpigiecaaGreatDoorX0
section
set_option linter.unusedVariables false
set_option linter.unusedSimpArgs false
namespace Go.Proofs.YtjgebllpigiecaaGreatDoor
namespace shellLong
open Go.ChangeShapes Go.WideShapes Go.ChangeAt Go.RowKit
set_option linter.unusedVariables false
theorem jf0 : (Rows.shellLongRow.wf (OpenSpec.ofChange Rows.shellLongSpec)) = true := by kernel_rfl
theorem jf3 : (Tryz.f3.params.all (Tryz.pinned.checked.prog.readableRec ·)) = true := by kernel_rfl
theorem jf4 : (namedTie Tryz.pinned.checked.prog Rows.shellLongRow.named Rows.shellLongSpec.vars) = true := by kernel_rfl
theorem jf5 : ((Rows.shellLongRow.stops == [])) = true := by kernel_rfl
theorem jf6 : ((Tryz.pinned.checked.prog.stops == [])) = true := by kernel_rfl
theorem jf7 : ((Rows.shellLongRow.knobs == [])) = true := by kernel_rfl
theorem jf8 : ((Tryz.pinned.checked.prog.stopKnobs == [])) = true := by kernel_rfl
theorem jf13 : ((Rows.shellLongRow.maps == (Tryz.f3.params.toList ++ Rows.shellLongSpec.plain.varTypes Tryz.pinned.checked.prog).any (Tryz.pinned.checked.prog.mapsRec ·))) = true := by kernel_rfl
theorem jf14 : ((Rows.shellLongRow.ifaces == (Tryz.f3.params.toList ++ Rows.shellLongSpec.plain.varTypes Tryz.pinned.checked.prog).any (Tryz.pinned.checked.prog.ifacesRec ·))) = true := by kernel_rfl
theorem jf15 : ((Rows.shellLongRow.mapsOut == Tryz.pinned.checked.prog.mapsAmong Tryz.f3.resultTypes.toList)) = true := by kernel_rfl
theorem jf16 : ((Rows.shellLongRow.loops == (Tryz.f3.params.toList ++ Rows.shellLongSpec.plain.varTypes Tryz.pinned.checked.prog).any (Tryz.pinned.checked.prog.loopsFrom ·))) = true := by kernel_rfl
theorem jf17 : ((Rows.shellLongRow.wideKeys == (Tryz.f3.params.toList ++ Rows.shellLongSpec.plain.varTypes Tryz.pinned.checked.prog ++ Tryz.f3.resultTypes.toList).any (Tryz.pinned.checked.prog.wideKeysFrom ·))) = true := by kernel_rfl
theorem jf18 : (Rows.shellLongSpec.vars.all (Tryz.pinned.checked.prog.varReadable ·)) = true := by kernel_rfl
theorem jf19 : (Tryz.f3.resultTypes.all (fun t => Tryz.pinned.checked.prog.readableRec t && decide (t < Tryz.pinned.checked.prog.types.size))) = true := by kernel_rfl
theorem jf20 : ((Rows.shellLongRow.ifacesOut == Tryz.f3.resultTypes.toList.any (Tryz.pinned.checked.prog.ifacesRec ·))) = true := by kernel_rfl
theorem jf21 : ((Rows.shellLongRow.loopsOut == Tryz.f3.resultTypes.toList.any (Tryz.pinned.checked.prog.loopsFrom ·))) = true := by kernel_rfl
theorem jf22 : ((Rows.shellLongRow.plainKeys == Tryz.pinned.checked.prog.plainKeys)) = true := by kernel_rfl
theorem jf23 : (Rows.shellLongRow.shortTexts.isNone) = true := by kernel_rfl
theorem jf26 : ((Rows.shellLongRow.lifted == Tryz.pinned.checked.prog.liftsFinal)) = true := by kernel_rfl
theorem jf27 : ((Tryz.pinned.checked.prog.make == some Rows.shellLongRow.make)) = true := by kernel_rfl
theorem facts : joinedFacts Tryz.pinned.checked.prog 3 Tryz.f3 Rows.shellLongSpec Rows.shellLongRow = true := by
  unfold joinedFacts
  rw [jf0, jf1, jf2, jf3, jf4, jf5, jf6, jf7, jf8, jf9, jf10, jf11, jf12, jf13, jf14, jf15, jf16, jf17, jf18, jf19, jf20, jf21, jf22, jf23, jf24, jf25, jf26, jf27]
  kernel_rfl
end shellLong
end Go.Proofs.YtjgebllpigiecaaGreatDoor
end
section
set_option linter.unusedVariables false
set_option linter.unusedSimpArgs false
namespace Go.Proofs.YtjgebllpigiecaaGreatDoor
namespace shellLong
open Go.ChangeShapes Go.WideShapes Go.ChangeAt Go.RowKit
set_option linter.unusedVariables false
theorem cw : Rows.shellLongRow.wfByText (OpenSpec.ofChange Rows.shellLongSpec) = true := by kernel_rfl
theorem cm : Tryz.pinned.checked.prog.mainIs = some (true, "2cbe9f196435bd0fafa737375609980b6500a27f8df69a7b271ee0b875038830".toList) := by kernel_rfl
theorem ck : true = Tryz.pinned.checked.prog.looks [] := by kernel_rfl
theorem cf : Tryz.prog.funcNamed "zellige/zelligelaw30.ShellLong" = some 3 := by kernel_rfl
theorem cs : ([22, 5].all fun u => !Tryz.prog.wantsStandIn u) = true := by kernel_rfl
theorem noGo : Tryz.pinned.checked.prog.funcs.all (fun fn => !fn.goes) = true := by kernel_rfl
theorem goes_none {P : Program} (h : P.funcs.all (fun fn => !fn.goes) = true) (f : FuncId) : P.goes f = false := by
  have h1 : ∀ (g : Nat) fn, P.funcs[g]? = some fn → fn.goes = false := by
    intro g fn hg
    have := (Array.all_eq_true_iff_forall_mem.1 h) fn (Array.mem_of_getElem? hg)
    simpa using this
  have h2 : ((P.closure f).any fun g => (P.funcs[g]?).any Func.goes) = false := by
    rw [List.any_eq_false]
    intro g _
    cases hg : P.funcs[g]? with
    | none => simp
    | some fn => simp [h1 g fn hg]
  have h3 : P.funcs.any Func.goes = false := by
    rw [Array.any_eq_false']
    intro fn hfn
    have := (Array.all_eq_true_iff_forall_mem.1 h) fn hfn
    simpa using this
  unfold Program.goes
  rw [h2, h3]
  simp
theorem cg : false = Rows.shellLongRow.goesBy Tryz.pinned.checked.prog := by
  unfold OpenClaim.goesBy Program.goesAt Program.goesFrom
  rw [show Tryz.pinned.checked.prog.funcNamed Rows.shellLongRow.func = some 3 from cf, Option.any_some, goes_none noGo]
  rfl
end shellLong
end Go.Proofs.YtjgebllpigiecaaGreatDoor
end
section
set_option linter.unusedVariables false
set_option linter.unusedSimpArgs false
namespace Go.AM
open Go.RowKit (Below)
structure Sl where
  ad : Option (Nat × Nat)
  len : Nat
  esz : Nat
  full : Bool
inductive V where
  | dead
  | bool (b : Bool)
  | int (k : IntKind) (n : Int)
  | str (s : List UInt8)
  | ptr (a : Option (Nat × Nat))
  | slice (s : Sl)
  | map (r : Option Nat)
  | func (fn : Fn) (first captured : List V)
  | nilFunc
  | iface (t : TypeId) (v : V)
  | nilIface
  | agg (cs : List V)
  | tuple (vs : List V)
  | list (n esz : Nat) (cs : List V)
  | lptr (cs : List V)
  | yld (j : Nat)
structure ME where
  key : V
  val : V
  born : Nat
inductive O where
  | none
  | cells (cs : List V) (elem : TypeId) (ro : Bool)
  | map (es : List ME) (clock : Nat)
  | siter (s : List UInt8) (pos : Nat)
  | miter (m : Option Nat) (since : Nat) (seen : List Nat) (last : Nat)
  | loop (N : Nat) (st : LoopState) (pend : Option Code) (tab : List (Nat × List Nat)) (env : List (Nat × V)) (ps : List Nat) (a b : Code)
abbrev Env := List (Nat × V)
abbrev lk (t : Nat) : Env → V
  | [] => .dead
  | (u, v) :: e => if t = u then v else lk t e
inductive T where
  | nil
  | node (l : T) (o : O) (r : T)
def T.get : T → Nat → O
  | .nil, _ => .none
  | .node l o r, i => if i = 0 then o else if i % 2 = 1 then l.get (i / 2) else r.get (i / 2 - 1)
def T.setF : Nat → T → Nat → O → T
  | 0, t, _, _ => t
  | f + 1, .nil, i, o => if i = 0 then .node .nil o .nil else if i % 2 = 1 then .node (T.setF f .nil (i / 2) o) .none .nil else .node .nil .none (T.setF f .nil (i / 2 - 1) o)
  | f + 1, .node l x r, i, o => if i = 0 then .node l o r else if i % 2 = 1 then .node (T.setF f l (i / 2) o) x r else .node l x (T.setF f r (i / 2 - 1) o)
theorem T.get_setF (f : Nat) : ∀ (t : T) (i j : Nat) (o : O), i < f → (T.setF f t i o).get j = if j = i then o else t.get j := by
  induction f with
  | zero => intro t i j o h; omega
  | succ f ih =>
    intro t i j o h
    cases t with
    | nil =>
      simp only [T.setF]
      split
      · subst_vars
        simp only [T.get]
        split <;> simp
      · split
        · simp only [T.get]
          by_cases hj : j = 0
          · subst hj; rw [if_pos rfl, if_neg (by omega)]
          · rw [if_neg hj]
            by_cases hj2 : j % 2 = 1
            · rw [if_pos hj2, ih _ _ _ _ (by omega)]
              by_cases e : j / 2 = i / 2
              · rw [if_pos e, if_pos (by omega)]
              · rw [if_neg e, if_neg (by omega)]; rfl
            · rw [if_neg hj2, if_neg (by omega)]
        · simp only [T.get]
          by_cases hj : j = 0
          · subst hj; rw [if_pos rfl, if_neg (by omega)]
          · rw [if_neg hj]
            by_cases hj2 : j % 2 = 1
            · rw [if_pos hj2, if_neg (by omega)]
            · rw [if_neg hj2, ih _ _ _ _ (by omega)]
              by_cases e : j / 2 - 1 = i / 2 - 1
              · rw [if_pos e, if_pos (by omega)]
              · rw [if_neg e, if_neg (by omega)]; rfl
    | node l x r =>
      simp only [T.setF]
      split
      · subst_vars
        simp only [T.get]
        split <;> simp
      · split
        · simp only [T.get]
          by_cases hj : j = 0
          · subst hj; rw [if_pos rfl, if_neg (by omega), if_pos rfl]
          · rw [if_neg hj, if_neg hj]
            by_cases hj2 : j % 2 = 1
            · rw [if_pos hj2, if_pos hj2, ih _ _ _ _ (by omega)]
              by_cases e : j / 2 = i / 2
              · rw [if_pos e, if_pos (by omega)]
              · rw [if_neg e, if_neg (by omega)]
            · rw [if_neg hj2, if_neg hj2, if_neg (by omega)]
        · simp only [T.get]
          by_cases hj : j = 0
          · subst hj; rw [if_pos rfl, if_neg (by omega), if_pos rfl]
          · rw [if_neg hj, if_neg hj]
            by_cases hj2 : j % 2 = 1
            · rw [if_pos hj2, if_pos hj2, if_neg (by omega)]
            · rw [if_neg hj2, if_neg hj2, ih _ _ _ _ (by omega)]
              by_cases e : j / 2 - 1 = i / 2 - 1
              · rw [if_pos e, if_pos (by omega)]
              · rw [if_neg e, if_neg (by omega)]
structure Heap where
  n : Nat
  t : T
def Heap.get (H : Heap) (i : Nat) : O := H.t.get i
def Heap.set (H : Heap) (i : Nat) (o : O) : Heap := ⟨H.n, H.t.setF (i + 1) i o⟩
def Heap.push (H : Heap) (o : O) : Heap := ⟨H.n + 1, H.t.setF (H.n + 1) H.n o⟩
def Heap.more (H : Heap) (m : Nat) : Heap := ⟨H.n + m, H.t⟩
theorem Heap.get_set (H : Heap) (i j : Nat) (o : O) : (H.set i o).get j = if j = i then o else H.get j := T.get_setF _ _ _ _ _ (by omega)
theorem Heap.get_push (H : Heap) (j : Nat) (o : O) : (H.push o).get j = if j = H.n then o else H.get j := T.get_setF _ _ _ _ _ (by omega)
@[simp] theorem Heap.n_set (H : Heap) (i : Nat) (o : O) : (H.set i o).n = H.n := rfl
@[simp] theorem Heap.n_push (H : Heap) (o : O) : (H.push o).n = H.n + 1 := rfl
@[simp] theorem Heap.gmz (H : Heap) (m j : Nat) : (H.more m).get j = H.get j := rfl
@[simp] theorem Heap.n_more (H : Heap) (m : Nat) : (H.more m).n = H.n + m := rfl
structure Loc where
  b : Nat
  base : Nat
  size : Nat
structure Mu where
  f : Nat → Option Loc
  z : Nat → Option (List Value)
instance : CoeFun Mu fun _ => Nat → Option Loc := ⟨Mu.f⟩
structure Mu.le (μ ν : Mu) : Prop where
  f : ∀ i L, μ i = some L → ν i = some L
  z : ∀ b vs, μ.z b = some vs → ν.z b = some vs
theorem Mu.le_refl (μ : Mu) : μ.le μ := ⟨fun _ _ h => h, fun _ _ h => h⟩
theorem Mu.le_trans {μ ν ξ : Mu} (h : μ.le ν) (k : ν.le ξ) : μ.le ξ := ⟨fun i L e => k.f i L (h.f i L e), fun i L e => k.z i L (h.z i L e)⟩
def okFn : Fn → Bool
  | .func _ => true
  | _ => false
def V.one : V → Bool
  | .dead | .agg _ | .tuple _ | .lptr _ => false
  | _ => true
mutual
def VRel (μ : Mu) : V → Value → Prop
  | .dead, _ => True
  | .bool b, x => x = .bool b
  | .int k n, x => x = .int k n
  | .str s, x => x = .string ⟨s.toArray⟩
  | .ptr none, x => x = .pointer none
  | .ptr (some (i, o)), x => ∃ L, μ i = some L ∧ x = .pointer (some ⟨L.b, L.base + o, none⟩)
  | .slice s, x =>
    match s.ad with
    | none => s.len = 0 ∧ x = .slice none 0 0
    | some (i, o) => ∃ L a cap, μ i = some L ∧ x = .slice (some a) s.len cap ∧ s.len ≤ cap ∧ (s.full = true → cap = s.len) ∧
        (cap = 0 ∨ (a = ⟨L.b, L.base + o, none⟩ ∧ L.base + o + cap * s.esz ≤ L.size))
  | .map none, x => x = .map none
  | .map (some i), x => ∃ L, μ i = some L ∧ x = .map (some L.b)
  | .func fn first captured, x => ∃ f c, x = .func fn f c ∧ okFn fn = true ∧ VRels μ first f.toList ∧ VRels μ captured c.toList
  | .nilFunc, x => x = .nilFunc
  | .iface t v, x => ∃ y, x = .iface t y ∧ VRel μ v y
  | .nilIface, x => x = .nilIface
  | .agg cs, x => ∃ a, x = .agg a ∧ VRels μ cs a.toList
  | .tuple vs, x => ∃ a, x = .tuple a ∧ VRels μ vs a.toList
  | .list n z cs, x => (n = 0 ∧ cs = [] ∧ (x = .slice none 0 0 ∨ ∃ a cap, (cap = 0 ∨ a.spot = none) ∧ x = .slice (some a) 0 cap)) ∨
      ∃ b fz o cap, μ.z b = some fz ∧ x = .slice (some ⟨b, o, none⟩) n cap ∧ n ≤ cap ∧ o + cap * z ≤ fz.length ∧ cs.length = n * z ∧ cs.all V.one = true ∧ VRels μ cs ((fz.drop o).take (n * z))
  | .yld j, x => ∃ L, μ j = some L ∧ x = .func (.yield L.b) #[] #[]
  | .lptr cs, x => ∃ b fz o, μ.z b = some fz ∧ x = .pointer (some ⟨b, o, none⟩) ∧ cs.all V.one = true ∧ VRels μ cs ((fz.drop o).take cs.length)
def VRels (μ : Mu) : List V → List Value → Prop
  | [], xs => xs = []
  | v :: vs, xs => ∃ y ys, xs = y :: ys ∧ VRel μ v y ∧ VRels μ vs ys
end
mutual
theorem VRel.mono {μ ν : Mu} (h : μ.le ν) : ∀ (v : V) (x : Value), VRel μ v x → VRel ν v x
  | .dead, _, _ => by simp [VRel]
  | .bool b, x, k => by simpa [VRel] using k
  | .int _ n, x, k => by simpa [VRel] using k
  | .str s, x, k => by simpa [VRel] using k
  | .ptr none, x, k => by simpa [VRel] using k
  | .ptr (some (i, o)), x, k => by
    simp only [VRel] at k ⊢
    obtain ⟨L, e, r⟩ := k
    exact ⟨L, h.f _ _ e, r⟩
  | .slice s, x, k => by
    simp only [VRel] at k ⊢
    split
    · rename_i e; simpa [e] using k
    · rename_i i o e
      simp only [e] at k
      obtain ⟨L, a, cap, m, r⟩ := k
      exact ⟨L, a, cap, h.f _ _ m, r⟩
  | .map none, x, k => by simpa [VRel] using k
  | .map (some i), x, k => by
    simp only [VRel] at k ⊢
    obtain ⟨L, e, r⟩ := k
    exact ⟨L, h.f _ _ e, r⟩
  | .func fn first captured, x, k => by
    simp only [VRel] at k ⊢
    obtain ⟨f, c, e, o, a, b⟩ := k
    exact ⟨f, c, e, o, VRels.mono h _ _ a, VRels.mono h _ _ b⟩
  | .nilFunc, x, k => by simpa [VRel] using k
  | .iface t v, x, k => by
    simp only [VRel] at k ⊢
    obtain ⟨y, e, r⟩ := k
    exact ⟨y, e, VRel.mono h _ _ r⟩
  | .nilIface, x, k => by simpa [VRel] using k
  | .agg cs, x, k => by
    simp only [VRel] at k ⊢
    obtain ⟨y, e, r⟩ := k
    exact ⟨y, e, VRels.mono h _ _ r⟩
  | .tuple cs, x, k => by
    simp only [VRel] at k ⊢
    obtain ⟨y, e, r⟩ := k
    exact ⟨y, e, VRels.mono h _ _ r⟩
  | .list n z cs, x, k => by
    simp only [VRel] at k ⊢
    rcases k with k | ⟨j, L, o, cap, m, e, hc, hl, r⟩
    · exact .inl k
    · exact .inr ⟨j, L, o, cap, h.z _ _ m, e, hc, hl, r.1, r.2.1, VRels.mono h _ _ r.2.2⟩
  | .lptr cs, x, k => by
    simp only [VRel] at k ⊢
    obtain ⟨j, L, o, m, e, r⟩ := k
    exact ⟨j, L, o, h.z _ _ m, e, r.1, VRels.mono h _ _ r.2⟩
  | .yld j, x, k => by
    simp only [VRel] at k ⊢
    obtain ⟨L, e, r⟩ := k
    exact ⟨L, h.f _ _ e, r⟩
theorem VRels.mono {μ ν : Mu} (h : μ.le ν) : ∀ (vs : List V) (xs : List Value), VRels μ vs xs → VRels ν vs xs
  | [], xs, k => by simpa [VRels] using k
  | v :: vs, xs, k => by
    simp only [VRels] at k ⊢
    obtain ⟨y, ys, e, a, b⟩ := k
    exact ⟨y, ys, e, VRel.mono h _ _ a, VRels.mono h _ _ b⟩
end
theorem VRels.length {μ : Mu} : ∀ {vs : List V} {xs : List Value}, VRels μ vs xs → xs.length = vs.length
  | [], xs, k => by simp [VRels] at k; simp [k]
  | v :: vs, xs, k => by
    simp only [VRels] at k
    obtain ⟨y, ys, rfl, a, b⟩ := k
    simp [VRels.length b]
theorem VRels.get {μ : Mu} : ∀ {vs : List V} {xs : List Value}, VRels μ vs xs → ∀ (i : Nat) (v : V), vs[i]? = some v → ∃ x, xs[i]? = some x ∧ VRel μ v x
  | [], xs, k, i, v, e => by simp at e
  | v :: vs, xs, k, i, u, e => by
    simp only [VRels] at k
    obtain ⟨y, ys, rfl, a, b⟩ := k
    cases i with
    | zero => simp at e; subst e; exact ⟨y, by simp, a⟩
    | succ i => simp at e; simpa using VRels.get b i u e
theorem VRels.of_get {μ : Mu} : ∀ {vs : List V} {xs : List Value}, xs.length = vs.length → (∀ (i : Nat) (v : V) (x : Value), vs[i]? = some v → xs[i]? = some x → VRel μ v x) → VRels μ vs xs
  | [], xs, hl, _ => by simp at hl; simp [VRels, hl]
  | v :: vs, [], hl, _ => by simp at hl
  | v :: vs, x :: xs, hl, h => by
    simp only [VRels]
    exact ⟨x, xs, rfl, h 0 v x (by simp) (by simp), VRels.of_get (by simpa using hl) fun i u y e1 e2 => h (i + 1) u y (by simpa using e1) (by simpa using e2)⟩
theorem VRels.append {μ : Mu} : ∀ {vs us : List V} {xs ys : List Value}, VRels μ vs xs → VRels μ us ys → VRels μ (vs ++ us) (xs ++ ys)
  | [], us, xs, ys, k, l => by simp [VRels] at k; subst k; simpa using l
  | v :: vs, us, xs, ys, k, l => by
    simp only [VRels] at k
    obtain ⟨y, zs, rfl, a, b⟩ := k
    simp only [List.cons_append, VRels]
    exact ⟨y, zs ++ ys, rfl, a, VRels.append b l⟩
theorem VRels.drop {μ : Mu} : ∀ (n : Nat) {vs : List V} {xs : List Value}, VRels μ vs xs → VRels μ (vs.drop n) (xs.drop n)
  | 0, vs, xs, k => by simpa using k
  | n + 1, [], xs, k => by simp [VRels] at k; simp [VRels, k]
  | n + 1, v :: vs, xs, k => by
    simp only [VRels] at k
    obtain ⟨y, zs, rfl, a, b⟩ := k
    simpa using VRels.drop n b
theorem VRels.take {μ : Mu} : ∀ (n : Nat) {vs : List V} {xs : List Value}, VRels μ vs xs → VRels μ (vs.take n) (xs.take n)
  | 0, vs, xs, k => by simp [VRels]
  | n + 1, [], xs, k => by simp [VRels] at k; simp [VRels, k]
  | n + 1, v :: vs, xs, k => by
    simp only [VRels] at k
    obtain ⟨y, zs, rfl, a, b⟩ := k
    simp only [List.take_succ_cons, VRels]
    exact ⟨y, _, rfl, a, VRels.take n b⟩
def V.cells : V → List V
  | .agg cs => cs
  | v => [v]
def isOne : Value → Bool
  | .agg _ | .tuple _ => false
  | _ => true
theorem VRel.isOne {μ : Mu} {v : V} {x : Value} (h : VRel μ v x) (o : v.one = true) : isOne x = true := by
  cases v with
  | dead => simp [V.one] at o
  | agg cs => simp [V.one] at o
  | tuple cs => simp [V.one] at o
  | bool b => simp only [VRel] at h; subst h; rfl
  | int k n => simp only [VRel] at h; subst h; rfl
  | str s => simp only [VRel] at h; subst h; rfl
  | ptr a =>
    rcases a with _ | ⟨i, o⟩
    · simp only [VRel] at h; subst h; rfl
    · simp only [VRel] at h; obtain ⟨L, _, rfl⟩ := h; rfl
  | slice s =>
    simp only [VRel] at h
    split at h
    · obtain ⟨_, rfl⟩ := h; rfl
    · obtain ⟨L, a, cap, _, rfl, _⟩ := h; rfl
  | map r =>
    rcases r with _ | i
    · simp only [VRel] at h; subst h; rfl
    · simp only [VRel] at h; obtain ⟨L, _, rfl⟩ := h; rfl
  | func fn f c => simp only [VRel] at h; obtain ⟨_, _, rfl, _⟩ := h; rfl
  | nilFunc => simp only [VRel] at h; subst h; rfl
  | iface t v => simp only [VRel] at h; obtain ⟨_, rfl, _⟩ := h; rfl
  | nilIface => simp only [VRel] at h; subst h; rfl
  | list n z cs =>
    simp only [VRel] at h
    rcases h with ⟨_, _, rfl | ⟨_, _, _, rfl⟩⟩ | ⟨j, L, o, cap, _, rfl, _⟩ <;> rfl
  | lptr cs => simp [V.one] at o
  | yld j => simp only [VRel] at h; obtain ⟨_, _, rfl⟩ := h; rfl
theorem VRel.cells {μ : Mu} {v : V} {x : Value} (h : VRel μ v x) (o : v.cells.all V.one = true) : VRels μ v.cells x.cells.toList := by
  cases v with
  | agg cs => simp only [VRel] at h; obtain ⟨a, rfl, r⟩ := h; simpa [V.cells, Value.cells] using r
  | dead => simp [V.cells, V.one] at o
  | tuple cs => simp [V.cells, V.one] at o
  | _ =>
    have h1 := VRel.isOne h (by simpa [V.cells] using o)
    have : x.cells = #[x] := by cases x <;> simp_all [Value.cells, AM.isOne]
    rw [this]
    simp only [V.cells, VRels]
    exact ⟨x, [], rfl, h, rfl⟩
def MERel (μ : Mu) (e : ME) (x : MapEntry) : Prop := VRel μ e.key x.key ∧ VRel μ e.val x.val ∧ x.born = e.born
def MERels (μ : Mu) : List ME → List MapEntry → Prop
  | [], xs => xs = []
  | e :: es, xs => ∃ y ys, xs = y :: ys ∧ MERel μ e y ∧ MERels μ es ys
def ORel (μ : Mu) (B : Nat) (o : O) (L : Loc) (w : World) : Prop :=
  match o with
  | .none => True
  | .cells cs e ro => ∃ c e' fr, w.heap[L.b]? = some (.cells c e' fr) ∧ c.size = L.size ∧ L.base + cs.length ≤ L.size ∧
      (∀ j v, cs[j]? = some v → v.one = true ∧ ∃ x, c[L.base + j]? = some x ∧ VRel μ v x) ∧ (ro = false → B ≤ L.b ∧ fr = (0, 0) ∧ e' = e)
  | .map es clock => ∃ xs, w.heap[L.b]? = some (.map xs clock) ∧ B ≤ L.b ∧ MERels μ es xs.toList
  | .siter s pos => w.heap[L.b]? = some (.stringIter ⟨s.toArray⟩ pos) ∧ B ≤ L.b ∧ L.base = 0
  | .miter m since seen last => ∃ mb, w.heap[L.b]? = some (.mapIter mb since seen.toArray last) ∧ B ≤ L.b ∧ L.base = 0 ∧ (match m with
    | none => mb = none
    | some i => ∃ M, μ i = some M ∧ mb = some M.b)
  | .loop N st pend _ env ps a b => ∃ r : Loop, w.heap[L.b]? = some (.loop r) ∧ B ≤ L.b ∧ r.state = st ∧ r.pending = pend ∧ r.params.toList = ps ∧ r.assign = a ∧ r.body = b ∧ N ≤ r.tmps.size ∧
      ∀ t, VRel μ (lk t env) (r.tmps.getD t undef)
def O.own : O → Bool
  | .none => false
  | .cells _ _ ro => !ro
  | _ => true
def O.live : O → Bool
  | .none => false
  | _ => true
structure Rel (B : Nat) (w0 : World) (μ : Mu) (H : Heap) (w : World) : Prop where
  below : Below B w0 w
  size : B ≤ w.heap.size
  dom : ∀ i L, μ i = some L → i < H.n ∧ ((H.get i).live = true → L.b < w.heap.size)
  objs : ∀ i L, μ i = some L → ORel μ B (H.get i) L w
  sep : ∀ i j L M, μ i = some L → μ j = some M → i ≠ j → (H.get i).live = true → (H.get j).live = true → (H.get i).own = true → L.b ≠ M.b
  clean : ∀ i, H.n ≤ i → H.get i = .none
  frz : ∀ b vs, μ.z b = some vs → ∃ c e fr, w.heap[b]? = some (.cells c e fr) ∧ vs = c.toList
  sepf : ∀ b vs, μ.z b = some vs → ∀ j M, μ j = some M → (H.get j).own = true → M.b ≠ b
  flat : ∀ i L, μ i = some L → (H.get i).own = true → L.base = 0
end Go.AM
end
section
set_option linter.unusedVariables false
set_option linter.unusedSimpArgs false
namespace Go.AM
abbrev V.ofOne : Value → V
  | .bool b => .bool b
  | .int k n => .int k n
  | .string s => .str s.data.toList
  | .pointer none => .ptr none
  | .slice none 0 0 => .slice ⟨none, 0, 0, false⟩
  | .map none => .map none
  | .nilFunc => .nilFunc
  | .nilIface => .nilIface
  | _ => .dead
abbrev V.ofValue : Value → V
  | .agg cs => .agg (cs.toList.map V.ofOne)
  | .tuple vs => if vs.size = 0 then .tuple [] else .dead
  | v => V.ofOne v
abbrev opd (env : Env) : Operand → V
  | .tmp t => lk t env
  | .const v => V.ofValue v
  | .global _ => .dead
  | .func f => .func (.func f) [] []
def asB : V → Option Bool
  | .bool b => some b
  | _ => none
def asI : V → Option Int
  | .int _ n => some n
  | _ => none
abbrev aggT (P : Program) (t : TypeId) : Option Bool :=
  match P.underlying t with
  | some (.struct _) | some (.array _ _) => some true
  | some _ => some false
  | none => none
abbrev szT (P : Program) (t : TypeId) : Option Nat := (P.info? t).map (·.size)
abbrev zeroT (P : Program) (t : TypeId) : Option V := ((P.info? t).bind (·.zero)).map V.ofValue
def intA (op : BinOp) (k : IntKind) (a b : Int) : Option V :=
  match op with
  | .add => some (.int k (k.wrap (a + b)))
  | .sub => some (.int k (k.wrap (a - b)))
  | .mul => some (.int k (k.wrap (a * b)))
  | .quo => if b = 0 then none else some (.int k (k.wrap (a.tdiv b)))
  | .rem => if b = 0 then none else some (.int k (a.tmod b))
  | .and => some (.int k (k.wrap (BitVec.ofInt k.bits a &&& BitVec.ofInt k.bits b).toNat))
  | .or => some (.int k (k.wrap (BitVec.ofInt k.bits a ||| BitVec.ofInt k.bits b).toNat))
  | .xor => some (.int k (k.wrap (BitVec.ofInt k.bits a ^^^ BitVec.ofInt k.bits b).toNat))
  | .andNot => some (.int k (k.wrap (BitVec.ofInt k.bits a &&& ~~~(BitVec.ofInt k.bits b)).toNat))
  | .eql => some (.bool (a == b))
  | .neq => some (.bool (a != b))
  | .lss => some (.bool (decide (a < b)))
  | .leq => some (.bool (decide (a ≤ b)))
  | .gtr => some (.bool (decide (a > b)))
  | .geq => some (.bool (decide (a ≥ b)))
  | _ => none
def shiftA (op : BinOp) (k : IntKind) (a b : Int) : Option V :=
  if b < 0 then none else
  match op with
  | .shl => some (.int k (k.wrap (a * 2 ^ (min b.toNat k.bits))))
  | .shr => some (.int k (a.fdiv (2 ^ (min b.toNat k.bits))))
  | _ => none
def strA (op : BinOp) (a b : List UInt8) : Option V :=
  match op with
  | .add => if a.length + b.length < 9223372036854775807 then some (.str (a ++ b)) else none
  | .eql => some (.bool (a == b))
  | .neq => some (.bool (!(a == b)))
  | .lss => some (.bool (Op.bytesLess a b))
  | .leq => some (.bool (Op.bytesLess a b || a == b))
  | .gtr => some (.bool (!(Op.bytesLess a b || a == b)))
  | .geq => some (.bool (!(Op.bytesLess a b)))
  | _ => none
def partN (n off : Nat) (xs : List V) : Option V := some (.agg ((xs.drop off).take n))
def part1 (off : Nat) (xs : List V) : Option V := xs[off]?
abbrev partA (P : Program) (t : TypeId) (xs : List V) (off : Nat) : Option V :=
  match aggT P t with
  | some true => match szT P t with
    | some n => partN n off xs
    | none => none
  | some false => part1 off xs
  | none => none
def eqFs (P : Program) (rc : TypeId → V → V → Option Bool) : List Field → List V → List V → Option Bool
  | [], _, _ => some true
  | f :: fs, xs, ys =>
    if f.name ≠ "_" then
      (partA P f.type xs f.offset).bind fun u => (partA P f.type ys f.offset).bind fun v =>
        (rc f.type u v).bind fun b => (eqFs P rc fs xs ys).bind fun c => some (b && c)
    else eqFs P rc fs xs ys
def eqEs (P : Program) (rc : TypeId → V → V → Option Bool) (elem : TypeId) (n : Nat) : List Nat → List V → List V → Option Bool
  | [], _, _ => some true
  | i :: is, xs, ys =>
    (partA P elem xs (i * n)).bind fun u => (partA P elem ys (i * n)).bind fun v =>
      (rc elem u v).bind fun b => (eqEs P rc elem n is xs ys).bind fun c => some (b && c)
def eqA (P : Program) : Nat → TypeId → V → V → Option Bool
  | 0, _, _, _ => none
  | d + 1, t, x, y =>
    match P.underlying t with
    | some .bool => match x, y with | .bool a, .bool b => some (a == b) | _, _ => none
    | some (.int _) => match x, y with | .int k a, .int k' b => if k = k' then some (a == b) else none | _, _ => none
    | some .string => match x, y with | .str a, .str b => some (a == b) | _, _ => none
    | some (.pointer e) => match x, y with
      | .ptr none, .ptr b => some b.isNone
      | .ptr (some _), .ptr none => some false
      | .ptr (some a), .ptr (some b) => if a = b ∧ (szT P e).isSome = true then some true else none
      | _, _ => none
    | some (.slice _) => match x, y with
      | .slice s, .slice u => if s.ad.isNone then some u.ad.isNone else if u.ad.isNone then some false else none
      | .list n _ _, .slice u => if u.ad.isNone ∧ 0 < n then some false else none
      | _, _ => none
    | some (.map _ _) => match x, y with
      | .map none, .map b => some b.isNone
      | .map (some _), .map none => some false
      | _, _ => none
    | some (.interface ms) => match x, y with
      | .nilIface, .iface _ _ => some false
      | .iface _ _, .nilIface => some false
      | .nilIface, .nilIface => if ms.isEmpty = true then some true else none
      | _, _ => none
    | some (.func _ _ _) => match x, y with
      | .nilFunc, .func _ _ _ => some false
      | .func _ _ _, .nilFunc => some false
      | .nilFunc, .nilFunc => some true
      | _, _ => none
    | some (.struct fields) => match x, y with
      | .agg xs, .agg ys => if P.stoodInHeld t then none else eqFs P (eqA P d) fields.toList xs ys
      | _, _ => none
    | some (.array len elem) => match x, y with
      | .agg xs, .agg ys => match szT P elem with
        | some n => eqEs P (eqA P d) elem n (List.range len) xs ys
        | none => none
      | _, _ => none
    | _ => none
def arA (op : BinOp) (x y : V) : Option V :=
  match x, y with
  | .int k a, .int k' b => if k = k' then intA op k a b else none
  | .str a, .str b => strA op a b
  | _, _ => none
def shA (op : BinOp) (x y : V) : Option V :=
  match x, y with
  | .int k a, .int _ b => shiftA op k a b
  | _, _ => none
def eqOk (P : Program) (t : TypeId) : Bool :=
  match P.underlying t with
  | some (.struct _) | some (.array _ _) => !(P.eqGuardType P.depth t)
  | _ => true
def eqlA (P : Program) (t : TypeId) (x y : V) : Option V := if eqOk P t = true then (eqA P 8 t x y).bind fun b => some (.bool b) else none
def neqA (P : Program) (t : TypeId) (x y : V) : Option V := if eqOk P t = true then (eqA P 8 t x y).bind fun b => some (.bool (!b)) else none
abbrev isNum (P : Program) (t : TypeId) : Bool :=
  match P.underlying t with
  | some (.int _) | some .string => true
  | _ => false
abbrev binA (P : Program) (op : BinOp) (t : TypeId) (x y : V) : Option V :=
  match op with
  | .shl => shA .shl x y
  | .shr => shA .shr x y
  | .eql => if isNum P t = true then arA .eql x y else eqlA P t x y
  | .neq => if isNum P t = true then arA .neq x y else neqA P t x y
  | op => arA op x y
def unA (op : UnOp) (x : V) : Option V :=
  match op, x with
  | .neg, .int k n => some (.int k (k.wrap (0 - n)))
  | .xor, .int k n => intA .xor k (if k.signed then -1 else k.max) n
  | .not, .bool b => some (.bool !b)
  | _, _ => none
def ld1 (v : V) (H : Heap) : Option V :=
  match v with
  | .ptr (some (i, o)) => match H.get i with
    | .cells cs _ _ => cs[o]?
    | _ => none
  | .lptr cs => cs[0]?
  | _ => none
def ldN (n : Nat) (v : V) (H : Heap) : Option V :=
  match v with
  | .ptr (some (i, o)) => match H.get i with
    | .cells cs _ _ => if o + n ≤ cs.length then some (.agg ((cs.drop o).take n)) else none
    | _ => none
  | .lptr cs => if n ≤ cs.length then some (.agg (cs.take n)) else none
  | _ => none
abbrev loadA (P : Program) (t : TypeId) (v : V) (H : Heap) : Option V :=
  match aggT P t with
  | some true => match szT P t with
    | some n => ldN n v H
    | none => none
  | some false => ld1 v H
  | none => none
def lset : List V → Nat → List V → List V
  | cs, _, [] => cs
  | cs, o, x :: xs => lset (cs.set o x) (o + 1) xs
def stA (n : Nat) (v x : V) (H : Heap) : Option Heap :=
  match v with
  | .ptr (some (i, o)) => match H.get i with
    | .cells cs e false => if x.cells.length = n ∧ o + n ≤ cs.length ∧ x.cells.all V.one = true then some (H.set i (.cells (lset cs o x.cells) e false)) else none
    | _ => none
  | _ => none
abbrev newA (r : Option Nat) (o : O) (H : Heap) : Nat × Heap :=
  match r with
  | none => (H.n, H.push o)
  | some i => (i, H.set i o)
def boxA (e : TypeId) (x : V) : Option O :=
  if x.cells.all V.one = true then some (.cells x.cells e false) else none
def fillA (place : Nat → Option (Nat × Nat)) (cells : List V) : List (Nat × V) → Option (List V)
  | [] => some cells
  | (i, v) :: rest =>
    match place i with
    | none => none
    | some (off, size) =>
      if v.cells.length = size ∧ off + size ≤ cells.length ∧ v.cells.all V.one = true then fillA place (lset cells off v.cells) rest else none
def flA (places : List (Nat × Nat)) (z : List V) (parts : List (Nat × V)) : Option V := (fillA (places[·]?) z parts).bind fun cs => some (.agg cs)
def flE (n : Nat) (z : List V) (parts : List (Nat × V)) : Option V := (fillA (fun i => some (i * n, n)) z parts).bind fun cs => some (.agg cs)
abbrev placesT (P : Program) : List Field → Option (List (Nat × Nat))
  | [] => some []
  | f :: fs => match szT P f.type, placesT P fs with
    | some n, some l => some ((f.offset, n) :: l)
    | _, _ => none
abbrev buildA (P : Program) (t : TypeId) (parts : List (Nat × V)) : Option V :=
  match zeroT P t, P.underlying t with
  | some (.agg z), some (.struct fields) => match placesT P fields.toList with
    | some places => flA places z parts
    | none => none
  | some (.agg z), some (.array _ elem) => match szT P elem with
    | some n => flE n z parts
    | none => none
  | _, _ => none
def rowA (z : List V) : Nat → List V
  | 0 => []
  | n + 1 => z ++ rowA z n
def faA (off : Nat) (v : V) : Option V :=
  match v with
  | .ptr (some (i, o)) => some (.ptr (some (i, o + off)))
  | .lptr cs => if off < cs.length then some (.lptr (cs.drop off)) else none
  | _ => none
abbrev fieldAddrA (P : Program) (s : TypeId) (v : V) (f : Nat) : Option V :=
  match P.underlying s with
  | some (.struct fields) => match fields[f]? with
    | some fd => match szT P fd.type with
      | some (_ + 1) => faA fd.offset v
      | _ => none
    | none => none
  | _ => none
def fdN (n off : Nat) (v : V) : Option V :=
  match v with
  | .agg cs => partN n off cs
  | _ => none
def fd1 (off : Nat) (v : V) : Option V :=
  match v with
  | .agg cs => part1 off cs
  | _ => none
abbrev fieldA (P : Program) (t : TypeId) (v : V) (f : Nat) : Option V :=
  match P.underlying t with
  | some (.struct fields) => match fields[f]? with
    | some fd => match aggT P fd.type, szT P fd.type with
      | some true, some n => fdN n fd.offset v
      | some false, _ => fd1 fd.offset v
      | _, _ => none
    | none => none
  | _ => none
def idxS (n : Nat) (v ix : V) : Option V :=
  match v, ix with
  | .slice s, .int _ i => match s.ad with
    | some (b, o) => if 0 ≤ i ∧ i < s.len ∧ s.esz = n then some (.ptr (some (b, o + i.toNat * n))) else none
    | none => none
  | .list k z cs, .int _ i => if 0 ≤ i ∧ i < k ∧ z = n then some (.lptr ((cs.drop (i.toNat * n)))) else none
  | _, _ => none
def idxP (len n : Nat) (v ix : V) : Option V :=
  match v, ix with
  | .ptr (some (b, o)), .int _ i => if 0 ≤ i ∧ i < len then some (.ptr (some (b, o + i.toNat * n))) else none
  | .lptr cs, .int _ i => if 0 ≤ i ∧ i < len ∧ i.toNat * n < cs.length then some (.lptr (cs.drop (i.toNat * n))) else none
  | _, _ => none
abbrev indexAddrA (P : Program) (t : TypeId) (v ix : V) : Option V :=
  match P.underlying t with
  | some (.slice e) => match szT P e with
    | some (n + 1) => idxS (n + 1) v ix
    | _ => none
  | some (.array len e) => match szT P e with
    | some (n + 1) => idxP len (n + 1) v ix
    | _ => none
  | _ => none
def ixStr (v ix : V) : Option V :=
  match v, ix with
  | .str s, .int _ i => if 0 ≤ i then match s[i.toNat]? with
    | some b => some (.int .u8 b.toNat)
    | none => none else none
  | _, _ => none
def ix1 (len : Nat) (v ix : V) : Option V :=
  match v, ix with
  | .agg cs, .int _ i => if 0 ≤ i ∧ i < len then part1 i.toNat cs else none
  | _, _ => none
def ixN (len n : Nat) (v ix : V) : Option V :=
  match v, ix with
  | .agg cs, .int _ i => if 0 ≤ i ∧ i < len then partN n (i.toNat * n) cs else none
  | _, _ => none
abbrev indexA (P : Program) (t : TypeId) (v ix : V) : Option V :=
  match P.underlying t with
  | some (.array len e) => match aggT P e, szT P e with
    | some true, some n => ixN len n v ix
    | some false, some 1 => ix1 len v ix
    | _, _ => none
  | some .string => ixStr v ix
  | _ => none
def bndA (d : Nat) : Option V → Option Nat
  | none => some d
  | some (.int _ i) => if 0 ≤ i then some i.toNat else none
  | _ => none
def slStr (v : V) (lo hi : Option V) : Option V :=
  match v with
  | .str s => (bndA 0 lo).bind fun l => (bndA s.length hi).bind fun h => if l ≤ h ∧ h ≤ s.length then some (.str ((s.take h).drop l)) else none
  | _ => none
def slSl (n : Nat) (v : V) (lo hi : Option V) : Option V :=
  match v with
  | .slice s => (bndA 0 lo).bind fun l => (bndA s.len hi).bind fun h =>
      if l ≤ h ∧ h ≤ s.len ∧ (s.ad.isNone = true ∨ s.esz = n) then some (.slice ⟨s.ad.map fun (b, o) => (b, o + l * n), h - l, n, false⟩) else none
  | .list k z cs => (bndA 0 lo).bind fun l => (bndA k hi).bind fun h =>
      if l ≤ h ∧ h ≤ k ∧ (k = 0 ∨ z = n) then some (if l = h then .list 0 0 [] else .list (h - l) n ((cs.drop (l * n)).take ((h - l) * n))) else none
  | _ => none
def slMx (n : Nat) (v : V) (lo : Option V) (hi mx : V) : Option V :=
  match v with
  | .slice s => (bndA 0 lo).bind fun l => (bndA 0 (some hi)).bind fun h => (bndA 0 (some mx)).bind fun m =>
      if l ≤ h ∧ h ≤ m ∧ m ≤ s.len ∧ (s.ad.isNone = true ∨ s.esz = n) then some (.slice ⟨s.ad.map fun (b, o) => (b, o + l * n), h - l, n, h == m⟩) else none
  | _ => none
def slArr (len n : Nat) (v : V) (lo hi : Option V) (H : Heap) : Option V :=
  match v with
  | .ptr (some (i, o)) => (bndA 0 lo).bind fun l => (bndA len hi).bind fun h => match H.get i with
    | .cells cs _ _ => if l ≤ h ∧ h ≤ len ∧ o + len * n ≤ cs.length then some (.slice ⟨some (i, o + l * n), h - l, n, false⟩) else none
    | _ => none
  | _ => none
abbrev sliceA (P : Program) (t : TypeId) (v : V) (lo hi mx : Option V) (H : Heap) : Option V :=
  match P.underlying t with
  | some .string => match mx with
    | none => slStr v lo hi
    | some _ => none
  | some (.slice e) => match szT P e with
    | some n => match mx, hi with
      | none, _ => slSl n v lo hi
      | some m, some h => slMx n v lo h m
      | _, _ => none
    | none => none
  | some (.array len e) => match szT P e, mx with
    | some n, none => slArr len n v lo hi H
    | _, _ => none
  | _ => none
def rdS (s : Sl) (H : Heap) : Option (List V) :=
  match s.ad with
  | none => if s.len = 0 then some [] else none
  | some (i, o) => if s.len = 0 then some [] else match H.get i with
    | .cells cs _ _ => if o + s.len * s.esz ≤ cs.length then some ((cs.drop o).take (s.len * s.esz)) else none
    | _ => none
def srcA (n : Nat) (x : V) (H : Heap) : Option (Nat × List V) :=
  match x with
  | .slice u => if u.ad.isNone = true ∨ u.esz = n then (rdS u H).map fun cs => (u.len, cs) else none
  | .str s => if n = 1 then some (s.length, s.map fun b => .int .u8 b.toNat) else none
  | .list k z cs => if k = 0 ∨ z = n then some (k, cs) else none
  | _ => none
def killA (s : Sl) (e : TypeId) (H : Heap) : Option Heap :=
  match s.ad with
  | none => some H
  | some (i, o) => if s.full = true then some H else match H.get i with
    | .cells _ u false => if u = e ∧ o = 0 then some (H.set i .none) else none
    | _ => none
def appA (n bytes : Nat) (e : TypeId) (v x : V) (H : Heap) : Option (V × Heap) :=
  match v with
  | .slice s => (srcA n x H).bind fun (k, new) =>
      if k = 0 then some (.slice ⟨s.ad, s.len, s.esz, false⟩, H)
      else if s.len + k < 2147483648 ∧ bytes ≤ 4096 ∧ (s.ad.isNone = true ∨ s.esz = n) then
        (rdS s H).bind fun old => (killA s e H).bind fun H1 =>
          some (.slice ⟨some (H1.n, 0), s.len + k, n, false⟩, H1.push (.cells (old ++ new) e false))
      else none
  | _ => none
def copyA (n : Nat) (v x : V) (H : Heap) : Option (V × Heap) :=
  match v with
  | .slice d => (srcA n x H).bind fun (k, new) =>
      let m := min k d.len
      if m = 0 then some (.int .i64 0, H) else
      match d.ad with
      | some (i, o) => match H.get i with
        | .cells cs e false => if d.esz = n ∧ o + m * n ≤ cs.length then some (.int .i64 m, H.set i (.cells (lset cs o (new.take (m * n))) e false)) else none
        | _ => none
      | none => none
  | _ => none
def lenStr : V → Option V
  | .str s => some (.int .i64 s.length)
  | _ => none
def lenSl : V → Option V
  | .slice s => some (.int .i64 s.len)
  | .list k _ _ => some (.int .i64 k)
  | _ => none
def lenMap (v : V) (H : Heap) : Option V :=
  match v with
  | .map none => some (.int .i64 0)
  | .map (some i) => match H.get i with
    | .map es _ => some (.int .i64 es.length)
    | _ => none
  | _ => none
abbrev lenA (P : Program) (t : TypeId) (v : V) (H : Heap) : Option V :=
  match P.underlying t with
  | some .string => lenStr v
  | some (.slice _) => lenSl v
  | some (.array n _) => some (.int .i64 n)
  | some (.map _ _) => lenMap v H
  | _ => none
def mkSl (n bytes : Nat) (e : TypeId) (z : List V) (l c : V) : Option (O × Nat) :=
  match l, c with
  | .int _ l, .int _ c => if 0 ≤ l ∧ l ≤ c ∧ c < 2147483648 ∧ bytes ≤ 4096 ∧ z.length = n ∧ z.all V.one = true then some (.cells (rowA z l.toNat) e false, l.toNat) else none
  | _, _ => none
def bSl (n : Nat) (e : TypeId) (z : List V) (len : Nat) (parts : List (Nat × V)) : Option O :=
  if len * n ≤ 65536 ∧ z.length = n ∧ z.all V.one = true then (fillA (fun i => some (i * n, n)) (rowA z len) parts).bind fun cs => some (.cells cs e false) else none
abbrev elemT (P : Program) (t : TypeId) : Option (TypeId × Nat × Nat × List V) :=
  match P.underlying t with
  | some (.slice e) => match szT P e, P.info? e, zeroT P e with
    | some (n + 1), some inf, some z => if z.cells.length = n + 1 then some (e, n + 1, inf.bytes, z.cells) else none
    | _, _, _ => none
  | _ => none
def cvInt (k : IntKind) : V → Option V
  | .int _ n => some (.int k (k.wrap n))
  | _ => none
def cvStr : V → Option V
  | .str s => some (.str s)
  | _ => none
def bytesOf : List V → Option (List UInt8)
  | [] => some []
  | .int .u8 n :: vs => match bytesOf vs with
    | some l => some (UInt8.ofNat n.toNat :: l)
    | none => none
  | _ => none
def cvBytes (v : V) (H : Heap) : Option V :=
  match v with
  | .slice u => if u.ad.isNone = true ∨ u.esz = 1 then (rdS u H).bind fun cs => (bytesOf cs).bind fun l => some (.str l) else none
  | .list k z cs => if k = 0 ∨ z = 1 then (bytesOf cs).bind fun l => some (.str l) else none
  | _ => none
def cvUp (n : Option Nat) (v : V) (H : Heap) : Option V :=
  match v with
  | .ptr none => some (.ptr none)
  | .ptr (some (i, o)) => match H.get i with
    | .cells cs _ false => if o < cs.length ∧ n.isSome = true ∧ n ≠ some 0 then some (.ptr (some (i, o))) else none
    | _ => none
  | _ => none
def cvDn (P : Program) (u : TypeId) (v : V) (H : Heap) : Option V :=
  match v with
  | .ptr none => some (.ptr none)
  | .ptr (some (i, o)) => match H.get i with
    | .cells cs e false => if liesAt P P.depth e (cs.length / P.cellsOf e) o u 1 = true ∧ (szT P u).isSome = true then some (.ptr (some (i, o))) else none
    | _ => none
  | _ => none
abbrev convA (P : Program) (src dst : TypeId) (v : V) (H : Heap) : Option V :=
  match P.underlying src, P.underlying dst with
  | some (.int _), some (.int k) => cvInt k v
  | some .string, some .string => cvStr v
  | some (.slice e), some .string => match P.underlying e with
    | some (.int .u8) => cvBytes v H
    | _ => none
  | some (.pointer t), some .unsafePointer => cvUp (szT P t) v H
  | some .unsafePointer, some (.pointer u) => cvDn P u v H
  | _, _ => none
def slData (v : V) : Option V :=
  match v with
  | .slice s => match s.ad with
    | none => some (.ptr none)
    | some a => if s.len = 0 then none else some (.ptr (some a))
  | _ => none
def capSl (v : V) : Option V :=
  match v with
  | .slice s => if s.ad.isNone = true then some (.int .i64 0) else if s.full = true then some (.int .i64 s.len) else none
  | _ => none
abbrev capA (P : Program) (t : TypeId) (v : V) : Option V :=
  match P.underlying t with
  | some (.slice _) => capSl v
  | _ => none
def byteV : V → Bool
  | .int .u8 n => decide (0 ≤ n) && decide (n < 256)
  | _ => false
def unStr (v n : V) (H : Heap) : Option (V × Heap × TypeId) :=
  match v, n with
  | .ptr (some (i, 0)), .int .i64 k => match H.get i with
    | .cells cs e false => if 0 < k ∧ k.toNat ≤ cs.length ∧ k < 2147483648 ∧ (cs.take k.toNat).all byteV = true then (bytesOf (cs.take k.toNat)).bind fun l => some (.str l, H.set i (.cells cs e true), e) else none
    | _ => none
  | _, _ => none
abbrev unStrA (P : Program) (t : TypeId) (v n : V) (H : Heap) : Option (V × Heap) :=
  match v, n with
  | .ptr _, .int .i64 0 => some (.str [], H)
  | _, _ => match unStr v n H with
    | some (r, H1, e) => match P.underlying t with
      | some (.pointer e') => if e' = e ∧ P.cellsOf e = 1 then some (r, H1) else none
      | _ => none
    | none => none
def asOk (t : TypeId) (z : V) (v : V) : Option V :=
  match v with
  | .iface u x => if u = t then some (.tuple [x, .bool true]) else some (.tuple [z, .bool false])
  | .nilIface => some (.tuple [z, .bool false])
  | _ => none
def asIs (t : TypeId) (v : V) : Option V :=
  match v with
  | .iface u x => if u = t then some x else none
  | _ => none
abbrev assertA (P : Program) (v : V) (t : TypeId) (ok : Bool) : Option V :=
  match P.underlying t with
  | some (.interface _) => none
  | some _ => match ok, zeroT P t with
    | true, some z => asOk t z v
    | false, _ => asIs t v
    | _, _ => none
  | none => none
def nilC : V → Option V
  | .ptr (some a) => some (.ptr (some a))
  | .lptr cs => some (.lptr cs)
  | _ => none
def extA (v : V) (i : Nat) : Option V :=
  match v with
  | .tuple vs => vs[i]?
  | _ => none
end Go.AM
end
section
set_option linter.unusedVariables false
set_option linter.unusedSimpArgs false
namespace Go.AM
def sameOne : V → V → Bool
  | .bool a, .bool b => a == b
  | .int j a, .int k b => j == k && a == b
  | .str a, .str b => a == b
  | _, _ => false
def sameAll : List V → List V → Bool
  | [], [] => true
  | a :: las, b :: bs => sameOne a b && sameAll las bs
  | _, _ => false
def sameV : V → V → Bool
  | .agg a, .agg b => sameAll a b
  | a, b => sameOne a b
def keyFs (P : Program) (rc : TypeId → V → Bool) : List Field → List V → Bool
  | [], _ => true
  | f :: fs, xs => (match partA P f.type xs f.offset with
    | some u => rc f.type u
    | none => false) && keyFs P rc fs xs
def keyEs (P : Program) (rc : TypeId → V → Bool) (e : TypeId) (n : Nat) : List Nat → List V → Bool
  | [], _ => true
  | i :: is, xs => (match partA P e xs (i * n) with
    | some u => rc e u
    | none => false) && keyEs P rc e n is xs
def keyV (P : Program) : Nat → TypeId → V → Bool
  | 0, _, _ => false
  | d + 1, t, v =>
    match P.underlying t with
    | some (.int _) => match v with | .int _ _ => true | _ => false
    | some .string => match v with | .str _ => true | _ => false
    | some .bool => match v with | .bool _ => true | _ => false
    | some (.struct fields) => match v with
      | .agg xs => keyFs P (keyV P d) fields.toList xs
      | _ => false
    | some (.array len e) => match v with
      | .agg xs => match szT P e with
        | some n => keyEs P (keyV P d) e n (List.range len) xs
        | none => false
      | _ => false
    | _ => false
def findA (eq : V → Option Bool) : List ME → Nat → Option (Option (Nat × ME))
  | [], _ => some none
  | e :: es, i => (eq e.key).bind fun b => if b = true then some (some (i, e)) else findA eq es (i + 1)
def findM (P : Program) (kt : TypeId) (k : V) (es : List ME) : Option (Option (Nat × ME)) :=
  if keyV P 8 kt k = true then findA (eqA P 8 kt k) es 0 else none
def mapOf (v : V) (H : Heap) : Option (Nat × List ME × Nat) :=
  match v with
  | .map (some i) => match H.get i with
    | .map es clock => some (i, es, clock)
    | _ => none
  | _ => none
def entsOf (v : V) (H : Heap) : Option (List ME) :=
  match v with
  | .map none => some []
  | _ => (mapOf v H).bind fun m => some m.2.1
def lookM (P : Program) (kt : TypeId) (z : V) (v k : V) (ok : Bool) (H : Heap) : Option V :=
  (entsOf v H).bind fun es => (findM P kt k es).bind fun r => match r with
    | some (_, e) => some (if ok = true then .tuple [e.val, .bool true] else e.val)
    | none => some (if ok = true then .tuple [z, .bool false] else z)
abbrev lookA (P : Program) (t : TypeId) (v k : V) (ok : Bool) (H : Heap) : Option V :=
  match P.underlying t with
  | some (.map kt et) => match zeroT P et with
    | some z => lookM P kt z v k ok H
    | none => none
  | _ => none
def updM (P : Program) (kt : TypeId) (v k x : V) (H : Heap) : Option Heap :=
  (mapOf v H).bind fun m => (findM P kt k m.2.1).bind fun r => match r with
    | some (j, e) => if sameV e.key k = true then some (H.set m.1 (.map (m.2.1.set j { e with key := k, val := x }) m.2.2)) else none
    | none => some (H.set m.1 (.map (m.2.1 ++ [⟨k, x, m.2.2⟩]) (m.2.2 + 1)))
abbrev updA (P : Program) (t : TypeId) (v k x : V) (H : Heap) : Option Heap :=
  match P.underlying t with
  | some (.map kt _) => updM P kt v k x H
  | _ => none
def entM (P : Program) (kt : TypeId) (z : V) (v k : V) (H : Heap) : Option (V × Heap) :=
  (mapOf v H).bind fun m => (findM P kt k m.2.1).bind fun r => match r with
    | some (j, e) => if sameV e.key k = true then some (.tuple [e.val, .int .i64 e.born], H.set m.1 (.map (m.2.1.set j { e with key := k }) m.2.2)) else none
    | none => some (.tuple [z, .int .i64 m.2.2], H.set m.1 (.map (m.2.1 ++ [⟨k, z, m.2.2⟩]) (m.2.2 + 1)))
abbrev entA (P : Program) (t : TypeId) (v k : V) (H : Heap) : Option (V × Heap) :=
  match P.underlying t with
  | some (.map kt et) => match zeroT P et with
    | some z => entM P kt z v k H
    | none => none
  | _ => none
def setBorn (b : Int) (x : V) : List ME → Option (List ME)
  | [] => none
  | e :: es => if (e.born : Int) = b then some ({ e with val := x } :: es) else (setBorn b x es).map (e :: ·)
def entStA (v s x : V) (H : Heap) : Option Heap :=
  (mapOf v H).bind fun m => (asI s).bind fun b => (setBorn b x m.2.1).bind fun es => some (H.set m.1 (.map es m.2.2))
def delM (P : Program) (kt : TypeId) (v k : V) (H : Heap) : Option Heap :=
  match v with
  | .map none => if keyV P 8 kt k = true then some H else none
  | _ => (mapOf v H).bind fun m => (findM P kt k m.2.1).bind fun r => match r with
    | some (j, _) => some (H.set m.1 (.map (m.2.1.eraseIdx j) m.2.2))
    | none => some H
abbrev delA (P : Program) (t : TypeId) (v k : V) (H : Heap) : Option Heap :=
  match P.underlying t with
  | some (.map kt _) => delM P kt v k H
  | _ => none
def clrM (v : V) (H : Heap) : Option Heap :=
  match v with
  | .map none => some H
  | _ => (mapOf v H).bind fun m => some (H.set m.1 (.map [] m.2.2))
def clrS (n : Nat) (z : List V) (v : V) (H : Heap) : Option Heap :=
  match v with
  | .slice s => if s.len = 0 then some H else match s.ad with
    | some (i, o) => match H.get i with
      | .cells cs e false => if s.esz = n ∧ z.all V.one = true ∧ o + s.len * n ≤ cs.length then some (H.set i (.cells (lset cs o (rowA z s.len)) e false)) else none
      | _ => none
    | none => none
  | .list 0 _ _ => some H
  | _ => none
abbrev clearA (P : Program) (t : TypeId) (v : V) (H : Heap) : Option Heap :=
  match P.underlying t with
  | some (.map _ _) => clrM v H
  | some (.slice _) => match elemT P t with
    | some (_, n, _, z) => clrS n z v H
    | none => none
  | _ => none
def rgStr : V → Option O
  | .str s => some (.siter s 0)
  | _ => none
def rgMap (v : V) (H : Heap) : Option O := match v with
  | .map none => some (.miter none 0 [] 0)
  | _ => (mapOf v H).bind fun m => some (.miter (some m.1) m.2.2 [] m.2.2)
abbrev rangeA (P : Program) (t : TypeId) (v : V) (H : Heap) : Option O :=
  match P.underlying t with
  | some .string => rgStr v
  | some (.map _ _) => rgMap v H
  | _ => none
def leftM (seen : List Nat) (es : List ME) : List ME := es.filter fun e => !seen.contains e.born
def nextA (v : V) (isString : Bool) (H : Heap) : Option (V × Heap) :=
  match v, isString with
  | .ptr (some (i, 0)), true => match H.get i with
    | .siter s pos =>
      if pos < s.length then
        some (.tuple [.bool true, .int .i64 pos, .int .i32 (Utf8.decode ⟨s.toArray⟩ pos).1], H.set i (.siter s (pos + (Utf8.decode ⟨s.toArray⟩ pos).2)))
      else some (.tuple [.bool false], H)
    | _ => none
  | .ptr (some (i, 0)), false => match H.get i with
    | .miter none _ _ _ => some (.tuple [.bool false], H)
    | .miter (some m) since seen last => match H.get m with
      | .map es clock => if (!seen.isEmpty && !es.isEmpty && es.all fun e => decide (last ≤ e.born)) = true then none else match leftM seen es with
        | [] => some (.tuple [.bool false], H)
        | [e] => if e.born < since then some (.tuple [.bool true, e.key, e.val], H.set i (.miter (some m) since (seen ++ [e.born]) clock)) else none
        | _ => none
      | _ => none
    | _ => none
  | _, _ => none
def mm2 (mx : Bool) : V → V → Option V
  | .int k x, .int _ y => some (.int k (if mx then (if y > x then y else x) else (if y < x then y else x)))
  | _, _ => none
def mmA (mx : Bool) : List V → Option V
  | [] => none
  | x :: xs => xs.foldlM (mm2 mx) x
abbrev bd {α β : Type} (x : Option α) (f : α → Option β) : Option β :=
  match x with
  | some a => f a
  | none => none
@[simp] theorem bd_some {α β : Type} (a : α) (f : α → Option β) : bd (some a) f = f a := rfl
@[simp] theorem bd_none {α β : Type} (f : α → Option β) : bd none f = none := rfl
abbrev R := V × Heap
inductive X where
  | normal
  | exit (id : Nat)
  | ret
abbrev K := X → Env → Heap → Option R
structure Cfg where
  P : Program
  tabs : FuncId → Option (List (Nat × List Nat))
  ext : FuncId → Option (List V → Heap → Option R)
  fa : FuncId → Bool := fun _ => false
  fr : FuncId → Bool := fun _ => false
  pu : FuncId → Bool := fun _ => false
  okc : Nat → Code → Bool := fun _ _ => false
mutual
def V.free : V → Bool
  | .bool _ | .int _ _ | .str _ | .nilFunc | .nilIface | .ptr none | .map none => true
  | .slice s => s.ad.isNone
  | .agg cs => V.frees cs
  | .tuple cs => V.frees cs
  | .list _ _ cs => V.frees cs
  | _ => false
def V.frees : List V → Bool
  | [] => true
  | v :: vs => v.free && V.frees vs
end
def frzL (rc : V → Option (V × List Nat)) : List V → Option (List V × List Nat)
  | [] => some ([], [])
  | v :: vs => match rc v with
    | some p => match frzL rc vs with
      | some q => some (p.1 :: q.1, p.2 ++ q.2)
      | none => none
    | none => none
def frzV (H : Heap) : Nat → V → Option (V × List Nat)
  | 0, _ => none
  | d + 1, v => match v with
    | .slice s => if s.len = 0 then some (.list 0 0 [], []) else match s.ad with
      | none => none
      | some (i, o) => match H.get i with
        | .cells cs _ _ => if o + s.len * s.esz ≤ cs.length then match frzL (frzV H d) ((cs.drop o).take (s.len * s.esz)) with
            | some p => some (.list s.len s.esz p.1, i :: p.2)
            | none => none
          else none
        | _ => none
    | .agg cs => match frzL (frzV H d) cs with
      | some p => some (.agg p.1, p.2)
      | none => none
    | .tuple cs => match frzL (frzV H d) cs with
      | some p => some (.tuple p.1, p.2)
      | none => none
    | v => some (v, [])
def O.fix : O → O
  | .cells cs e _ => .cells cs e true
  | o => o
def killL : List Nat → Heap → Heap
  | [], H => H
  | i :: is, H => killL is (H.set i (H.get i).fix)
def frzR (v : V) (H : Heap) : Option R := match frzV H 6 v with
  | some p => some (p.1, killL p.2 H)
  | none => none
def frzAs (args : List V) (H : Heap) : Option (List V × Heap) := match frzL (frzV H 6) args with
  | some p => some (p.1, killL p.2 H)
  | none => none
abbrev yB : Nat := 1000000000000
abbrev callV (call : FuncId → List V → Heap → Option R) (f : V) (args : List V) (H : Heap) : Option R :=
  match f with
  | .func (.func g) first cap => if g < yB then call g (first ++ args ++ cap) H else none
  | .yld j => call (yB + j) args H
  | _ => none
def entryA (v : V) (H : Heap) : Option V :=
  match v with
  | .ptr (some (i, 0)) => match H.get i with
    | .miter (some m) _ seen last => match H.get m with
      | .map es clock => if clock = last then (seen.getLast?).bind fun b => (es.find? fun e => e.born == b).bind fun e => some (.tuple [e.key, e.val]) else none
      | _ => none
    | _ => none
  | _ => none
abbrev valA (P : Program) (env : Env) (o : Op) (H : Heap) : Option V :=
  match o with
  | .move x | .assign x => some (opd env x)
  | .pick c a b => bd (asB (opd env c)) fun t => some (if t = true then opd env a else opd env b)
  | .build t ps => buildA P t (ps.toList.map fun p => (p.1, opd env p.2))
  | .load t a => loadA P t (opd env a) H
  | .nilCheck x => nilC (opd env x)
  | .binOp op t x y _ => binA P op t (opd env x) (opd env y)
  | .unOp op _ x => unA op (opd env x)
  | .convert s d x => convA P s d (opd env x) H
  | .makeInterface t x => match P.underlying t with
    | some (.interface _) => none
    | some _ => some (.iface t (opd env x))
    | none => none
  | .makeFunc fn fs cs => if okFn fn = true then some (.func fn (fs.toList.map (opd env)) (cs.toList.map (opd env))) else none
  | .slice t x l h m => sliceA P t (opd env x) (l.map (opd env)) (h.map (opd env)) (m.map (opd env)) H
  | .fieldAddr t x f => fieldAddrA P t (opd env x) f
  | .field t x f => fieldA P t (opd env x) f
  | .indexAddr t x i => indexAddrA P t (opd env x) (opd env i)
  | .index t x i => indexA P t (opd env x) (opd env i)
  | .lookup t x i ok => lookA P t (opd env x) (opd env i) ok H
  | .typeAssert x _ t ok => assertA P (opd env x) t ok
  | .extract x i => extA (opd env x) i
  | .entry x => entryA (opd env x) H
  | .call { callee := .builtin .len, args, argTypes } => match args.toList, argTypes[0]? with
    | [x], some t => lenA P t (opd env x) H
    | _, _ => none
  | .call { callee := .builtin .unsafeSliceData, args, .. } => match args.toList with
    | [x] => slData (opd env x)
    | _ => none
  | .call { callee := .builtin .cap, args, argTypes } => match args.toList, argTypes[0]? with
    | [x], some t => capA P t (opd env x)
    | _, _ => none
  | .call { callee := .builtin .max, args, .. } => mmA true (args.toList.map (opd env))
  | .call { callee := .builtin .min, args, .. } => mmA false (args.toList.map (opd env))
  | _ => none
abbrev bltA (P : Program) (b : Builtin) (ts : Array TypeId) (args : List V) (H : Heap) (k : V → Heap → Option R) : Option R :=
  match b, args with
  | .append, [x, y] => match ts[0]?, ts[1]? with
    | some t, some u => match P.underlying t, P.underlying u with
      | some (.slice _), some (.slice _) | some (.slice _), some .string => match elemT P t with
        | some (e, n, by_, _) => bd (appA n by_ e x y H) fun p => k p.1 p.2
        | none => none
      | _, _ => none
    | _, _ => none
  | .copy, [x, y] => match ts[0]? with
    | some t => match elemT P t with
      | some (_, n, _, _) => bd (copyA n x y H) fun p => k p.1 p.2
      | none => none
    | none => none
  | .delete, [x, y] => match ts[0]? with
    | some t => bd (delA P t x y H) fun H => k (.tuple []) H
    | none => none
  | .clear, [x] => match ts[0]? with
    | some t => bd (clearA P t x H) fun H => k (.tuple []) H
    | none => none
  | .unsafeString, [x, y] => match ts[0]? with
    | some t => bd (unStrA P t x y H) fun p => k p.1 p.2
    | none => none
  | _, _ => none
abbrev stepA (P : Program) (call : FuncId → List V → Heap → Option R) (r : Option Nat) (env : Env) (o : Op) (H : Heap) (k : V → Heap → Option R) : Option R :=
  match o with
  | .alloc t => match zeroT P t with
    | some z => bd (boxA t z) fun o => k (.ptr (some ((newA r o H).1, 0))) (newA r o H).2
    | none => none
  | .box t x => bd (boxA t (opd env x)) fun o => k (.ptr (some ((newA r o H).1, 0))) (newA r o H).2
  | .buildSlice t len ps => match elemT P t with
    | some (e, n, _, z) => bd (bSl n e z len (ps.toList.map fun p => (p.1, opd env p.2))) fun o =>
      k (.slice ⟨some ((newA r o H).1, 0), len, n, false⟩) (newA r o H).2
    | none => none
  | .makeMap t rs => match rs, P.underlying t with
    | none, some (.map _ _) => k (.map (some (newA r (.map [] 0) H).1)) (newA r (.map [] 0) H).2
    | _, _ => none
  | .makeSlice t l c => match elemT P t with
    | some (e, n, by_, z) => bd (mkSl n by_ e z (opd env l) (opd env c)) fun o =>
      k (.slice ⟨some ((newA r o.1 H).1, 0), o.2, n, false⟩) (newA r o.1 H).2
    | none => none
  | .store t a x => match szT P t with
    | some n => bd (stA n (opd env a) (opd env x) H) fun H => k (.tuple []) H
    | none => none
  | .mapUpdate t m i x | .insert t m i x => bd (updA P t (opd env m) (opd env i) (opd env x) H) fun H => k (.tuple []) H
  | .mapEntry t m i => bd (entA P t (opd env m) (opd env i) H) fun p => k p.1 p.2
  | .entryStore _ m s x => bd (entStA (opd env m) (opd env s) (opd env x) H) fun H => k (.tuple []) H
  | .range t x => bd (rangeA P t (opd env x) H) fun o => k (.ptr (some ((newA r o H).1, 0))) (newA r o H).2
  | .next x s => bd (nextA (opd env x) s H) fun p => k p.1 p.2
  | .call { callee := .value f, args, .. } => bd (callV call (opd env f) (args.toList.map (opd env)) H) fun p => k p.1 p.2
  | .call { callee := .builtin .append, args, argTypes } => bltA P .append argTypes (args.toList.map (opd env)) H k
  | .call { callee := .builtin .copy, args, argTypes } => bltA P .copy argTypes (args.toList.map (opd env)) H k
  | .call { callee := .builtin .delete, args, argTypes } => bltA P .delete argTypes (args.toList.map (opd env)) H k
  | .call { callee := .builtin .clear, args, argTypes } => bltA P .clear argTypes (args.toList.map (opd env)) H k
  | .call { callee := .builtin .unsafeString, args, argTypes } => bltA P .unsafeString argTypes (args.toList.map (opd env)) H k
  | o => bd (valA P env o H) fun v => k v H
abbrev putV (dst : Option Tmp) (v : V) (env : Env) : Env :=
  match dst with
  | some d => (d, v) :: env
  | none => env
abbrev putN (dst : Option Tmp) (env : Env) : Env :=
  match dst with
  | some d => (d, .tuple []) :: (d, .tuple []) :: env
  | none => env
abbrev mk (t : Nat) : Env → Bool
  | [] => false
  | (u, _) :: e => if t = u then (match e with
    | [] => false
    | (u', _) :: _ => decide (t = u')) else mk t e
abbrev guarded (env : Env) (g : Option (Nat × Bool)) (slot : Nat → Option Tmp) (yes no : Env → Option R) : Option R :=
  match g with
  | none => yes env
  | some (j, want) => match slot j with
    | some t => if mk t env = true then (match lk t env with
        | .tuple [] => no env
        | .bool true => (if want = true then yes else no) ((t, .bool true) :: env)
        | .bool false => (if want = true then no else yes) ((t, .bool false) :: env)
        | _ => none)
      else bd (asB (lk t env)) fun b => if b = true then (if want = true then yes else no) ((t, .bool true) :: env) else (if want = true then no else yes) ((t, .bool false) :: env)
    | none => none
abbrev runOps (P : Program) (call : FuncId → List V → Heap → Option R) (slot : Nat → Option Tmp) : List Oper → Env → Heap → (Env → Heap → Option R) → Option R
  | [], env, H, k => k env H
  | o :: os, env, H, k =>
    guarded env o.guard slot
      (fun env => stepA P call none env o.op H fun v H => runOps P call slot os (putV o.dst v env) H k)
      (fun env => runOps P call slot os (putN o.dst env) H k)
mutual
def V.beq : V → V → Bool
  | .bool a, .bool b => a == b
  | .int j a, .int k b => j == k && a == b
  | .str a, .str b => a == b
  | .ptr a, .ptr b => a == b
  | .slice s, .slice u => s.ad == u.ad && s.len == u.len && s.esz == u.esz && s.full == u.full
  | .map a, .map b => a == b
  | .nilFunc, .nilFunc => true
  | .nilIface, .nilIface => true
  | .iface t v, .iface u w => t == u && v.beq w
  | .agg a, .agg b => V.beqs a b
  | .tuple a, .tuple b => V.beqs a b
  | .func f a b, .func g c d => f == g && V.beqs a c && V.beqs b d
  | .list n z a, .list k y b => n == k && z == y && V.beqs a b
  | .lptr a, .lptr b => V.beqs a b
  | _, _ => false
def V.beqs : List V → List V → Bool
  | [], [] => true
  | a :: las, b :: bs => a.beq b && V.beqs las bs
  | _, _ => false
end
inductive Kd where
  | pure
  | read
  | make
  | eff
  deriving DecidableEq
def isSl (P : Program) (t : TypeId) : Bool :=
  match P.underlying t with
  | some (.slice _) | some .string => true
  | _ => false
def kind (P : Program) : Op → Kd
  | .move _ | .assign _ | .pick .. | .build .. | .binOp .. | .unOp .. | .fieldAddr .. | .field .. | .indexAddr .. | .index .. | .typeAssert .. | .extract .. | .makeInterface .. | .makeFunc .. | .nilCheck _ => .pure
  | .convert s _ _ => match P.underlying s with
    | some (.int _) | some .string => .pure
    | _ => .read
  | .slice t .. => if isSl P t then .pure else .eff
  | .load .. | .lookup .. | .entry _ => .read
  | .alloc _ | .box .. | .buildSlice .. | .makeMap .. | .makeSlice .. => .make
  | .call { callee := .builtin .len, argTypes, .. } => match argTypes[0]? with
    | some t => if isSl P t then .pure else .read
    | none => .eff
  | .call { callee := .builtin .max, .. } | .call { callee := .builtin .min, .. } => .pure
  | _ => .eff
structure DStep where
  i : Nat
  kd : Kd
  r : Nat
  past : Nat
def aheadOf (ops : Array Oper) : Array Nat := Region.before ops
def effs (P : Program) (ops : Array Oper) : List Nat := (List.range ops.size).filter fun i => kind P (ops.getD i default).op = .eff
def chainB (b : Array Nat) : List Nat → Bool
  | i :: j :: r => (b.getD j 0).testBit i && chainB b (j :: r)
  | _ => true
def orderGo (n : Nat) (b : Array Nat) : List Nat → List Nat → List Nat
  | [], done => (List.range n).filter fun i => !done.contains i
  | e :: es, done =>
    let g := (List.range n).filter fun i => !done.contains i && (b.getD e 0).testBit i
    g ++ e :: orderGo n b es (e :: g ++ done)
def numMade (P : Program) (ops : Array Oper) (l : List Nat) : List (Nat × Nat) :=
  (l.filter fun i => kind P (ops.getD i default).op = .make).zipIdx
def plan (P : Program) (ops : Array Oper) : Option (Nat × List DStep) :=
  let b := aheadOf ops
  let es := effs P ops
  let dsts : List Nat := ops.toList.filterMap (·.dst)
  if chainB b es && decide dsts.Nodup then
    let l := orderGo ops.size b es []
    let made := numMade P ops (List.range ops.size)
    some (made.length, l.map fun i =>
      let kd := kind P (ops.getD i default).op
      { i, kd, r := (made.lookup i).getD 0,
        past := if kd = .read then ((es.takeWhile fun e => !((b.getD e 0).testBit i)).filter fun e => !((b.getD i 0).testBit e)).length else 0 })
  else none
def chk (r : Option V) (v : V) : Option Unit := r.bind fun u => if V.beq u v = true then some () else none
abbrev pastK (P : Program) (env : Env) (o : Op) (v : V) (k : Option R) : List Heap → Option R
  | [] => k
  | H :: Hs => bd (chk (valA P env o H) v) fun _ => pastK P env o v k Hs
abbrev runD (P : Program) (call : FuncId → List V → Heap → Option R) (ops : Array Oper) (slot : Nat → Option Tmp) (base : Nat) :
    List DStep → Env → Heap → List Heap → Heap → (Env → Heap → Option R) → Option R
  | [], env, _, _, H, k => k env H
  | s :: ss, env, Hk, hist, H, k =>
    match ops[s.i]? with
    | none => none
    | some o =>
      guarded env o.guard slot
        (fun env => match s.kd with
          | .pure => bd (valA P env o.op ⟨0, .nil⟩) fun v => runD P call ops slot base ss (putV o.dst v env) Hk hist H k
          | .read => bd (valA P env o.op Hk) fun v => pastK P env o.op v (runD P call ops slot base ss (putV o.dst v env) Hk hist H k) (hist.take s.past)
          | .make => stepA P call (some (base + s.r)) env o.op H fun v H => runD P call ops slot base ss (putV o.dst v env) Hk hist H k
          | .eff => stepA P call none env o.op H fun v H => runD P call ops slot base ss (putV o.dst v env) H (Hk :: hist) H k)
        (fun env => match s.kd with
          | .eff => runD P call ops slot base ss (putN o.dst env) H (Hk :: hist) H k
          | _ => runD P call ops slot base ss (putN o.dst env) Hk hist H k)
abbrev regA (P : Program) (call : FuncId → List V → Heap → Option R) (ops : Array Oper) (draw : Bool) (env : Env) (H : Heap) (k : Env → Heap → Option R) : Option R :=
  if draw = true then
    match plan P ops with
    | some (m, l) => runD P call ops (fun j => (ops[j]?).bind (·.dst)) H.n l env (H.more m) [] (H.more m) k
    | none => none
  else runOps P call (fun j => (ops[j]?).bind (·.dst)) ops.toList env H k
abbrev keep (L : Option (List Nat)) (env : Env) : Env :=
  match L with
  | some l => l.map fun t => (t, lk t env)
  | none => env
abbrev lkL (r : Nat) : List (Nat × List Nat) → Option (List Nat)
  | [] => none
  | (q, l) :: rest => if r = q then some l else lkL r rest
abbrev firstR : Code → Option Nat
  | .region id _ _ => some id
  | .seq a b => match firstR a with
    | some r => some r
    | none => firstR b
  | .cond _ a b => match firstR a with
    | some r => some r
    | none => firstR b
  | .block _ c => firstR c
  | .loop c => firstR c
  | .scope c => firstR c
  | _ => none
abbrev tabOf (tab : List (Nat × List Nat)) (c : Code) : Option (List Nat) := (firstR c).bind fun r => lkL r tab
abbrev startR : Code → Option Nat
  | .region id _ _ => some id
  | .seq .skip b => startR b
  | .seq a _ => startR a
  | .block _ c => startR c
  | .loop c => firstR c
  | _ => none
abbrev tabS (tab : List (Nat × List Nat)) (c : Code) : Option (List Nat) := (startR c).bind fun r => lkL r tab
abbrev kS (e : Env → Heap → K → Option R) (L : Option (List Nat)) (k : K) : K := fun x env H => match x with
  | .normal => e (keep L env) H k
  | x => k x env H
abbrev kB (id : Nat) (k : K) : K := fun x env H => match x with
  | .exit j => if j = id then k .normal env H else k (.exit j) env H
  | x => k x env H
def loopA (e : Env → Heap → K → Option R) (L : Option (List Nat)) : Nat → Env → Heap → K → Option R
  | 0, _, _, _ => none
  | m + 1, env, H, k => e env H (kS (loopA e L m) L k)
abbrev endA (j : Nat) (env : Env) (H : Heap) (k : K) : Option R := match H.get j with
  | .loop _ st pend _ _ _ _ _ => match st with
    | .busy => none
    | _ => match pend with
      | none => k .normal env (H.set j .none)
      | some .ret => k .ret env (H.set j .none)
      | some (.exit id) => k (.exit id) env (H.set j .none)
      | _ => none
  | _ => none
abbrev keepR (tab : List (Nat × List Nat)) (a b : Code) (env : Env) : Env := match a with
  | .skip => keep (tabS tab b) env
  | a => keep (tabS tab a) env
abbrev roOk (ro : Option Nat) (H : Heap) : Bool := match ro with
  | none => true
  | some j => match H.get j with
    | .loop .. => true
    | _ => false
def hasBody (P : Program) (f : FuncId) : Bool := match P.funcs[f]? with
  | some fn => fn.body.isSome && !(fn.name == "runtime.NumGoroutine")
  | none => false
def exec (P : Program) (call : FuncId → List V → Heap → Option R) (tab : List (Nat × List Nat)) (N : Nat) (ro : Option Nat) (n : Nat) : Code → Env → Heap → K → Option R
  | .skip, env, H, k => k .normal env H
  | .label _, env, H, k => k .normal env H
  | .region _ ops draw, env, H, k => regA P call ops draw env H (k .normal)
  | .seq a b, env, H, k => exec P call tab N ro n a env H (kS (exec P call tab N ro n b) (tabS tab b) k)
  | .cond c a b, env, H, k => bd (asB (opd env c)) fun t => if t = true then exec P call tab N ro n a env H k else exec P call tab N ro n b env H k
  | .block id c, env, H, k => exec P call tab N ro n c env H (kB id k)
  | .loop c, env, H, k => loopA (exec P call tab N ro n c) (tabOf tab c) n (keep (tabOf tab c) env) H k
  | .exit id, env, H, k => k (.exit id) env H
  | .ret, env, H, k => k .ret env H
  | .rangeFunc f ps a b, env, H, k => match opd env f with
    | .func (.func g) fs cs => if g < yB ∧ hasBody P g = true ∧ roOk ro H = true then
        bd (call g (fs ++ [.yld H.n] ++ cs) (H.push (.loop N .ready none tab (keepR tab a b env) ps.toList a b))) fun p => endA H.n env p.2 k
      else none
    | _ => none
  | _, _, _, _ => none
abbrev resA (P : Program) (env : Env) (H : Heap) : List ResultVar → (List V → Option R) → Option R
  | [], k => k []
  | .tmp t :: rs, k => resA P env H rs fun vs => k (lk t env :: vs)
  | .cell a t :: rs, k => bd (loadA P t (lk a env) H) fun v => resA P env H rs fun vs => k (v :: vs)
abbrev oneV (H : Heap) : List V → Option R
  | [v] => some (v, H)
  | vs => some (.tuple vs, H)
abbrev exitA (b : Bool) (r : Option R) : Option R := if b = true then match r with
    | some r => frzR r.1 r.2
    | none => none
  else r
abbrev kRet (P : Program) (b : Bool) (rs : List ResultVar) : K := fun x env H => match x with
  | .exit _ => none
  | _ => resA P env H rs fun vs => exitA b (oneV H vs)
abbrev inA (b : Bool) (args : List V) (H : Heap) (k : List V → Heap → Option R) : Option R := if b = true then match frzAs args H with
    | some p => k p.1 p.2
    | none => none
  else k args H
abbrev pureA (args : List V) (H : Heap) (run : List V → Option R) : Option R := match frzAs args H with
  | some p => if V.frees p.1 = true then match run p.1 with
      | some r => if r.1.free = true then some (r.1, p.2) else none
      | none => none
    else none
  | none => none
abbrev argsA : Nat → List V → Env
  | _, [] => []
  | i, v :: vs => (i, v) :: argsA (i + 1) vs
abbrev Cfg.tab (C : Cfg) (f : FuncId) : List (Nat × List Nat) := (C.tabs f).getD []
def setA : List Nat → List V → Env → Env
  | t :: ts, v :: vs, env => setA ts vs ((t, v) :: env)
  | _, _, env => env
abbrev kY (j : Nat) : K := fun x _ H => match H.get j with
  | .loop N _ _ tab env ps a b => match x with
    | .normal => some (.bool true, H.set j (.loop N .ready none tab env ps a b))
    | .ret => some (.bool false, H.set j (.loop N .done (some .ret) tab env ps a b))
    | .exit id => some (.bool false, H.set j (.loop N .done (some (.exit id)) tab env ps a b))
  | _ => none
abbrev kG (j : Nat) (run : Env → Heap → K → Option R) : K := fun x env1 H => match x with
  | .normal => match H.get j with
    | .loop N .ready pend tab env ps a b => run env1 (H.set j (.loop N .busy pend tab env ps a b)) (kY j)
    | _ => none
  | _ => none
def yieldA (C : Cfg) (run : List (Nat × List Nat) → Nat → Code → Env → Heap → K → Option R) (j : Nat) (args : List V) (H : Heap) : Option R := match H.get j with
  | .loop N .ready _ tab env ps a b => if ps.length = args.length ∧ C.okc N a = true ∧ C.okc N b = true ∧ ps.all (fun t => decide (t < N)) = true then
      run tab N a (setA ps args env) H (kG j (run tab N b))
    else none
  | _ => none
def callA (C : Cfg) : Nat → FuncId → List V → Heap → Option R
  | 0, _, _, _ => none
  | n + 1, f, args, H =>
    if yB ≤ f then yieldA C (fun tab N c => exec C.P (callA C n) tab N (some (f - yB)) n c) (f - yB) args H else
    match C.ext f with
    | some g => g args H
    | none => match C.tabs f with
      | some tab => match C.P.funcs[f]? with
        | some fn => match fn.body with
          | some c => if C.pu f = true then pureA args H fun args => exec C.P (callA C n) tab fn.ntmps none n c (argsA 0 args) ⟨0, .nil⟩ (kRet C.P (C.fr f) fn.results.toList)
            else inA (C.fa f) args H fun args H => exec C.P (callA C n) tab fn.ntmps none n c (argsA 0 args) H (kRet C.P (C.fr f) fn.results.toList)
          | none => none
        | none => none
      | none => none
def cdAt : Code → List Nat → Code
  | c, [] => c
  | .seq a b, i :: is => if i = 0 then cdAt a is else cdAt b is
  | .cond _ a b, i :: is => if i = 0 then cdAt a is else cdAt b is
  | .block _ c, _ :: is => cdAt c is
  | .loop c, _ :: is => cdAt c is
  | .rangeFunc _ _ a b, i :: is => if i = 0 then cdAt a is else cdAt b is
  | .scope c, _ :: is => cdAt c is
  | _, _ :: _ => .skip
abbrev fnA (C : Cfg) (f : FuncId) : Func := (C.P.funcs[f]?).getD default
abbrev cd (C : Cfg) (f : FuncId) (p : List Nat) : Code := cdAt ((fnA C f).body.getD .skip) p
abbrev E (C : Cfg) (n : Nat) (f : FuncId) (p : List Nat) : Env → Heap → K → Option R := exec C.P (callA C n) (C.tab f) (fnA C f).ntmps none n (cd C f p)
abbrev Lp (C : Cfg) (n : Nat) (f : FuncId) (p : List Nat) : Nat → Env → Heap → K → Option R := loopA (E C n f p) (tabOf (C.tab f) (cd C f p))
abbrev kL (C : Cfg) (n : Nat) (f : FuncId) (p : List Nat) (m : Nat) (k : K) : K := kS (Lp C n f p m) (tabOf (C.tab f) (cd C f p)) k
abbrev kC (C : Cfg) (n : Nat) (f : FuncId) (p : List Nat) (k : K) : K := kS (E C n f p) (tabS (C.tab f) (cd C f p)) k
abbrev kR (C : Cfg) (f : FuncId) : K := kRet C.P (C.fr f) (fnA C f).results.toList
end Go.AM
end
section
set_option linter.unusedVariables false
set_option linter.unusedSimpArgs false
namespace Go.AM
def bnd {α β : Type} (x : Option α) (f : α → Option β) : Option β :=
  match x with
  | some a => f a
  | none => none
@[simp] theorem bnd_some {α β : Type} (a : α) (f : α → Option β) : bnd (some a) f = f a := (Eq.refl _).trans (Eq.refl _)
@[simp] theorem bnd_none {α β : Type} (f : α → Option β) : bnd none f = none := (Eq.refl _).trans (Eq.refl _)
abbrev B2 := {α β : Type} → Option α → (α → Option β) → Option β
theorem bd_bnd {T : Type} {x : T} (f : B2 → T) (h : x = f @bd) : x = f @bnd := h.trans (by
  have : (@bd : B2) = @bnd := rfl
  rw [this])
def Tot (c : Nat → Option R) (Q : V → Heap → Prop) : Prop := ∃ v H, Q v H ∧ ∃ n0, ∀ n, n0 ≤ n → c n = some (v, H)
def Big (m : Nat → Nat) : Prop := ∀ k, ∃ n0, ∀ n, n0 ≤ n → k ≤ m n
theorem Big.id : Big fun n => n := fun k => ⟨k, fun _ h => h⟩
theorem Tot.eq {c c' : Nat → Option R} {Q : V → Heap → Prop} (he : ∀ n, c n = c' n) (h : Tot c' Q) : Tot c Q := by
  rw [show c = c' from funext he]; exact h
theorem Tot.ret {v : V} {H : Heap} {Q : V → Heap → Prop} (h : Q v H) : Tot (fun _ => some (v, H)) Q := ⟨v, H, h, 0, fun _ _ => rfl⟩
theorem Tot.mono {c : Nat → Option R} {Q Q' : V → Heap → Prop} (h : Tot c Q) (k : ∀ v H, Q v H → Q' v H) : Tot c Q' := by
  obtain ⟨v, H, h1, h2⟩ := h
  exact ⟨v, H, k _ _ h1, h2⟩
theorem Tot.of {c : Nat → Option R} {P : V → Heap → Prop} (h : ∀ Q : V → Heap → Prop, (∀ v H, P v H → Q v H) → Tot c Q) : Tot c P := h P fun _ _ x => x
theorem Tot.bind {f : Nat → Option R} {k : Nat → R → Option R} {Q Q' : V → Heap → Prop} (hf : Tot f Q') (hk : ∀ v H, Q' v H → Tot (fun n => k n (v, H)) Q) : Tot (fun n => bnd (f n) (k n)) Q := by
  obtain ⟨v, H, h1, n0, h2⟩ := hf
  obtain ⟨u, G, h3, n1, h4⟩ := hk v H h1
  refine ⟨u, G, h3, max n0 n1, fun n hn => ?_⟩
  show bnd (f n) (k n) = _
  rw [h2 n (by omega)]
  exact h4 n (by omega)
theorem Tot.fn {f g : Nat → Option R} {Q : V → Heap → Prop} (he : ∀ n, f (n + 1) = g n) (h : Tot g Q) : Tot f Q := by
  obtain ⟨v, H, h1, n0, h2⟩ := h
  refine ⟨v, H, h1, n0 + 1, fun n hn => ?_⟩
  obtain ⟨m, rfl⟩ : ∃ m, n = m + 1 := ⟨n - 1, by omega⟩
  rw [he]
  exact h2 m (by omega)
theorem Tot.loop {f g : Nat → Nat → Option R} {Q : V → Heap → Prop} {m : Nat → Nat} (hm : Big m) (he : ∀ n k, f n (k + 1) = g n k) (h : ∀ m', Big m' → Tot (fun n => g n (m' n)) Q) : Tot (fun n => f n (m n)) Q := by
  obtain ⟨v, H, h1, n0, h2⟩ := h (fun n => m n - 1) (fun k => by obtain ⟨n0, h⟩ := hm (k + 1); exact ⟨n0, fun n hn => by have := h n hn; show k ≤ m n - 1; omega⟩)
  obtain ⟨n1, h3⟩ := hm 1
  refine ⟨v, H, h1, max n0 n1, fun n hn => ?_⟩
  show f n (m n) = _
  have h4 := h3 n (by omega)
  have h5 := h2 n (by omega)
  have h6 := he n (m n - 1)
  rw [show m n - 1 + 1 = m n by omega] at h6
  rw [h6]; exact h5
theorem Tot.ite {c : Prop} [Decidable c] {a b : Nat → Option R} {Q : V → Heap → Prop} (ha : c → Tot a Q) (hb : ¬c → Tot b Q) : Tot (fun n => if c then a n else b n) Q := by
  by_cases h : c
  · simp only [h, if_true]; exact ha h
  · simp only [h, if_false]; exact hb h
theorem Tot.at {c : Nat → Option R} {v : V} {Q : Heap → Prop} (h : Tot c fun u H => u = v ∧ Q H) : ∃ n H, c n = some (v, H) := by
  obtain ⟨u, H, ⟨rfl, _⟩, n0, h2⟩ := h
  exact ⟨n0, H, h2 n0 (Nat.le_refl _)⟩
end Go.AM
end
section
set_option linter.unusedVariables false
set_option linter.unusedSimpArgs false
namespace Go.AM
open Go.RowKit (Below)
section
variable {P : Program} {B : Nat} {w0 w : World} {μ : Mu} {H : Heap}
theorem ofOne_rel (μ : Mu) (x : Value) : VRel μ (V.ofOne x) x := by
  unfold V.ofOne
  split <;> simp [VRel]
theorem ofOnes_rel (μ : Mu) : ∀ (xs : List Value), VRels μ (xs.map V.ofOne) xs
  | [] => by simp [VRels]
  | x :: xs => by simp only [List.map_cons, VRels]; exact ⟨x, xs, rfl, ofOne_rel μ x, ofOnes_rel μ xs⟩
theorem ofValue_rel (μ : Mu) (x : Value) : VRel μ (V.ofValue x) x := by
  unfold V.ofValue
  split
  · rename_i cs
    simp only [VRel]
    exact ⟨cs, rfl, ofOnes_rel μ _⟩
  · rename_i vs
    split
    · rename_i h
      simp only [VRel, VRels]
      exact ⟨vs, rfl, by simpa using h⟩
    · simp [VRel]
  · exact ofOne_rel μ x
theorem run_isAgg {t : TypeId} {b : Bool} (h : aggT P t = some b) : (isAgg t).run P w = .ok b w := by
  unfold aggT at h
  unfold isAgg underlying
  simp only [Sem.run_bind, run_program, Result.andThen_ok]
  split at h
  · rename_i fs e
    simp at h; subst h; rw [e]; simp
  · rename_i n e e'
    simp at h; subst h; rw [e']; simp
  · rename_i d n1 n2 e
    simp at h; subst h; rw [e]
    simp only [Sem.run_pure, Result.andThen_ok]
  · simp at h
theorem run_sizeOf {t : TypeId} {n : Nat} (h : szT P t = some n) : (sizeOf t).run P w = .ok n w := by
  unfold szT at h
  unfold sizeOf typeInfo
  simp only [Sem.run_bind, run_program, Result.andThen_ok]
  cases hi : P.info? t with
  | none => simp [hi] at h
  | some i => simp [hi] at h; simp [h]
theorem run_typeInfo {t : TypeId} {i : TypeInfo} (h : P.info? t = some i) : (typeInfo t).run P w = .ok i w := by
  unfold typeInfo; simp [h]
theorem run_und {t : TypeId} {d : TypeDesc} (h : P.underlying t = some d) : (underlying t).run P w = .ok d w := by
  unfold underlying; simp [h]
theorem run_zero {t : TypeId} {z : V} (μ : Mu) (h : zeroT P t = some z) : ∃ x, (zeroValue t).run P w = .ok x w ∧ VRel μ z x := by
  unfold zeroT at h
  cases hi : P.info? t with
  | none => simp [hi] at h
  | some i =>
    cases hz : i.zero with
    | none => simp [hi, hz] at h
    | some x =>
      simp [hi, hz] at h; subst h
      exact ⟨x, by unfold zeroValue typeInfo; simp [hi, hz], ofValue_rel μ x⟩
theorem addr_add (b o j : Nat) : (⟨b, o, none⟩ : Addr).add j = ⟨b, o + j, none⟩ := by
  unfold Addr.add
  split
  · rename_i h; subst h; rfl
  · rfl
theorem ORel.cell {cs : List V} {e : TypeId} {ro : Bool} {L : Loc} (h : ORel μ B (.cells cs e ro) L w) {j : Nat} {v : V} (hj : cs[j]? = some v) :
    v.one = true ∧ ∃ x, w.cell? ⟨L.b, L.base + j, none⟩ = some x ∧ VRel μ v x := by
  obtain ⟨c, e', fr, hb, hs, hl, hc, _⟩ := h
  obtain ⟨h1, x, hx, hr⟩ := hc j v hj
  refine ⟨h1, x, ?_, hr⟩
  simp [World.cell?, hb, hx]
theorem getElem?_isSome_of_lt {α : Type} {l : List α} {i : Nat} (h : i < l.length) : ∃ x, l[i]? = some x := ⟨l[i], List.getElem?_eq_getElem h⟩
theorem ORel.cellsAt {cs : List V} {e : TypeId} {ro : Bool} {L : Loc} (h : ORel μ B (.cells cs e ro) L w) {o n : Nat} (hn : o + n ≤ cs.length) :
    ∃ xs : List Value, xs.length = n ∧ VRels μ ((cs.drop o).take n) xs ∧ (∀ j x, xs[j]? = some x → w.cell? ⟨L.b, L.base + o + j, none⟩ = some x) ∧ ((cs.drop o).take n).all V.one = true ∧ ∀ x ∈ xs, x.oneCell' = true := by
  induction n generalizing o with
  | zero => exact ⟨[], rfl, by simp [VRels], by simp, by simp, by simp⟩
  | succ n ih =>
    obtain ⟨v, hv⟩ := getElem?_isSome_of_lt (l := cs) (i := o) (by omega)
    obtain ⟨h1, x, hx, hr⟩ := h.cell hv
    obtain ⟨xs, a, b, c, d, e1⟩ := ih (o := o + 1) (by omega)
    have hd : cs.drop o = v :: cs.drop (o + 1) := by
      have := List.getElem?_eq_some_iff.1 hv
      obtain ⟨hlt, he⟩ := this
      rw [List.drop_eq_getElem_cons hlt, he]
    refine ⟨x :: xs, by simp [a], ?_, ?_, ?_, ?_⟩
    · rw [hd]; simp only [List.take_succ_cons, VRels]; exact ⟨x, xs, rfl, hr, b⟩
    · intro j y hj
      cases j with
      | zero => simp at hj; subst hj; simpa using hx
      | succ j =>
        simp at hj
        have := c j y hj
        rwa [show L.base + (o + 1) + j = L.base + o + (j + 1) by omega] at this
    · rw [hd]; simp [h1]; simpa using d
    · intro y hy
      simp only [List.mem_cons] at hy
      rcases hy with rfl | hy
      · have := hr.isOne h1
        cases y <;> simp_all [AM.isOne, Value.oneCell']
      · exact e1 y hy
theorem Rel.ptr (h : Rel B w0 μ H w) {i o : Nat} {x : Value} (hx : VRel μ (.ptr (some (i, o))) x) : ∃ L, μ i = some L ∧ x = .pointer (some ⟨L.b, L.base + o, none⟩) ∧ ORel μ B (H.get i) L w := by
  simp only [VRel] at hx
  obtain ⟨L, e, rfl⟩ := hx
  exact ⟨L, e, rfl, h.objs i L e⟩
theorem Rel.fzCells (h : Rel B w0 μ H w) {b o n : Nat} {fz : List Value} (hj : μ.z b = some fz) :
    ∀ (k : Nat) x, ((fz.drop o).take n)[k]? = some x → w.cell? ⟨b, o + k, none⟩ = some x := by
  intro k x hk
  rw [List.getElem?_take] at hk
  split at hk
  · rw [List.getElem?_drop] at hk
    obtain ⟨c, e, fr, h1, h2⟩ := h.frz b fz hj
    subst h2
    simp only [World.cell?, h1]
    simpa using hk
  · cases hk
theorem ld1_sound (h : Rel B w0 μ H w) {v r : V} {x : Value} (hl : ld1 v H = some r) (hx : VRel μ v x) : ∃ a y, x = .pointer (some a) ∧ w.cell? a = some y ∧ VRel μ r y := by
  unfold ld1 at hl
  split at hl
  · rename_i i o
    split at hl
    · rename_i cs e ro hg
      obtain ⟨L, _, rfl, ho⟩ := h.ptr hx
      rw [hg] at ho
      obtain ⟨_, y, hy, hr⟩ := ho.cell hl
      exact ⟨_, y, rfl, hy, hr⟩
    · simp at hl
  · rename_i cs
    simp only [VRel] at hx
    obtain ⟨j, L, o, m, rfl, _, hv⟩ := hx
    obtain ⟨y, hy, hr⟩ := hv.get _ _ hl
    have hc := h.fzCells (o := o) (n := cs.length) m
    exact ⟨_, y, rfl, by simpa using hc 0 y hy, hr⟩
  · simp at hl
theorem loadCells_of {a : Addr} {n : Nat} {xs : List Value} (hl : xs.length = n) (h : ∀ j x, xs[j]? = some x → w.cell? (a.add j) = some x) : (loadCells a n).run P w = .ok xs.toArray w := by
  subst hl; exact run_loadCells_list w a xs h
theorem ldN_sound (h : Rel B w0 μ H w) {n : Nat} {v r : V} {x : Value} (hl : ldN n v H = some r) (hx : VRel μ v x) : ∃ a y, x = .pointer (some a) ∧ (loadCells a n).run P w = .ok y w ∧ VRel μ r (.agg y) := by
  unfold ldN at hl
  split at hl
  · rename_i i o
    split at hl
    · rename_i cs e ro hg
      split at hl
      · rename_i hn
        simp at hl; subst hl
        obtain ⟨L, _, rfl, ho⟩ := h.ptr hx
        rw [hg] at ho
        obtain ⟨xs, a, b, c, _, _⟩ := ho.cellsAt hn
        refine ⟨_, xs.toArray, rfl, loadCells_of a ?_, ?_⟩
        · intro j x hj; rw [addr_add]; exact c j x hj
        · simp only [VRel]; exact ⟨xs.toArray, rfl, by simpa using b⟩
      · simp at hl
    · simp at hl
  · rename_i cs
    split at hl
    · rename_i hn
      simp at hl; subst hl
      simp only [VRel] at hx
      obtain ⟨j, L, o, m, rfl, _, hv⟩ := hx
      have hc := h.fzCells (o := o) (n := cs.length) m
      have hl2 := hv.length
      refine ⟨_, _, rfl, loadCells_of (xs := ((L.drop o).take cs.length).take n) (by rw [List.length_take]; omega) ?_, ?_⟩
      · intro k x hk; rw [addr_add]
        rw [List.getElem?_take] at hk
        split at hk
        · exact hc k x hk
        · cases hk
      · simp only [VRel]; exact ⟨_, rfl, by simpa using VRels.take n hv⟩
    · simp at hl
  · simp at hl
theorem loadA_sound (h : Rel B w0 μ H w) {t : TypeId} {v r : V} {x : Value} (hl : loadA P t v H = some r) (hx : VRel μ v x) :
    ∃ a y, x = .pointer (some a) ∧ (loadVar t a).run P w = .ok y w ∧ VRel μ r y := by
  unfold loadA at hl
  split at hl
  · rename_i hag
    split at hl
    · rename_i n hsz
      obtain ⟨a, y, rfl, hr, hv⟩ := ldN_sound (P := P) h hl hx
      exact ⟨a, _, rfl, by unfold loadVar; simp [run_isAgg hag, run_sizeOf hsz, hr], hv⟩
    · simp at hl
  · rename_i hag
    obtain ⟨a, y, rfl, hr, hv⟩ := ld1_sound h hl hx
    exact ⟨a, y, rfl, by unfold loadVar; simp [run_isAgg hag, hr], hv⟩
  · simp at hl
theorem loadAt_sound (h : Rel B w0 μ H w) {t : TypeId} {v r : V} {x : Value} (hl : loadA P t v H = some r) (hx : VRel μ v x) :
    ∃ y, (Instr.loadAt t x).run P w = .ok y w ∧ VRel μ r y := by
  obtain ⟨a, y, rfl, hr, hv⟩ := loadA_sound h hl hx
  exact ⟨y, by unfold Instr.loadAt Instr.sureAddr; simp [hr], hv⟩
theorem partN_sound {n off : Nat} {xs : List V} {ys : Array Value} {r : V} (hl : partN n off xs = some r) (hx : VRels μ xs ys.toList) : VRel μ r (.agg (ys.extract off (off + n))) := by
  unfold partN at hl
  simp at hl; subst hl
  simp only [VRel]
  refine ⟨_, rfl, ?_⟩
  have : (ys.extract off (off + n)).toList = (ys.toList.drop off).take n := by
    rw [Array.toList_extract]; simp [List.extract_eq_take_drop]
  rw [this]
  exact VRels.take n (VRels.drop off hx)
theorem part1_sound {off : Nat} {xs : List V} {ys : Array Value} {r : V} (hl : part1 off xs = some r) (hx : VRels μ xs ys.toList) : ∃ y, ys[off]? = some y ∧ VRel μ r y := by
  unfold part1 at hl
  obtain ⟨y, a, b⟩ := hx.get off r hl
  exact ⟨y, by simpa using a, b⟩
theorem partA_sound {t : TypeId} {xs : List V} {ys : Array Value} {off : Nat} {r : V} (hl : partA P t xs off = some r) (hx : VRels μ xs ys.toList) :
    ∃ y, (part t ys off).run P w = .ok y w ∧ VRel μ r y := by
  unfold partA at hl
  split at hl
  · rename_i hag
    split at hl
    · rename_i n hsz
      exact ⟨_, by unfold part; simp [run_isAgg hag, run_sizeOf hsz], partN_sound hl hx⟩
    · simp at hl
  · rename_i hag
    obtain ⟨y, e, hr⟩ := part1_sound hl hx
    exact ⟨y, by unfold part; simp [run_isAgg hag, e], hr⟩
  · simp at hl
theorem intA_sound {op : BinOp} {k : IntKind} {a b : Int} {r : V} (h : intA op k a b = some r) (hs : op ≠ .shl) (hr : op ≠ .shr) (t : TypeId) :
    ∃ y, (binOp op t (.int k a) (.int k b)).run P w = .ok y w ∧ VRel μ r y := by
  cases op <;> first | exact absurd rfl hs | exact absurd rfl hr | skip
  case quo =>
    simp only [intA] at h
    split at h
    · simp at h
    · rename_i hb
      simp only [Option.some.injEq] at h; subst h
      exact ⟨_, by simp [binOp, Op.intDiv, hb], rfl⟩
  case rem =>
    simp only [intA] at h
    split at h
    · simp at h
    · rename_i hb
      simp only [Option.some.injEq] at h; subst h
      exact ⟨_, by simp [binOp, Op.intDiv, hb], rfl⟩
  all_goals
    simp only [intA, Option.some.injEq] at h
    subst h
    refine ⟨_, ?_, rfl⟩
    simp [binOp, Op.intArith, Op.intBits, Op.intCmp]
theorem shiftA_sound {op : BinOp} {k yk : IntKind} {a b : Int} {r : V} (h : shiftA op k a b = some r) (t : TypeId) (ho : op = .shl ∨ op = .shr) :
    ∃ y, (binOp op t (.int k a) (.int yk b)).run P w = .ok y w ∧ VRel μ r y := by
  unfold shiftA at h
  split at h
  · simp at h
  · rename_i hb
    rcases ho with rfl | rfl
    · simp only [Option.some.injEq] at h; subst h
      exact ⟨_, by simp [binOp, Op.shift, hb], rfl⟩
    · simp only [Option.some.injEq] at h; subst h
      exact ⟨_, by simp [binOp, Op.shift, hb], rfl⟩
theorem toList_mk (a : List UInt8) : (⟨a.toArray⟩ : ByteArray).toList = a := by
  simp
theorem strA_sound {op : BinOp} {a b : List UInt8} {r : V} (h : strA op a b = some r) (t : TypeId) :
    ∃ y, (binOp op t (.string ⟨a.toArray⟩) (.string ⟨b.toArray⟩)).run P w = .ok y w ∧ VRel μ r y := by
  cases op <;> simp only [strA] at h <;> first | (simp at h; done) | skip
  case add =>
    split at h
    · rename_i hl
      simp only [Option.some.injEq] at h; subst h
      refine ⟨.string ⟨(a ++ b).toArray⟩, ?_, rfl⟩
      have h1 : ¬ (((⟨a.toArray⟩ : ByteArray).size + (⟨b.toArray⟩ : ByteArray).size : Nat) : Int) > IntKind.i64.max := by
        simp [ByteArray.size, IntKind.max, IntKind.signed, IntKind.bits]; omega
      have h2 : (⟨a.toArray⟩ ++ ⟨b.toArray⟩ : ByteArray) = ⟨(a ++ b).toArray⟩ := by
        apply ByteArray.ext; simp
      simp only [binOp, Op.stringOp]
      rw [if_neg h1, h2]; rfl
    · simp at h
  all_goals
    simp only [Option.some.injEq] at h; subst h
    refine ⟨_, ?_, rfl⟩
    simp [binOp, Op.stringOp, toList_mk]
end
end Go.AM
end
section
set_option linter.unusedVariables false
set_option linter.unusedSimpArgs false
namespace Go.AM
open Go.RowKit (Below)
section
variable {P : Program} {B : Nat} {w0 w : World} {μ : Mu} {H : Heap}
theorem eqFs_sound {d : Nat} {rc : TypeId → V → V → Option Bool}
    (ih : ∀ (t : TypeId) (x y : V) (b : Bool) (x' y' : Value), rc t x y = some b → VRel μ x x' → VRel μ y y' → (Op.equalIn d t x' y').run P w = .ok b w) :
    ∀ (fs : List Field) (xs ys : List V) (xs' ys' : Array Value) (b : Bool), eqFs P rc fs xs ys = some b → VRels μ xs xs'.toList → VRels μ ys ys'.toList →
      (Op.eqFields d xs' ys' fs).run P w = .ok b w
  | [], xs, ys, xs', ys', b, h, _, _ => by simp [eqFs] at h; subst h; simp [Op.eqFields]
  | f :: fs, xs, ys, xs', ys', b, h, hx, hy => by
    simp only [eqFs] at h
    simp only [Op.eqFields]
    by_cases hn : f.name ≠ "_"
    · rw [if_pos hn] at h ⊢
      cases h1 : partA P f.type xs f.offset with
      | none => simp [h1] at h
      | some u =>
        cases h2 : partA P f.type ys f.offset with
        | none => simp [h1, h2] at h
        | some v =>
          cases h3 : rc f.type u v with
          | none => simp [h1, h2, h3] at h
          | some b1 =>
            cases h4 : eqFs P rc fs xs ys with
            | none => simp [h1, h2, h3, h4] at h
            | some b2 =>
              simp [h1, h2, h3, h4] at h; subst h
              obtain ⟨u', e1, r1⟩ := partA_sound (w := w) h1 hx
              obtain ⟨v', e2, r2⟩ := partA_sound (w := w) h2 hy
              have e3 := ih _ _ _ _ _ _ h3 r1 r2
              have e4 := eqFs_sound ih fs xs ys xs' ys' b2 h4 hx hy
              simp only [Sem.run_bind, e1, e2, e3, Result.andThen_ok, Sem.run_ite]
              cases b1
              · simp
              · simpa using e4
    · rw [if_neg hn] at h ⊢
      exact eqFs_sound ih fs xs ys xs' ys' b h hx hy
theorem eqEs_sound {d n : Nat} {e : TypeId} {rc : TypeId → V → V → Option Bool}
    (ih : ∀ (t : TypeId) (x y : V) (b : Bool) (x' y' : Value), rc t x y = some b → VRel μ x x' → VRel μ y y' → (Op.equalIn d t x' y').run P w = .ok b w) :
    ∀ (is : List Nat) (xs ys : List V) (xs' ys' : Array Value) (b : Bool), eqEs P rc e n is xs ys = some b → VRels μ xs xs'.toList → VRels μ ys ys'.toList →
      (Op.eqItems d e n xs' ys' is).run P w = .ok b w
  | [], xs, ys, xs', ys', b, h, _, _ => by simp [eqEs] at h; subst h; simp [Op.eqItems]
  | i :: is, xs, ys, xs', ys', b, h, hx, hy => by
    simp only [eqEs] at h
    simp only [Op.eqItems]
    cases h1 : partA P e xs (i * n) with
    | none => simp [h1] at h
    | some u =>
      cases h2 : partA P e ys (i * n) with
      | none => simp [h1, h2] at h
      | some v =>
        cases h3 : rc e u v with
        | none => simp [h1, h2, h3] at h
        | some b1 =>
          cases h4 : eqEs P rc e n is xs ys with
          | none => simp [h1, h2, h3, h4] at h
          | some b2 =>
            simp [h1, h2, h3, h4] at h; subst h
            obtain ⟨u', e1, r1⟩ := partA_sound (w := w) h1 hx
            obtain ⟨v', e2, r2⟩ := partA_sound (w := w) h2 hy
            have e3 := ih _ _ _ _ _ _ h3 r1 r2
            have e4 := eqEs_sound ih is xs ys xs' ys' b2 h4 hx hy
            simp only [Sem.run_bind, e1, e2, e3, Result.andThen_ok, Sem.run_ite]
            cases b1
            · simp
            · simpa using e4
theorem eqA_sound : ∀ (d D : Nat), d ≤ D → ∀ (t : TypeId) (x y : V) (b : Bool) (x' y' : Value), eqA P d t x y = some b → VRel μ x x' → VRel μ y y' → (Op.equalIn D t x' y').run P w = .ok b w
  | 0, _, _, _, _, _, _, _, _, h, _, _ => by simp [eqA] at h
  | d + 1, 0, hd, _, _, _, _, _, _, _, _, _ => by omega
  | d + 1, D + 1, hd, t, x, y, b, x', y', h, hx, hy => by
    have ih := eqA_sound d D (by omega)
    unfold eqA at h
    split at h
    ·
      rename_i hu
      split at h
      · simp at h; subst h; simp only [VRel] at hx hy; subst hx hy
        simp [Op.equalIn, run_und hu]
      · simp at h
    · rename_i k hu
      split at h
      · split at h
        · rename_i hk
          simp at h; subst h hk; simp only [VRel] at hx hy; subst hx hy
          simp [Op.equalIn, run_und hu]
        · simp at h
      · simp at h
    · rename_i hu
      split at h
      · simp at h; subst h; simp only [VRel] at hx hy; subst hx hy
        simp only [Op.equalIn, Sem.run_bind, run_und hu, Result.andThen_ok, Sem.run_pure, beq_toListBytes, toList_mk]
      · simp at h
    · rename_i e hu
      split at h
      · rename_i c
        simp at h; subst h; simp only [VRel] at hx; subst hx
        rcases c with _ | ⟨i, o⟩
        · simp only [VRel] at hy; subst hy; simp [Op.equalIn, run_und hu]
        · simp only [VRel] at hy; obtain ⟨L, _, rfl⟩ := hy; simp [Op.equalIn, run_und hu]
      · rename_i c
        simp at h; subst h
        obtain ⟨i, o⟩ := c
        simp only [VRel] at hx hy; obtain ⟨L, _, rfl⟩ := hx; subst hy; simp [Op.equalIn, run_und hu]
      · rename_i c c'
        split at h
        · rename_i hc
          obtain ⟨rfl, hs⟩ := hc
          simp at h; subst h
          obtain ⟨i, o⟩ := c
          simp only [VRel] at hx hy
          obtain ⟨L, e1, rfl⟩ := hx
          obtain ⟨L', e2, rfl⟩ := hy
          rw [e1] at e2; simp at e2; subst e2
          cases hz : szT P e with
          | none => simp [hz] at hs
          | some n =>
            simp only [Op.equalIn, Sem.run_bind, run_und hu, Result.andThen_ok, run_sizeOf hz, Sem.run_ite]
            split
            · simp [sameAddr]
            · simp
        · simp at h
      · simp at h
    · rename_i e hu
      split at h
      · rename_i s u
        split at h
        · rename_i hs
          simp at h; subst h
          have h1 : s.ad = none := by simpa using hs
          simp only [VRel, h1] at hx
          obtain ⟨_, rfl⟩ := hx
          simp only [VRel] at hy
          split at hy
          · rename_i h2; obtain ⟨_, rfl⟩ := hy; simp [Op.equalIn, run_und hu, h2]
          · rename_i h2; obtain ⟨L, a, cap, _, rfl, _⟩ := hy; simp [Op.equalIn, run_und hu, h2]
        · rename_i hs
          split at h
          · rename_i hs2
            simp at h; subst h
            have h1 : u.ad = none := by simpa using hs2
            simp only [VRel, h1] at hy
            obtain ⟨_, rfl⟩ := hy
            simp only [VRel] at hx
            split at hx
            · rename_i h2; simp [h2] at hs
            · obtain ⟨L, a, cap, _, rfl, _⟩ := hx; simp [Op.equalIn, run_und hu]
          · simp at h
      · rename_i n z cs u
        split at h
        · rename_i h3
          simp at h; subst h
          have h1 : u.ad = none := by simpa using h3.1
          simp only [VRel, h1] at hy
          obtain ⟨_, rfl⟩ := hy
          simp only [VRel] at hx
          rcases hx with ⟨h4, _⟩ | ⟨j, L, o, cap, _, rfl, _⟩
          · omega
          · simp [Op.equalIn, run_und hu]
        · simp at h
      · simp at h
    · rename_i kt et hu
      split at h
      · rename_i c
        simp at h; subst h; simp only [VRel] at hx; subst hx
        rcases c with _ | i
        · simp only [VRel] at hy; subst hy; simp [Op.equalIn, run_und hu]
        · simp only [VRel] at hy; obtain ⟨L, _, rfl⟩ := hy; simp [Op.equalIn, run_und hu]
      · simp at h; subst h
        simp only [VRel] at hx hy; obtain ⟨L, _, rfl⟩ := hx; subst hy; simp [Op.equalIn, run_und hu]
      · simp at h
    · rename_i ms hu
      split at h
      · simp at h; subst h
        simp only [VRel] at hx hy; obtain ⟨_, rfl, _⟩ := hy; subst hx; simp [Op.equalIn, run_und hu]
      · simp at h; subst h
        simp only [VRel] at hx hy; obtain ⟨_, rfl, _⟩ := hx; subst hy; simp [Op.equalIn, run_und hu]
      · split at h
        · simp at h; subst h
          simp only [VRel] at hx hy; subst hx hy; simp [Op.equalIn, run_und hu]
        · simp at h
      · simp at h
    · rename_i a1 a2 a3 hu
      split at h
      · simp at h; subst h
        simp only [VRel] at hx hy; obtain ⟨_, _, rfl, _⟩ := hy; subst hx; simp [Op.equalIn, run_und hu]
      · simp at h; subst h
        simp only [VRel] at hx hy; obtain ⟨_, _, rfl, _⟩ := hx; subst hy; simp [Op.equalIn, run_und hu]
      · simp at h; subst h
        simp only [VRel] at hx hy; subst hx hy; simp [Op.equalIn, run_und hu]
      · simp at h
    · rename_i fields hu
      split at h
      · rename_i xs ys
        split at h
        · simp at h
        · rename_i hst
          simp only [VRel] at hx hy
          obtain ⟨xs', rfl, rx⟩ := hx
          obtain ⟨ys', rfl, ry⟩ := hy
          have hf : P.fieldsOf t = fields := by unfold Program.fieldsOf; rw [hu]
          rw [run_equalIn_struct w D t xs' ys' (by rw [hf]; exact hu) (by simpa using hst), hf]
          exact eqFs_sound (μ := μ) ih _ _ _ _ _ _ h rx ry
      · simp at h
    · rename_i len elem hu
      split at h
      · rename_i xs ys
        split at h
        · rename_i n hz
          simp only [VRel] at hx hy
          obtain ⟨xs', rfl, rx⟩ := hx
          obtain ⟨ys', rfl, ry⟩ := hy
          cases hi : P.info? elem with
          | none => simp [szT, hi] at hz
          | some inf =>
            have hc : P.cellsOf elem = n := by simp [szT, hi] at hz; simp [Program.cellsOf, hi, hz]
            rw [run_equalIn_array (w := w) D xs' ys' hu hi, hc]
            exact eqEs_sound (μ := μ) ih _ _ _ _ _ _ h rx ry
        · simp at h
      · simp at h
    · simp at h
theorem VRel.inv_nilIface {u : V} (h : VRel μ u .nilIface) : u = .nilIface ∨ u = .dead := by
  cases u with
  | nilIface => exact .inl rfl
  | dead => exact .inr rfl
  | ptr a => rcases a with _ | ⟨i, o⟩ <;> simp [VRel] at h
  | slice s => simp only [VRel] at h; split at h <;> simp at h
  | map r => rcases r with _ | i <;> simp [VRel] at h
  | _ => simp [VRel] at h
theorem VRel.inv_agg {u : V} {a : Array Value} (h : VRel μ u (.agg a)) : (∃ cs, u = .agg cs) ∨ u = .dead := by
  cases u with
  | agg cs => exact .inl ⟨cs, rfl⟩
  | dead => exact .inr rfl
  | ptr a => rcases a with _ | ⟨i, o⟩ <;> simp [VRel] at h
  | slice s => simp only [VRel] at h; split at h <;> simp at h
  | map r => rcases r with _ | i <;> simp [VRel] at h
  | _ => simp [VRel] at h
theorem guard_nil {t : TypeId} {ms} (hu : P.underlying t = some (.interface ms)) (hm : ms.isEmpty = true) : (Op.eqGuardIn Op.maxDepth t .nilIface .nilIface).run P w = .ok false w := by
  rw [show Op.maxDepth = 9999 + 1 from rfl]
  unfold Op.eqGuardIn
  simp [run_und hu, hm]
theorem eqGuard_run {op : BinOp} {t : TypeId} {x y : Operand} {x' y' : Value} (h1 : x' = .nilIface → y' = .nilIface → ∃ ms, P.underlying t = some (.interface ms) ∧ ms.isEmpty = true) (h2 : ∀ a b, x' = .agg a → y' = .agg b → P.eqGuardType P.depth t = false) :
    (eqGuard op t x y x' y').run P w = .ok () w := by
  have key : ∀ (s : Sem Unit), (x' = .nilIface → y' = .nilIface → s.run P w = .ok () w) → (match x', y' with
      | .nilIface, .nilIface => s
      | .agg _, .agg _ => do
        if !(← program).eqGuardType (← program).depth t then return
        if ← Op.eqGuardIn Op.maxDepth t x' y' then unsupported (.noEntry "binop/eql: two nil values of an interface type with methods, in a part of a struct or an array")
      | _, _ => pure ()).run P w = .ok () w := by
    intro s hs
    split
    · exact hs rfl rfl
    · rename_i a b
      simp [h2 a b rfl rfl]
    · rfl
  cases op <;> unfold eqGuard <;> first
    | rfl
    | (simp only [Bool.not_true, Bool.false_eq_true, if_false]; refine key _ ?_; intro e1 e2; subst e1 e2; obtain ⟨ms, hu, hm⟩ := h1 rfl rfl; by_cases hc : ((x matches .const _) || (y matches .const _)) = true <;> simp [hc, guard_nil hu hm])
theorem eqA_dead {d : Nat} {t : TypeId} {v : V} {b : Bool} (h : eqA P d t .dead v = some b) : False := by
  cases d with
  | zero => simp [eqA] at h
  | succ d => unfold eqA at h; split at h <;> simp at h
theorem eqGuard_ok {op : BinOp} {t : TypeId} {x y : Operand} {u v : V} {x' y' : Value} {d : Nat} {b : Bool} (ho : eqOk P t = true) (h : eqA P d t u v = some b) (hx : VRel μ u x') (hy : VRel μ v y') :
    (eqGuard op t x y x' y').run P w = .ok () w := by
  refine eqGuard_run ?_ ?_
  · intro e1 e2
    subst e1 e2
    rcases hx.inv_nilIface with rfl | rfl
    · cases d with
      | zero => simp [eqA] at h
      | succ d =>
        rcases hy.inv_nilIface with rfl | rfl
        · unfold eqA at h
          split at h <;> first | (simp at h; done) | (rename_i ms hu; exact ⟨ms, hu, by simp at h; simpa using h.1⟩)
        · unfold eqA at h; split at h <;> simp at h
    · exact (eqA_dead h).elim
  · rintro a b' rfl rfl
    rcases hx.inv_agg with ⟨cs, rfl⟩ | rfl
    · cases d with
      | zero => simp [eqA] at h
      | succ d =>
        unfold eqOk at ho
        unfold eqA at h
        split at h <;> first | (simp at h; done) | (rename_i hu; rw [hu] at ho; simpa using ho)
    · exact (eqA_dead h).elim
end
end Go.AM
end
section
set_option linter.unusedVariables false
set_option linter.unusedSimpArgs false
namespace Go.AM
open Go.RowKit (Below)
section
variable {P : Program} {B : Nat} {w0 w : World} {μ : Mu} {H : Heap}
theorem arA_sound {op : BinOp} {t : TypeId} {x y r : V} {x' y' : Value} (h : arA op x y = some r) (hs : op ≠ .shl) (hr : op ≠ .shr) (hx : VRel μ x x') (hy : VRel μ y y') (a b : Operand) :
    ∃ z, (do eqGuard op t a b x' y'; binOp op t x' y').run P w = .ok z w ∧ VRel μ r z := by
  unfold arA at h
  split at h
  · rename_i k n k' n'
    split at h
    · rename_i hk; subst hk
      simp only [VRel] at hx hy; subst hx hy
      obtain ⟨z, e, q⟩ := intA_sound (P := P) (w := w) (μ := μ) h hs hr t
      exact ⟨z, by rw [Sem.run_bind, eqGuard_run (by simp) (by simp)]; exact e, q⟩
    · simp at h
  · simp only [VRel] at hx hy; subst hx hy
    obtain ⟨z, e, q⟩ := strA_sound (P := P) (w := w) (μ := μ) h t
    exact ⟨z, by rw [Sem.run_bind, eqGuard_run (by simp) (by simp)]; exact e, q⟩
  · simp at h
theorem shA_sound {op : BinOp} {t : TypeId} {x y r : V} {x' y' : Value} (h : shA op x y = some r) (ho : op = .shl ∨ op = .shr) (hx : VRel μ x x') (hy : VRel μ y y') (a b : Operand) :
    ∃ z, (do eqGuard op t a b x' y'; binOp op t x' y').run P w = .ok z w ∧ VRel μ r z := by
  unfold shA at h
  split at h
  · simp only [VRel] at hx hy; subst hx hy
    obtain ⟨z, e, q⟩ := shiftA_sound (P := P) (w := w) (μ := μ) (yk := _) h t ho
    exact ⟨z, by rw [Sem.run_bind, eqGuard_run (by simp) (by simp)]; exact e, q⟩
  · simp at h
theorem binOp_eql_run {t : TypeId} {x' y' : Value} {b : Bool} (h : (Op.equal t x' y').run P w = .ok b w) (hi : ∀ k n, x' ≠ .int k n) (hs : ∀ s, x' ≠ .string s) (hf : ∀ k n, x' ≠ .float k n) (hc : ∀ k n m, x' ≠ .complex k n m) :
    (binOp .eql t x' y').run P w = .ok (.bool b) w ∧ (binOp .neq t x' y').run P w = .ok (.bool (!b)) w := by
  cases x' <;> first | exact absurd rfl (hi _ _) | exact absurd rfl (hs _) | exact absurd rfl (hf _ _) | exact absurd rfl (hc _ _ _) | skip
  all_goals cases y' <;> simp [binOp, h]
theorem eqA_shape {d : Nat} {t : TypeId} {x y : V} {b : Bool} {x' : Value} (hn : isNum P t = false) (h : eqA P d t x y = some b) (hx : VRel μ x x') :
    (∀ k n, x' ≠ .int k n) ∧ (∀ s, x' ≠ .string s) ∧ (∀ k n, x' ≠ .float k n) ∧ (∀ k n m, x' ≠ .complex k n m) := by
  cases d with
  | zero => simp [eqA] at h
  | succ d =>
    unfold eqA at h
    unfold isNum at hn
    split at h <;> rename_i hu <;> simp only [hu] at hn <;> first | (simp at hn; done) | skip
    all_goals
      cases x <;> first | (simp at h; done) | skip
    all_goals first
      | (simp only [VRel] at hx; subst hx; simp; done)
      | (simp only [VRel] at hx; obtain ⟨_, rfl, _⟩ := hx; simp; done)
      | (simp only [VRel] at hx; obtain ⟨_, _, rfl, _⟩ := hx; simp; done)
      | (rename_i a; rcases a with _ | ⟨i, o⟩
         · simp only [VRel] at hx; subst hx; simp
         · simp only [VRel] at hx; obtain ⟨_, _, rfl⟩ := hx; simp
         done)
      | (simp only [VRel] at hx; split at hx
         · obtain ⟨_, rfl⟩ := hx; simp
         · obtain ⟨_, _, _, _, rfl, _⟩ := hx; simp
         done)
      | (simp only [VRel] at hx; rcases hx with ⟨_, _, rfl | ⟨_, _, _, rfl⟩⟩ | ⟨_, _, _, _, _, rfl, _⟩ <;> simp; done)
      | (simp only [VRel] at hx; obtain ⟨_, _, _, _, rfl, _⟩ := hx; simp; done)
      | (rename_i a; rcases a with _ | i
         · simp only [VRel] at hx; subst hx; simp
         · simp only [VRel] at hx; obtain ⟨_, _, rfl⟩ := hx; simp
         done)
theorem eqlA_sound {t : TypeId} {x y r : V} {x' y' : Value} (hn : isNum P t = false) (h : eqlA P t x y = some r) (hx : VRel μ x x') (hy : VRel μ y y') (a b : Operand) :
    ∃ z, (do eqGuard .eql t a b x' y'; binOp .eql t x' y').run P w = .ok z w ∧ VRel μ r z := by
  unfold eqlA at h
  split at h
  · rename_i ho
    cases he : eqA P 8 t x y with
    | none => simp [he] at h
    | some c =>
      simp [he] at h; subst h
      obtain ⟨h1, h2, h3, h4⟩ := eqA_shape hn he hx
      have e := eqA_sound (w := w) 8 10000 (by omega) t x y c x' y' he hx hy
      refine ⟨.bool c, ?_, rfl⟩
      rw [Sem.run_bind, eqGuard_ok ho he hx hy]
      exact (binOp_eql_run e h1 h2 h3 h4).1
  · simp at h
theorem neqA_sound {t : TypeId} {x y r : V} {x' y' : Value} (hn : isNum P t = false) (h : neqA P t x y = some r) (hx : VRel μ x x') (hy : VRel μ y y') (a b : Operand) :
    ∃ z, (do eqGuard .neq t a b x' y'; binOp .neq t x' y').run P w = .ok z w ∧ VRel μ r z := by
  unfold neqA at h
  split at h
  · rename_i ho
    cases he : eqA P 8 t x y with
    | none => simp [he] at h
    | some c =>
      simp [he] at h; subst h
      obtain ⟨h1, h2, h3, h4⟩ := eqA_shape hn he hx
      have e := eqA_sound (w := w) 8 10000 (by omega) t x y c x' y' he hx hy
      refine ⟨.bool (!c), ?_, rfl⟩
      rw [Sem.run_bind, eqGuard_ok ho he hx hy]
      exact (binOp_eql_run e h1 h2 h3 h4).2
  · simp at h
theorem binA_sound {op : BinOp} {t : TypeId} {x y r : V} {x' y' : Value} (h : binA P op t x y = some r) (hx : VRel μ x x') (hy : VRel μ y y') (a b : Operand) :
    ∃ z, (do eqGuard op t a b x' y'; binOp op t x' y').run P w = .ok z w ∧ VRel μ r z := by
  unfold binA at h
  split at h
  · exact shA_sound h (.inl rfl) hx hy a b
  · exact shA_sound h (.inr rfl) hx hy a b
  · split at h
    · exact arA_sound h (by simp) (by simp) hx hy a b
    · rename_i hn; exact eqlA_sound (by simpa using hn) h hx hy a b
  · split at h
    · exact arA_sound h (by simp) (by simp) hx hy a b
    · rename_i hn; exact neqA_sound (by simpa using hn) h hx hy a b
  · rename_i h1 h2 h3 h4
    exact arA_sound h h1 h2 hx hy a b
theorem unA_sound {op : UnOp} {x r : V} {x' : Value} (h : unA op x = some r) (hx : VRel μ x x') : ∃ z, (Op.unary op x').run P w = .ok z w ∧ VRel μ r z := by
  unfold unA at h
  split at h
  · simp only [VRel] at hx; subst hx
    simp only [Option.some.injEq] at h; subst h
    exact ⟨_, by simp [Op.unary, Op.intArith], rfl⟩
  · simp only [VRel] at hx; subst hx
    simp only [intA, Option.some.injEq] at h; subst h
    exact ⟨_, by simp [Op.unary, Op.intBits], rfl⟩
  · simp only [VRel] at hx; subst hx
    simp only [Option.some.injEq] at h; subst h
    exact ⟨_, by simp [Op.unary], rfl⟩
  · simp at h
theorem lset_length : ∀ (xs cs : List V) (o : Nat), (lset cs o xs).length = cs.length
  | [], cs, o => rfl
  | x :: xs, cs, o => by simp [lset, lset_length xs]
theorem VRels.set : ∀ {cs : List V} {xs : List Value} (o : Nat) {v : V} {x : Value}, VRels μ cs xs → VRel μ v x → VRels μ (cs.set o v) (xs.set o x)
  | [], xs, o, v, x, h, _ => by simp [VRels] at h; subst h; simp [VRels]
  | c :: cs, xs, o, v, x, h, hv => by
    simp only [VRels] at h
    obtain ⟨y, ys, rfl, a, b⟩ := h
    cases o with
    | zero => simp only [List.set_cons_zero, VRels]; exact ⟨x, ys, rfl, hv, b⟩
    | succ o => simp only [List.set_cons_succ, VRels]; exact ⟨y, _, rfl, a, VRels.set o b hv⟩
theorem lset_rel : ∀ (xs : List V) (ys : List Value) (cs : List V) (ds : Array Value) (o k : Nat), VRels μ xs ys → VRels μ cs ds.toList →
    VRels μ (lset cs (o + k) xs) ((ys.zipIdx k).foldl (fun cs (p : Value × Nat) => cs.setIfInBounds (o + p.2) p.1) ds).toList
  | [], ys, cs, ds, o, k, h, hc => by simp [VRels] at h; subst h; simpa [lset] using hc
  | x :: xs, ys, cs, ds, o, k, h, hc => by
    simp only [VRels] at h
    obtain ⟨y, zs, rfl, a, b⟩ := h
    simp only [lset, List.zipIdx_cons, List.foldl_cons]
    exact lset_rel xs zs (cs.set (o + k) x) (ds.setIfInBounds (o + k) y) o (k + 1) b (by simpa using hc.set (o + k) a)
theorem fillA_sound {place : Nat → Option (Nat × Nat)} : ∀ (ps : List (Nat × V)) (qs : List (Nat × Value)) (cs r : List V) (ds : Array Value), fillA place cs ps = some r → VRels μ cs ds.toList →
    qs.map (·.1) = ps.map (·.1) → VRels μ (ps.map (·.2)) (qs.map (·.2)) → ∃ es, Instr.fill place ds qs = some es ∧ VRels μ r es.toList
  | [], qs, cs, r, ds, h, hc, hi, hv => by
    simp [fillA] at h; subst h
    simp at hi; subst hi
    exact ⟨ds, rfl, hc⟩
  | (i, v) :: ps, [], cs, r, ds, h, hc, hi, hv => by simp at hi
  | (i, v) :: ps, (j, y) :: qs, cs, r, ds, h, hc, hi, hv => by
    simp only [List.map_cons, List.cons.injEq] at hi
    obtain ⟨rfl, hi⟩ := hi
    simp only [List.map_cons, VRels] at hv
    obtain ⟨y', ys, e, a, b⟩ := hv
    simp only [List.cons.injEq] at e
    obtain ⟨rfl, rfl⟩ := e
    simp only [fillA] at h
    simp only [Instr.fill]
    split at h
    · simp at h
    · rename_i off size hp
      rw [hp]
      split at h
      · rename_i hh
        obtain ⟨h1, h2, h3⟩ := hh
        have hr := a.cells h3
        have hl : y.cells.size = size := by have := hr.length; simpa [h1] using this
        have hcl : ds.size = cs.length := by simpa using hc.length
        have hcond : (decide (y.cells.size ≠ size) || decide (off + y.cells.size > ds.size)) = false := by
          simp; exact ⟨hl, by rw [hl, hcl]; omega⟩
        simp only [hcond]
        have hz : y.cells.zipIdx.foldl (fun cs (c, j) => cs.setIfInBounds (off + j) c) ds = (y.cells.toList.zipIdx 0).foldl (fun cs (p : Value × Nat) => cs.setIfInBounds (off + p.2) p.1) ds := by
          rw [← Array.foldl_toList]; simp
        rw [hz]
        have := lset_rel (μ := μ) v.cells y.cells.toList cs ds off 0 hr hc
        exact fillA_sound ps qs (lset cs off v.cells) r _ h (by simpa using this) hi b
      · simp at h
theorem parts_rel {env : Env} {ρ : Operand → Value} (hρ : ∀ x, VRel μ (opd env x) (ρ x)) : ∀ (ps : List (Nat × Operand)),
    VRels μ ((ps.map fun p => (p.1, opd env p.2)).map (·.2)) ((ps.map fun p => (p.1, ρ p.2)).map (·.2))
  | [] => by simp [VRels]
  | p :: ps => by simp only [List.map_cons, VRels]; exact ⟨_, _, rfl, hρ p.2, parts_rel hρ ps⟩
theorem placesT_eq : ∀ (fs : List Field) (l : List (Nat × Nat)), placesT P fs = some l → fs.mapM (fun f => (P.info? f.type).map fun i => (f.offset, i.size)) = some l
  | [], l, h => by simp [placesT] at h; subst h; simp
  | f :: fs, l, h => by
    unfold placesT at h
    split at h
    · rename_i n l' h1 h2
      simp at h; subst h
      have ih := placesT_eq fs l' h2
      cases hi : P.info? f.type with
      | none => simp [szT, hi] at h1
      | some i =>
        simp [szT, hi] at h1
        simp [List.mapM_cons, hi, ih, h1]
    · simp at h
theorem buildA_sound {env : Env} {ρ : Operand → Value} {t : TypeId} {ps : Array (Nat × Operand)} {r : V} (hρ : ∀ x, VRel μ (opd env x) (ρ x))
    (h : buildA P t (ps.toList.map fun p => (p.1, opd env p.2)) = some r) : ∃ z, (Instr.build t (ps.map fun (i, x) => (i, ρ x))).run P w = .ok z w ∧ VRel μ r z := by
  have hl : (ps.map fun (i, x) => (i, ρ x)).toList = ps.toList.map fun p => (p.1, ρ p.2) := by simp
  have hv := parts_rel hρ ps.toList
  have hi : (ps.toList.map fun p => (p.1, ρ p.2)).map (·.1) = (ps.toList.map fun p => (p.1, opd env p.2)).map (·.1) := by simp [Function.comp_def]
  unfold buildA at h
  split at h
  · rename_i z fields hz hu
    split at h
    · rename_i places hp
      unfold flA at h
      cases hf : fillA (places[·]?) z (ps.toList.map fun p => (p.1, opd env p.2)) with
      | none => simp [hf] at h
      | some cs =>
        simp [hf] at h; subst h
        unfold zeroT at hz
        cases hinf : P.info? t with
        | none => simp [hinf] at hz
        | some it =>
          cases hzz : it.zero with
          | none => simp [hinf, hzz] at hz
          | some zv =>
            simp [hinf, hzz] at hz
            have hrel := ofValue_rel μ zv
            rw [hz] at hrel
            simp only [VRel] at hrel
            obtain ⟨zc, rfl, hzc⟩ := hrel
            obtain ⟨es, e1, e2⟩ := fillA_sound (μ := μ) _ _ _ _ zc hf hzc hi hv
            refine ⟨.agg es, run_build w t _ es ?_, by simp only [VRel]; exact ⟨es, rfl, e2⟩⟩
            unfold Program.built
            simp only [hinf, hu, hzz, placesT_eq _ _ hp, Value.cells]
            rw [hl]; simpa using e1
    · simp at h
  · rename_i z n elem hz hu
    split at h
    · rename_i m hm
      unfold flE at h
      cases hf : fillA (fun i => some (i * m, m)) z (ps.toList.map fun p => (p.1, opd env p.2)) with
      | none => simp [hf] at h
      | some cs =>
        simp [hf] at h; subst h
        unfold zeroT at hz
        cases hinf : P.info? t with
        | none => simp [hinf] at hz
        | some it =>
          cases hzz : it.zero with
          | none => simp [hinf, hzz] at hz
          | some zv =>
            simp [hinf, hzz] at hz
            have hrel := ofValue_rel μ zv
            rw [hz] at hrel
            simp only [VRel] at hrel
            obtain ⟨zc, rfl, hzc⟩ := hrel
            obtain ⟨es, e1, e2⟩ := fillA_sound (μ := μ) _ _ _ _ zc hf hzc hi hv
            cases hie : P.info? elem with
            | none => simp [szT, hie] at hm
            | some ie =>
              simp [szT, hie] at hm
              refine ⟨.agg es, run_build w t _ es ?_, by simp only [VRel]; exact ⟨es, rfl, e2⟩⟩
              unfold Program.built
              simp only [hinf, hu, hzz, hie, Value.cells, hm]
              rw [hl]; exact e1
    · simp at h
  · simp at h
end
end Go.AM
end
section
set_option linter.unusedVariables false
set_option linter.unusedSimpArgs false
namespace Go.AM
open Go.RowKit (Below)
section
variable {P : Program} {B : Nat} {w0 w : World} {μ : Mu} {H : Heap}
theorem VRel.lptr_drop {j o off : Nat} {L : List Value} {cs : List V} (m : μ.z j = some L) (h1 : cs.all V.one = true) (hv : VRels μ cs ((L.drop o).take cs.length)) :
    VRel μ (.lptr (cs.drop off)) (.pointer (some ((⟨j, o, none⟩ : Addr).add off))) := by
  simp only [VRel]
  refine ⟨j, L, o + off, m, by rw [addr_add], ?_, ?_⟩
  · rw [List.all_eq_true] at h1 ⊢
    exact fun x hx => h1 x (List.mem_of_mem_drop hx)
  · have := VRels.drop off hv
    rw [List.drop_take, List.drop_drop] at this
    rw [List.length_drop]
    exact this
theorem faA_sound {off : Nat} {v r : V} {x : Value} (h : faA off v = some r) (hx : VRel μ v x) : ∃ a : Addr, x = .pointer (some a) ∧ VRel μ r (.pointer (some (a.add off))) := by
  unfold faA at h
  split at h
  · rename_i i o
    simp at h; subst h
    simp only [VRel] at hx ⊢
    obtain ⟨L, e, rfl⟩ := hx
    exact ⟨_, rfl, L, e, by rw [addr_add, Nat.add_assoc]⟩
  · rename_i cs
    split at h
    · rename_i hlt
      simp at h; subst h
      simp only [VRel] at hx
      obtain ⟨j, L, o, m, rfl, h1, hv⟩ := hx
      refine ⟨_, rfl, VRel.lptr_drop m h1 hv⟩
    · simp at h
  · simp at h
theorem fieldAddrA_sound {s : TypeId} {v r : V} {x : Value} {f : Nat} (h : fieldAddrA P s v f = some r) (hx : VRel μ v x) :
    ∃ z, (Instr.fieldAt s x f).run P w = .ok z w ∧ VRel μ r z := by
  unfold fieldAddrA at h
  split at h
  · rename_i fields hu
    split at h
    · rename_i fd hf
      split at h
      · rename_i n hz
        obtain ⟨a, rfl, hr⟩ := faA_sound h hx
        refine ⟨_, ?_, hr⟩
        have hz' : (sizeOf fd.type).run P w = .ok (n + 1) w := run_sizeOf hz
        simp [Instr.fieldAt, run_und hu, hf, Instr.sureAddr, fieldPlace, hz']
      · simp at h
    · simp at h
  · simp at h
theorem fieldA_sound {t : TypeId} {v r : V} {x : Value} {f : Nat} (h : fieldA P t v f = some r) (hx : VRel μ v x) :
    ∃ z, (Instr.field t x f).run P w = .ok z w ∧ VRel μ r z := by
  unfold fieldA at h
  split at h
  · rename_i fields hu
    split at h
    · rename_i fd hf
      have key : ∀ cs, v = .agg cs → partA P fd.type cs fd.offset = some r → ∃ z, (Instr.field t x f).run P w = .ok z w ∧ VRel μ r z := by
        rintro cs rfl hp
        simp only [VRel] at hx
        obtain ⟨ys, rfl, hy⟩ := hx
        obtain ⟨z, e, q⟩ := partA_sound (w := w) hp hy
        exact ⟨z, by simp [Instr.field, run_und hu, hf, asAgg, e], q⟩
      split at h
      · rename_i n h1 h2
        unfold fdN at h
        split at h
        · rename_i cs; exact key cs rfl (by unfold partA; rw [h1, h2]; exact h)
        · simp at h
      · rename_i h1
        unfold fd1 at h
        split at h
        · rename_i cs; exact key cs rfl (by unfold partA; rw [h1]; exact h)
        · simp at h
      · simp at h
    · simp at h
  · simp at h
theorem int_inv {k : IntKind} {n : Int} {x : Value} (h : VRel μ (.int k n) x) : x = .int k n := by simpa [VRel] using h
theorem indexAddrA_sound {t : TypeId} {v ix r : V} {x i' : Value} (h : indexAddrA P t v ix = some r) (hx : VRel μ v x) (hi : VRel μ ix i') :
    ∃ z, (Instr.indexAt t x i').run P w = .ok z w ∧ VRel μ r z := by
  unfold indexAddrA at h
  split at h
  · rename_i e hu
    split at h
    · rename_i n hz
      unfold idxS at h
      split at h
      · rename_i s k i
        have := int_inv hi; subst this
        split at h
        · rename_i b o hs
          split at h
          · rename_i hc
            obtain ⟨h0, h1, h2⟩ := hc
            simp at h; subst h
            simp only [VRel, hs] at hx
            obtain ⟨L, a, cap, e1, rfl, e3, e4, e5⟩ := hx
            have hcap : cap ≠ 0 := by omega
            obtain ⟨rfl, _⟩ := e5.resolve_left hcap
            refine ⟨.pointer (some ⟨L.b, L.base + (o + i.toNat * (n + 1)), none⟩), ?_, by simp only [VRel]; exact ⟨L, e1, rfl⟩⟩
            have hz' : (sizeOf e).run P w = .ok (n + 1) w := run_sizeOf hz
            simp [Instr.indexAt, run_und hu, asIntOf, h0, h1, hz', addr_add, Nat.add_assoc]
          · simp at h
        · simp at h
      · rename_i m z cs k i
        have := int_inv hi; subst this
        split at h
        · rename_i hc
          obtain ⟨h0, h1, h2⟩ := hc
          simp at h; subst h
          simp only [VRel] at hx
          rcases hx with ⟨h4, _⟩ | ⟨j, L, o, cap, hm, rfl, hcap, hroom, hlen, hone, hv⟩
          · omega
          · subst h2
            rw [← hlen] at hv
            have hr := VRel.lptr_drop (off := i.toNat * (n + 1)) hm hone hv
            refine ⟨_, ?_, hr⟩
            have hz' : (sizeOf e).run P w = .ok (n + 1) w := run_sizeOf hz
            simp [Instr.indexAt, run_und hu, asIntOf, h0, h1, hz']
        · simp at h
      · simp at h
    · simp at h
  · rename_i len e hu
    split at h
    · rename_i n hz
      unfold idxP at h
      split at h
      · rename_i b o k i
        have := int_inv hi; subst this
        split at h
        · rename_i hc
          obtain ⟨h0, h1⟩ := hc
          simp at h; subst h
          simp only [VRel] at hx
          obtain ⟨L, e1, rfl⟩ := hx
          refine ⟨.pointer (some ⟨L.b, L.base + (o + i.toNat * (n + 1)), none⟩), ?_, by simp only [VRel]; exact ⟨L, e1, rfl⟩⟩
          have hz' : (sizeOf e).run P w = .ok (n + 1) w := run_sizeOf hz
          simp [Instr.indexAt, run_und hu, asIntOf, h0, h1, hz', addr_add, Nat.add_assoc, Instr.sureAddr]
        · simp at h
      · rename_i cs k i
        have := int_inv hi; subst this
        split at h
        · rename_i hc
          obtain ⟨h0, h1, h2⟩ := hc
          simp at h; subst h
          simp only [VRel] at hx
          obtain ⟨j, L, o, hm, rfl, hone, hv⟩ := hx
          have hr := VRel.lptr_drop (off := i.toNat * (n + 1)) hm hone hv
          refine ⟨_, ?_, hr⟩
          have hz' : (sizeOf e).run P w = .ok (n + 1) w := run_sizeOf hz
          simp [Instr.indexAt, run_und hu, asIntOf, h0, h1, hz', Instr.sureAddr]
        · simp at h
      · simp at h
    · simp at h
  · simp at h
theorem indexA_sound {t : TypeId} {v ix r : V} {x i' : Value} (h : indexA P t v ix = some r) (hx : VRel μ v x) (hi : VRel μ ix i') :
    ∃ z, (Instr.index t x i').run P w = .ok z w ∧ VRel μ r z := by
  unfold indexA at h
  split at h
  · rename_i len e hu
    split at h
    · rename_i n h1 h2
      unfold ixN at h
      split at h
      · rename_i cs k i
        have := int_inv hi; subst this
        split at h
        · rename_i hc
          simp only [VRel] at hx
          obtain ⟨ys, rfl, hy⟩ := hx
          obtain ⟨z, e1, q⟩ := partA_sound (w := w) (t := e) (by unfold partA; rw [h1, h2]; exact h) hy
          exact ⟨z, by simp [Instr.index, run_und hu, asIntOf, hc, run_sizeOf h2, e1], q⟩
        · simp at h
      · simp at h
    · rename_i h1 h2
      unfold ix1 at h
      split at h
      · rename_i cs k i
        have := int_inv hi; subst this
        split at h
        · rename_i hc
          simp only [VRel] at hx
          obtain ⟨ys, rfl, hy⟩ := hx
          obtain ⟨z, e1, q⟩ := partA_sound (w := w) (t := e) (off := i.toNat) (by unfold partA; rw [h1]; exact h) hy
          exact ⟨z, by simp [Instr.index, run_und hu, asIntOf, hc, run_sizeOf h2, e1], q⟩
        · simp at h
      · simp at h
    · simp at h
  · rename_i hu
    unfold ixStr at h
    split at h
    · rename_i s k i
      have := int_inv hi; subst this
      split at h
      · rename_i h0
        split at h
        · rename_i b hb
          simp at h; subst h
          simp only [VRel] at hx; subst hx
          refine ⟨.int .u8 b.toNat, ?_, rfl⟩
          have hb' : (⟨s.toArray⟩ : ByteArray)[i.toNat]? = some b := by
            obtain ⟨hlt, he⟩ := List.getElem?_eq_some_iff.1 hb
            rw [getElem?_pos _ _ (by simpa [ByteArray.size] using hlt)]
            simp [ByteArray.getElem_eq_getElem_data, he]
          simp [Instr.index, run_und hu, asIntOf, h0, hb']
        · simp at h
      · simp at h
    · simp at h
  · simp at h
def VORel (μ : Mu) : Option V → Option Value → Prop
  | none, none => True
  | some v, some x => VRel μ v x
  | _, _ => False
theorem bnd_run {d y : Nat} {v : V} {x : Value} {c : BoundsCode} {n : Nat} (h : bndA d (some v) = some n) (hx : VRel μ v x) (hn : n ≤ y) : (Instr.sliceBound x y c).run P w = .ok n w := by
  unfold bndA at h
  split at h
  · rename_i e; simp at e
  · rename_i k i e
    simp at e; subst e
    split at h
    · rename_i h0
      simp at h; subst h
      have := int_inv hx; subst this
      have : i ≤ (y : Int) := by omega
      simp [Instr.sliceBound, asIntOf, h0, this]
    · simp at h
  · simp at h
theorem sliceBounds_run {isS : Bool} {len cap l h' : Nat} {lo hi : Option V} {lo' hi' : Option Value} (h1 : bndA 0 lo = some l) (h2 : bndA len hi = some h')
    (hlo : VORel μ lo lo') (hhi : VORel μ hi hi') (h3 : l ≤ h') (h4 : h' ≤ cap) : (Instr.sliceBounds isS len cap lo' hi' none).run P w = .ok (l, h', cap) w := by
  unfold Instr.sliceBounds
  cases hi with
  | none =>
    cases hi' with
    | some y => simp [VORel] at hhi
    | none =>
      simp [bndA] at h2; subst h2
      cases lo with
      | none =>
        cases lo' with
        | none => simp [bndA] at h1; subst h1; simp
        | some y => simp [VORel] at hlo
      | some v =>
        cases lo' with
        | none => simp [VORel] at hlo
        | some y => simp [bnd_run (P := P) (w := w) (c := .sliceB) h1 hlo h3]
  | some u =>
    cases hi' with
    | none => simp [VORel] at hhi
    | some z =>
      have e2 := fun c => bnd_run (P := P) (w := w) (c := c) h2 hhi h4
      cases lo with
      | none =>
        cases lo' with
        | none => simp [bndA] at h1; subst h1; simp [e2]
        | some y => simp [VORel] at hlo
      | some v =>
        cases lo' with
        | none => simp [VORel] at hlo
        | some y => simp [e2, bnd_run (P := P) (w := w) (c := .sliceB) h1 hlo h3]
theorem slice_rel {s : Sl} {L : Loc} {a : Addr} {cap l h' n m : Nat} {i o : Nat} {f : Bool} (hs : s.ad = some (i, o)) (e1 : μ i = some L) (e3 : s.len ≤ cap)
    (e5 : cap = 0 ∨ (a = ⟨L.b, L.base + o, none⟩ ∧ L.base + o + cap * s.esz ≤ L.size)) (hz : s.esz = n) (h1 : l ≤ h') (h2 : h' ≤ m) (h3 : m ≤ cap) (hf : f = true → h' = m) :
    VRel μ (.slice ⟨some (i, o + l * n), h' - l, n, f⟩) (.slice (some (if m = l then a else a.add (l * n))) (h' - l) (m - l)) := by
  subst hz
  unfold VRel
  refine ⟨L, _, _, e1, rfl, by simp only; omega, fun hh => by have := hf hh; simp only; omega, ?_⟩
  by_cases hm : m = l
  · exact .inl (by omega)
  · right
    have hc : cap ≠ 0 := by omega
    obtain ⟨rfl, hle⟩ := e5.resolve_left hc
    rw [if_neg hm, addr_add]
    refine ⟨by simp [Nat.add_assoc], ?_⟩
    have : (m - l) * s.esz ≤ cap * s.esz - l * s.esz := by
      rw [← Nat.sub_mul]; exact Nat.mul_le_mul_right _ (by omega)
    have h5 : l * s.esz ≤ cap * s.esz := Nat.mul_le_mul_right _ (by omega)
    simp only
    omega
theorem slSl_sound {n e t : TypeId} {v r : V} {x : Value} {lo hi : Option V} {lo' hi' : Option Value} (hu : P.underlying t = some (.slice e)) (hz : szT P e = some n)
    (h : slSl n v lo hi = some r) (hx : VRel μ v x) (hlo : VORel μ lo lo') (hhi : VORel μ hi hi') : ∃ z, (Instr.slice t x lo' hi' none).run P w = .ok z w ∧ VRel μ r z := by
  unfold slSl at h
  split at h
  · rename_i s
    cases h1 : bndA 0 lo with
    | none => simp [h1] at h
    | some l =>
      cases h2 : bndA s.len hi with
      | none => simp [h1, h2] at h
      | some h' =>
        simp only [h1, h2, Option.bind_some] at h
        split at h
        · rename_i hc
          obtain ⟨c1, c2, c3⟩ := hc
          simp at h; subst h
          simp only [VRel] at hx
          split at hx
          · rename_i hs
            obtain ⟨hl, rfl⟩ := hx
            have hb := sliceBounds_run (P := P) (w := w) (isS := true) (cap := 0) (len := 0) (by exact h1) (by rw [hl] at h2; exact h2) hlo hhi c1 (by omega)
            refine ⟨.slice none 0 0, ?_, ?_⟩
            · have : h' = 0 := by omega
              subst this
              have : l = 0 := by omega
              subst this
              simp [Instr.slice, run_und hu, hb, run_sizeOf hz]
            · simp [VRel, hs]; omega
          · rename_i i o hs
            obtain ⟨L, a, cap, e1, rfl, e3, e4, e5⟩ := hx
            have hsz : s.esz = n := by simpa [hs] using c3
            have hb := sliceBounds_run (P := P) (w := w) (isS := true) (cap := cap) (len := s.len) h1 h2 hlo hhi c1 (by omega)
            refine ⟨.slice (some (if cap = l then a else a.add (l * n))) (h' - l) (cap - l), ?_, ?_⟩
            · simp only [Instr.slice, Sem.run_bind, run_und hu, Result.andThen_ok, hb, run_sizeOf hz, Sem.run_pure]
              split <;> simp
            · have := slice_rel (μ := μ) (f := false) hs e1 e3 e5 hsz c1 (by omega : h' ≤ cap) (Nat.le_refl cap) (by simp)
              simpa [hs] using this
        · simp at h
  · rename_i k z cs
    cases h1 : bndA 0 lo with
    | none => simp [h1] at h
    | some l =>
      cases h2 : bndA k hi with
      | none => simp [h1, h2] at h
      | some h' =>
        simp only [h1, h2, Option.bind_some] at h
        split at h
        · rename_i hc
          obtain ⟨c1, c2, c3⟩ := hc
          simp only [Option.some.injEq] at h; subst h
          simp only [VRel] at hx
          rcases hx with ⟨hk, hcs, rfl | ⟨a, cap, hsp, rfl⟩⟩ | ⟨j, L, o, cap, m, rfl, hcap, hroom, hlen, hone, hv⟩
          · subst hk
            have hb := sliceBounds_run (P := P) (w := w) (isS := true) (cap := 0) (len := 0) (by exact h1) h2 hlo hhi c1 (by omega)
            refine ⟨.slice none 0 0, ?_, ?_⟩
            · have : h' = 0 := by omega
              subst this
              have : l = 0 := by omega
              subst this
              simp [Instr.slice, run_und hu, hb, run_sizeOf hz]
            · rw [if_pos (by omega)]; simp [VRel]
          · subst hk
            have hb := sliceBounds_run (P := P) (w := w) (isS := true) (cap := cap) (len := 0) (by exact h1) h2 hlo hhi c1 (by omega)
            have : h' = 0 := by omega
            subst this
            have : l = 0 := by omega
            subst this
            refine ⟨.slice (some (if cap = 0 then a else a.add (0 * n))) 0 cap, ?_, ?_⟩
            · simp only [Instr.slice, Sem.run_bind, run_und hu, Result.andThen_ok, hb, run_sizeOf hz, Sem.run_pure]
              split <;> simp
            · rw [if_pos rfl]
              simp only [VRel]
              refine .inl ⟨trivial, trivial, .inr ⟨_, cap, ?_, rfl⟩⟩
              rcases hsp with h | h
              · exact .inl h
              · right
                split
                · exact h
                · rw [Nat.zero_mul]
                  unfold Addr.add
                  split
                  · exact h
                  · rfl
          · have hb := sliceBounds_run (P := P) (w := w) (isS := true) (cap := cap) (len := k) h1 h2 hlo hhi c1 (by omega)
            refine ⟨.slice (some (if cap = l then ⟨j, o, none⟩ else (⟨j, o, none⟩ : Addr).add (l * n))) (h' - l) (cap - l), ?_, ?_⟩
            · simp only [Instr.slice, Sem.run_bind, run_und hu, Result.andThen_ok, hb, run_sizeOf hz, Sem.run_pure]
              split <;> simp
            · by_cases h0 : l = h'
              · rw [if_pos h0, show h' - l = 0 by omega]
                simp only [VRel]
                refine .inl ⟨trivial, trivial, .inr ⟨_, cap - l, ?_, rfl⟩⟩
                right
                split
                · rfl
                · rw [addr_add]
              · rw [if_neg h0, if_neg (by omega), addr_add]
                have hzn : z = n := c3.resolve_left (by omega)
                subst hzn
                have e1 : (h' - l) * z ≤ k * z - l * z := by rw [← Nat.sub_mul]; exact Nat.mul_le_mul_right _ (by omega)
                have e2 : l * z ≤ k * z := Nat.mul_le_mul_right _ (by omega)
                simp only [VRel]
                refine .inr ⟨j, L, o + l * z, cap - l, m, rfl, by omega, by rw [Nat.sub_mul]; have : l * z ≤ cap * z := Nat.mul_le_mul_right _ (by omega); omega, by rw [List.length_take, List.length_drop, hlen]; omega, ?_, ?_⟩
                · rw [List.all_eq_true] at hone ⊢
                  exact fun x hx => hone x (List.mem_of_mem_drop (List.mem_of_mem_take hx))
                · have := VRels.take ((h' - l) * z) (VRels.drop (l * z) hv)
                  rw [List.drop_take, List.drop_drop, List.take_take, Nat.min_eq_left (by omega)] at this
                  exact this
        · simp at h
  · simp at h
theorem slMx_sound {n e t : TypeId} {v hi mx r : V} {x hi' mx' : Value} {lo : Option V} {lo' : Option Value} (hu : P.underlying t = some (.slice e)) (hz : szT P e = some n)
    (h : slMx n v lo hi mx = some r) (hx : VRel μ v x) (hlo : VORel μ lo lo') (hhi : VRel μ hi hi') (hmx : VRel μ mx mx') : ∃ z, (Instr.slice t x lo' (some hi') (some mx')).run P w = .ok z w ∧ VRel μ r z := by
  unfold slMx at h
  split at h
  · rename_i s
    cases h1 : bndA 0 lo with
    | none => simp [h1] at h
    | some l =>
      cases h2 : bndA 0 (some hi) with
      | none => simp [h1, h2] at h
      | some h' =>
        cases h3 : bndA 0 (some mx) with
        | none => simp [h1, h2, h3] at h
        | some m =>
          simp only [h1, h2, h3, Option.bind_some] at h
          split at h
          · rename_i hc
            obtain ⟨c1, c2, c3, c4⟩ := hc
            simp at h; subst h
            have hb : ∀ cap, m ≤ cap → (Instr.sliceBounds true s.len cap lo' (some hi') (some mx')).run P w = .ok (l, h', m) w := by
              intro cap hcap
              unfold Instr.sliceBounds
              have a1 := fun c => bnd_run (P := P) (w := w) (c := c) h3 hmx hcap
              have a2 := fun c => bnd_run (P := P) (w := w) (c := c) h2 hhi c2
              cases lo with
              | none =>
                cases lo' with
                | none => simp [bndA] at h1; subst h1; simp [a1, a2]
                | some y => simp [VORel] at hlo
              | some v =>
                cases lo' with
                | none => simp [VORel] at hlo
                | some y => simp [a1, a2, bnd_run (P := P) (w := w) (c := .slice3C) h1 hlo c1]
            simp only [VRel] at hx
            split at hx
            · rename_i hs
              obtain ⟨hl, rfl⟩ := hx
              have hm0 : m = 0 := by omega
              refine ⟨.slice none 0 0, ?_, ?_⟩
              · have hb0 := hb 0 (by omega)
                rw [hl] at hb0
                have : h' = 0 := by omega
                subst this
                have : l = 0 := by omega
                subst this
                subst hm0
                simp [Instr.slice, run_und hu, hb0, run_sizeOf hz]
              · simp [VRel, hs]; omega
            · rename_i i o hs
              obtain ⟨L, a, cap, e1, rfl, e3, e4, e5⟩ := hx
              have hsz : s.esz = n := by simpa [hs] using c4
              refine ⟨.slice (some (if m = l then a else a.add (l * n))) (h' - l) (m - l), ?_, ?_⟩
              · simp only [Instr.slice, Sem.run_bind, run_und hu, Result.andThen_ok, hb cap (by omega), run_sizeOf hz, Sem.run_pure]
                split <;> simp
              · have := slice_rel (μ := μ) (f := h' == m) hs e1 e3 e5 hsz c1 c2 (by omega) (by simp)
                simpa [hs] using this
          · simp at h
  · simp at h
theorem slStr_sound {t : TypeId} {v r : V} {x : Value} {lo hi : Option V} {lo' hi' : Option Value} (hu : P.underlying t = some .string)
    (h : slStr v lo hi = some r) (hx : VRel μ v x) (hlo : VORel μ lo lo') (hhi : VORel μ hi hi') : ∃ z, (Instr.slice t x lo' hi' none).run P w = .ok z w ∧ VRel μ r z := by
  unfold slStr at h
  split at h
  · rename_i s
    cases h1 : bndA 0 lo with
    | none => simp [h1] at h
    | some l =>
      cases h2 : bndA s.length hi with
      | none => simp [h1, h2] at h
      | some h' =>
        simp only [h1, h2, Option.bind_some] at h
        split at h
        · rename_i hc
          simp at h; subst h
          simp only [VRel] at hx; subst hx
          have hb := sliceBounds_run (P := P) (w := w) (isS := false) (cap := s.length) (len := s.length) h1 h2 hlo hhi hc.1 hc.2
          refine ⟨.string ⟨((s.take h').drop l).toArray⟩, ?_, rfl⟩
          have he : (⟨s.toArray⟩ : ByteArray).extract l h' = ⟨((s.take h').drop l).toArray⟩ := by
            apply ByteArray.ext
            rw [ByteArray.data_extract]
            simp [List.extract_eq_take_drop, List.drop_take]
          have hs : (⟨s.toArray⟩ : ByteArray).size = s.length := by simp [ByteArray.size]
          simp [Instr.slice, run_und hu, hs, hb, he]
        · simp at h
  · simp at h
end
end Go.AM
end
section
set_option linter.unusedVariables false
set_option linter.unusedSimpArgs false
namespace Go.AM
open Go.RowKit (Below)
section
variable {P : Program} {B : Nat} {w0 w : World} {μ : Mu} {H : Heap}
theorem slArr_sound (hr : Rel B w0 μ H w) {len n : Nat} {t e : TypeId} {v r : V} {x : Value} {lo hi : Option V} {lo' hi' : Option Value} (hu : P.underlying t = some (.array len e)) (hz : szT P e = some n)
    (h : slArr len n v lo hi H = some r) (hx : VRel μ v x) (hlo : VORel μ lo lo') (hhi : VORel μ hi hi') : ∃ z, (Instr.sliceAt t x lo' hi' none).run P w = .ok z w ∧ VRel μ r z := by
  unfold slArr at h
  split at h
  · rename_i i o
    cases h1 : bndA 0 lo with
    | none => simp [h1] at h
    | some l =>
      cases h2 : bndA len hi with
      | none => simp [h1, h2] at h
      | some h' =>
        simp only [h1, h2, Option.bind_some] at h
        split at h
        · rename_i cs e' ro hg
          split at h
          · rename_i hc
            obtain ⟨c1, c2, c3⟩ := hc
            simp at h; subst h
            obtain ⟨L, e1, rfl, ho⟩ := hr.ptr hx
            rw [hg] at ho
            obtain ⟨c, e'', fr, hb, hs, hl, _⟩ := ho
            have hb := sliceBounds_run (P := P) (w := w) (isS := false) (cap := len) (len := len) h1 h2 hlo hhi c1 c2
            refine ⟨.slice (some (if len = l then ⟨L.b, L.base + o, none⟩ else (⟨L.b, L.base + o, none⟩ : Addr).add (l * n))) (h' - l) (len - l), ?_, ?_⟩
            · simp [Instr.sliceAt, run_und hu, Instr.sureAddr, hb, run_sizeOf hz]
            · unfold VRel
              refine ⟨L, _, _, e1, rfl, by simp only; omega, by simp, ?_⟩
              by_cases hm : len = l
              · exact .inl (by omega)
              · right
                rw [if_neg hm, addr_add]
                refine ⟨by simp [Nat.add_assoc], ?_⟩
                have : (len - l) * n = len * n - l * n := Nat.sub_mul _ _ _
                have h5 : l * n ≤ len * n := Nat.mul_le_mul_right _ (by omega)
                simp only
                omega
          · simp at h
        · simp at h
  · simp at h
theorem sliceA_sound (hr : Rel B w0 μ H w) {t : TypeId} {v r : V} {x : Value} {lo hi mx : Option V} {lo' hi' mx' : Option Value}
    (h : sliceA P t v lo hi mx H = some r) (hx : VRel μ v x) (hlo : VORel μ lo lo') (hhi : VORel μ hi hi') (hmx : VORel μ mx mx') : ∃ z, (Instr.sliceAt t x lo' hi' mx').run P w = .ok z w ∧ VRel μ r z := by
  unfold sliceA at h
  split at h
  · rename_i hu
    have e : Instr.sliceAt t x lo' hi' mx' = (do match ← underlying t with
      | .array n elem =>
        let a ← Instr.sureAddr x
        let (l, h, m) ← Instr.sliceBounds false n n lo' hi' mx'
        let size ← sizeOf elem
        pure (.slice (some (if m = l then a else a.add (l * size))) (h - l) (m - l))
      | _ => Instr.slice t x lo' hi' mx') := rfl
    rw [e]
    simp only [Sem.run_bind, run_und hu, Result.andThen_ok]
    split at h
    · cases mx' with
      | none => exact slStr_sound hu h hx hlo hhi
      | some y => simp [VORel] at hmx
    · simp at h
  · rename_i el hu
    have e : Instr.sliceAt t x lo' hi' mx' = (do match ← underlying t with
      | .array n elem =>
        let a ← Instr.sureAddr x
        let (l, h, m) ← Instr.sliceBounds false n n lo' hi' mx'
        let size ← sizeOf elem
        pure (.slice (some (if m = l then a else a.add (l * size))) (h - l) (m - l))
      | _ => Instr.slice t x lo' hi' mx') := rfl
    rw [e]
    simp only [Sem.run_bind, run_und hu, Result.andThen_ok]
    split at h
    · rename_i n hz
      split at h
      · cases mx' with
        | none => exact slSl_sound hu hz h hx hlo hhi
        | some y => simp [VORel] at hmx
      · rename_i m hh
        cases mx' with
        | none => simp [VORel] at hmx
        | some y =>
          cases hi' with
          | none => simp [VORel] at hhi
          | some z => exact slMx_sound hu hz h hx hlo hhi hmx
      · simp at h
    · simp at h
  · rename_i len el hu
    split at h
    · rename_i n hz
      cases mx' with
      | none => exact slArr_sound hr hu hz h hx hlo hhi
      | some y => simp [VORel] at hmx
    · simp at h
  · simp at h
theorem rdS_sound (hr : Rel B w0 μ H w) {s : Sl} {cs : List V} {x : Value} (h : rdS s H = some cs) (hx : VRel μ (.slice s) x) :
    ∃ base cap xs, x = .slice base s.len cap ∧ VRels μ cs xs ∧ cs.all V.one = true ∧ (∀ y ∈ xs, y.oneCell' = true) ∧ (s.len = 0 → cs = []) ∧ (base = none ↔ s.ad = none) ∧ (s.ad = none → s.len = 0 ∧ cap = 0) ∧
      (xs.length = s.len * s.esz) ∧ (∀ a, base = some a → ∀ j y, xs[j]? = some y → w.cell? (a.add j) = some y) ∧ s.len ≤ cap := by
  unfold rdS at h
  simp only [VRel] at hx
  split at h
  · rename_i hs
    simp only [hs] at hx
    obtain ⟨hl, rfl⟩ := hx
    rw [if_pos hl] at h
    simp at h; subst h
    exact ⟨none, 0, [], by rw [hl], by simp [VRels], rfl, by simp, fun _ => rfl, by simp [hs], fun _ => ⟨hl, rfl⟩, by simp [hl], by simp, by omega⟩
  · rename_i i o hs
    simp only [hs] at hx
    obtain ⟨L, a, cap, e1, rfl, e3, e4, e5⟩ := hx
    split at h
    · rename_i hn
      simp at h; subst h
      exact ⟨some a, cap, [], rfl, by simp [VRels], rfl, by simp, fun _ => rfl, by simp [hs], by simp [hs], by simp [hn], by simp, e3⟩
    · rename_i hn
      split at h
      · rename_i cs' e ro hg
        split at h
        · rename_i hle
          simp at h; subst h
          have ho := hr.objs i L e1
          rw [hg] at ho
          obtain ⟨xs, a1, a2, a3, a4, a5⟩ := ho.cellsAt hle
          obtain ⟨rfl, _⟩ := e5.resolve_left (by omega)
          refine ⟨some _, cap, xs, rfl, a2, a4, a5, fun h => absurd h hn, by simp [hs], by simp [hs], a1, ?_, e3⟩
          intro b hb j y hj
          simp at hb; subst hb
          rw [addr_add]; exact a3 j y hj
        · simp at h
      · simp at h
theorem bytesOf_rel : ∀ (cs : List V) (xs : List Value) (l : List UInt8), bytesOf cs = some l → VRels μ cs xs → ∃ ns : List Int, xs = ns.map (Value.int .u8) ∧ l = ns.map fun n => UInt8.ofNat n.toNat
  | [], xs, l, h, hr => by simp [bytesOf] at h; subst h; simp [VRels] at hr; exact ⟨[], by simp [hr], rfl⟩
  | c :: cs, xs, l, h, hr => by
    simp only [VRels] at hr
    obtain ⟨y, ys, rfl, a, b⟩ := hr
    unfold bytesOf at h
    split at h
    · simp_all
    · rename_i n vs e
      simp at e
      obtain ⟨rfl, rfl⟩ := e
      split at h
      · rename_i l' hl
        simp at h; subst h
        obtain ⟨ns, rfl, rfl⟩ := bytesOf_rel cs ys l' hl b
        have := int_inv a; subst this
        exact ⟨n :: ns, rfl, rfl⟩
      · simp at h
    · simp at h
theorem cvBytes_sound (hr : Rel B w0 μ H w) {src dst e : TypeId} {v r : V} {x : Value} (hs : P.underlying src = some (.slice e)) (he : P.underlying e = some (.int .u8)) (hd : P.underlying dst = some .string)
    (h : cvBytes v H = some r) (hx : VRel μ v x) : ∃ z, (convert src dst x).run P w = .ok z w ∧ VRel μ r z := by
  unfold cvBytes at h
  split at h
  · rename_i u
    split at h
    · rename_i hz
      cases h1 : rdS u H with
      | none => simp [h1] at h
      | some cs =>
        cases h2 : bytesOf cs with
        | none => simp [h1, h2] at h
        | some l =>
          simp [h1, h2] at h; subst h
          obtain ⟨base, cap, xs, rfl, a1, a2, a3, a4, a5, a6, a7, a8, _⟩ := rdS_sound hr h1 hx
          obtain ⟨ns, rfl, rfl⟩ := bytesOf_rel cs xs l h2 a1
          cases base with
          | none =>
            have h0 := (a5.1 rfl)
            obtain ⟨hl, _⟩ := a6 h0
            have hn : ns = [] := by
              have : ns.length = 0 := by simpa [hl] using a7
              exact List.eq_nil_of_length_eq_zero this
            subst hn
            exact ⟨_, run_convert_bytes_nil w src e hs he _ _ dst hd, rfl⟩
          | some a =>
            have h1' : u.ad ≠ none := fun hh => by simpa using a5.2 hh
            have hz1 : u.esz = 1 := by
              rcases hz with hz | hz
              · exact absurd (by simpa using hz) h1'
              · exact hz
            have hlen : ns.length = u.len := by simpa [hz1] using a7
            refine ⟨.string (strOfNums ns), ?_, ?_⟩
            · rw [run_convert_bytes_string w src dst e _ _ cap hs he hd]
              have hc := loadCells_of (P := P) (w := w) (a := a) (n := u.len) (xs := ns.map (Value.int .u8)) (by simp [hlen]) (a8 a rfl)
              rw [run_bytesToString w a _ cap ns hc, foldl_push_bytes]
              simp [strOfNums, ByteArray.empty, ByteArray.emptyWithCapacity]; rfl
            · simp only [VRel]; unfold strOfNums; rfl
    · simp at h
  · rename_i k z cs
    split at h
    · rename_i hz
      cases h2 : bytesOf cs with
      | none => simp [h2] at h
      | some l =>
        simp [h2] at h; subst h
        simp only [VRel] at hx
        rcases hx with ⟨hk, hcs, hx⟩ | ⟨j, L, o, cap, m, rfl, hcap, hroom, hlen, hone, hv⟩
        · subst hk hcs
          simp [bytesOf] at h2; subst h2
          rcases hx with rfl | ⟨a, cap, hsp, rfl⟩
          · exact ⟨_, run_convert_bytes_nil w src e hs he _ _ dst hd, rfl⟩
          · refine ⟨.string (strOfNums []), ?_, ?_⟩
            · rw [run_convert_bytes_string w src dst e _ _ cap hs he hd]
              have hc := loadCells_of (P := P) (w := w) (a := a) (n := 0) (xs := ([] : List Int).map (Value.int .u8)) (by simp) (by simp)
              rw [run_bytesToString w a _ cap [] hc, foldl_push_bytes]
              simp [strOfNums, ByteArray.empty, ByteArray.emptyWithCapacity]; rfl
            · simp only [VRel]; unfold strOfNums; rfl
        · by_cases hk0 : k = 0
          · subst hk0
            have hcs0 : cs = [] := List.eq_nil_of_length_eq_zero (by rw [hlen]; omega)
            subst hcs0
            simp [bytesOf] at h2; subst h2
            refine ⟨.string (strOfNums []), ?_, ?_⟩
            · rw [run_convert_bytes_string w src dst e _ _ cap hs he hd]
              have hc := loadCells_of (P := P) (w := w) (a := ⟨j, o, none⟩) (n := 0) (xs := ([] : List Int).map (Value.int .u8)) (by simp) (by simp)
              rw [run_bytesToString w _ _ cap [] hc, foldl_push_bytes]
              simp [strOfNums, ByteArray.empty, ByteArray.emptyWithCapacity]; rfl
            · simp only [VRel]; unfold strOfNums; rfl
          · have hz1 : z = 1 := hz.resolve_left hk0
            subst hz1
            have hc := hr.fzCells (o := o) (n := k * 1) m
            have hll := hv.length
            obtain ⟨ns, hns, rfl⟩ := bytesOf_rel cs _ l h2 hv
            rw [hns] at hc hll
            refine ⟨.string (strOfNums ns), ?_, ?_⟩
            · rw [run_convert_bytes_string w src dst e _ _ cap hs he hd]
              have hc := loadCells_of (P := P) (w := w) (a := ⟨j, o, none⟩) (n := k) (xs := ns.map (Value.int .u8)) (by rw [hll, hlen]; omega) (fun j x hj => by rw [addr_add]; exact hc j x hj)
              rw [run_bytesToString w _ _ cap ns hc, foldl_push_bytes]
              simp [strOfNums, ByteArray.empty, ByteArray.emptyWithCapacity]; rfl
            · simp only [VRel]; unfold strOfNums; rfl
    · simp at h
  · simp at h
theorem cell_mono_row {P : Program} {fits : TypeId → Bool} : ∀ (d : Nat) (e : TypeId) (c c' off n : Nat), c ≤ c' → rowAt P fits d e c off n = true → rowAt P fits d e c' off n = true
  | 0, _, _, _, _, _, _, h => by simp [rowAt] at h
  | d + 1, e, c, c', off, n, hc, h => by
    simp only [rowAt] at h ⊢
    split at h
    · cases h
    · rename_i hs
      rw [if_neg hs]
      simp only [Bool.or_eq_true, Bool.and_eq_true, decide_eq_true_eq] at h ⊢
      rcases h with h | h
      · exact .inl ⟨⟨h.1.1, by omega⟩, h.2⟩
      · exact .inr ⟨by omega, h.2⟩
theorem lies_mono {P : Program} : ∀ (d : Nat) (e : TypeId) (c c' off : Nat) (u : TypeId) (n : Nat), c ≤ c' → liesAt P d e c off u n = true → liesAt P d e c' off u n = true
  | 0, _, _, _, _, _, _, _, h => by simp [liesAt] at h
  | d + 1, e, c, c', off, u, n, hc, h => by
    simp only [liesAt, Bool.or_eq_true] at h ⊢
    rcases h with h | h
    · exact .inl (cell_mono_row _ _ _ _ _ _ hc h)
    · right
      split at h
      · exact lies_mono d _ _ _ _ _ _ hc h
      · cases h
theorem cvUp_sound (hr : Rel B w0 μ H w) {src dst t : TypeId} {v r : V} {x : Value} (hs : P.underlying src = some (.pointer t)) (hd : P.underlying dst = some .unsafePointer) (h : cvUp (szT P t) v H = some r) (hx : VRel μ v x) :
    ∃ z, (convert src dst x).run P w = .ok z w ∧ VRel μ r z := by
  unfold cvUp at h
  split at h
  · simp at h; subst h
    simp only [VRel] at hx; subst hx
    exact ⟨.pointer none, by simp [convert, run_und hs, run_und hd, Conv.unsafePointer], rfl⟩
  · rename_i i o
    split at h
    · rename_i cs e hg
      split at h
      · rename_i hc
        simp at h; subst h
        have hx0 := hx
        simp only [VRel] at hx
        obtain ⟨L, e1, rfl⟩ := hx
        have ho := hr.objs i L e1
        rw [hg] at ho
        obtain ⟨c, e', fr, hb, hsz, hle, -, -⟩ := ho
        obtain ⟨h1, h2, h3⟩ := hc
        cases hi : P.info? t with
        | none => simp [hi] at h2
        | some j =>
          refine ⟨_, Lib.run_to_unsafe (j := j) (e := e') (cells := c.size) w _ hs hd hi (by intro h0; apply h3; show (P.info? t).map (·.size) = some 0; rw [hi]; simp [h0]) (by simp only [World.shape?, hb]) (by simp only; omega), hx0⟩
      · simp at h
    · simp at h
  · simp at h
theorem cvDn_sound (hr : Rel B w0 μ H w) {src dst u : TypeId} {v r : V} {x : Value} (hs : P.underlying src = some .unsafePointer) (hd : P.underlying dst = some (.pointer u)) (h : cvDn P u v H = some r) (hx : VRel μ v x) :
    ∃ z, (convert src dst x).run P w = .ok z w ∧ VRel μ r z := by
  unfold cvDn at h
  split at h
  · simp at h; subst h
    simp only [VRel] at hx; subst hx
    exact ⟨.pointer none, by simp [convert, run_und hs, run_und hd, Conv.unsafePointer], rfl⟩
  · rename_i i o
    split at h
    · rename_i cs e hg
      split at h
      · rename_i hc
        simp at h; subst h
        have hx0 := hx
        simp only [VRel] at hx
        obtain ⟨L, e1, rfl⟩ := hx
        have ho := hr.objs i L e1
        have hfl := hr.flat i L e1 (by rw [hg]; rfl)
        rw [hg] at ho
        obtain ⟨c, e', fr, hb, hsz, hle, -, hown⟩ := ho
        obtain ⟨h1, h2⟩ := hc
        obtain ⟨-, -, rfl⟩ := hown rfl
        cases hi : P.info? u with
        | none => simp [hi] at h2
        | some j =>
          refine ⟨_, Lib.run_from_unsafe (j := j) (e := e') (cells := c.size) w _ hs hd hi (by simp only [World.shape?, hb]) ?_, hx0⟩
          rw [hfl, Nat.zero_add]
          exact lies_mono _ _ _ _ _ _ _ (Nat.div_le_div_right (by omega)) h1
      · simp at h
    · simp at h
  · simp at h
theorem convA_sound (hr : Rel B w0 μ H w) {src dst : TypeId} {v r : V} {x : Value} (h : convA P src dst v H = some r) (hx : VRel μ v x) :
    ∃ z, (convert src dst x).run P w = .ok z w ∧ VRel μ r z := by
  unfold convA at h
  split at h
  · rename_i k' k hs hd
    unfold cvInt at h
    split at h
    · simp at h; subst h
      have := int_inv hx; subst this
      exact ⟨_, by simp [convert, run_und hs, run_und hd, Conv.intToInt], rfl⟩
    · simp at h
  · rename_i hs hd
    unfold cvStr at h
    split at h
    · simp at h; subst h
      simp only [VRel] at hx; subst hx
      exact ⟨_, by simp [convert, run_und hs, run_und hd], rfl⟩
    · simp at h
  · rename_i e hs hd
    split at h
    · rename_i he; exact cvBytes_sound hr hs he hd h hx
    · simp at h
  · rename_i t hs hd; exact cvUp_sound hr hs hd h hx
  · rename_i u hs hd; exact cvDn_sound hr hs hd h hx
  · simp at h
theorem asOk_sound {t u : TypeId} {d : TypeDesc} {z v r : V} {x : Value} (hu : P.underlying t = some d) (hd : ∀ ms, d ≠ .interface ms) (hz : zeroT P t = some z) (h : asOk t z v = some r) (hx : VRel μ v x) :
    ∃ y, (Instr.typeAssert x u t true).run P w = .ok y w ∧ VRel μ r y := by
  obtain ⟨z', hz1, hz2⟩ := run_zero (w := w) μ hz
  unfold asOk at h
  split at h
  · rename_i q y
    simp only [VRel] at hx
    obtain ⟨y', rfl, hy⟩ := hx
    split at h
    · rename_i he
      simp at h; subst h he
      refine ⟨.tuple #[y', .bool true], ?_, by simp only [VRel, VRels]; exact ⟨_, rfl, y', _, rfl, hy, _, _, rfl, rfl, rfl⟩⟩
      simp only [Instr.typeAssert, Sem.run_bind, run_und hu, Result.andThen_ok]
      cases d <;> first | exact absurd rfl (hd _) | simp
    · rename_i he
      simp at h; subst h
      refine ⟨.tuple #[z', .bool false], ?_, by simp only [VRel, VRels]; exact ⟨_, rfl, z', _, rfl, hz2, _, _, rfl, rfl, rfl⟩⟩
      simp only [Instr.typeAssert, Sem.run_bind, run_und hu, Result.andThen_ok]
      cases d <;> first | exact absurd rfl (hd _) | simp [he, hz1]
  · simp only [VRel] at hx; subst hx
    simp at h; subst h
    refine ⟨.tuple #[z', .bool false], ?_, by simp only [VRel, VRels]; exact ⟨_, rfl, z', _, rfl, hz2, _, _, rfl, rfl, rfl⟩⟩
    simp only [Instr.typeAssert, Sem.run_bind, run_und hu, Result.andThen_ok]
    cases d <;> first | exact absurd rfl (hd _) | simp [hz1]
  · simp at h
theorem asIs_sound {t u : TypeId} {d : TypeDesc} {v r : V} {x : Value} (hu : P.underlying t = some d) (hd : ∀ ms, d ≠ .interface ms) (h : asIs t v = some r) (hx : VRel μ v x) :
    ∃ y, (Instr.typeAssert x u t false).run P w = .ok y w ∧ VRel μ r y := by
  unfold asIs at h
  split at h
  · rename_i q y
    simp only [VRel] at hx
    obtain ⟨y', rfl, hy⟩ := hx
    split at h
    · rename_i he
      simp at h; subst h he
      refine ⟨y', ?_, hy⟩
      simp only [Instr.typeAssert, Sem.run_bind, run_und hu, Result.andThen_ok]
      cases d <;> first | exact absurd rfl (hd _) | simp
    · simp at h
  · simp at h
theorem assertA_sound {t u : TypeId} {v r : V} {x : Value} {ok : Bool} (h : assertA P v t ok = some r) (hx : VRel μ v x) :
    ∃ y, (Instr.typeAssert x u t ok).run P w = .ok y w ∧ VRel μ r y := by
  unfold assertA at h
  split at h
  · simp at h
  · rename_i d hn hu
    have hd : ∀ ms, d ≠ .interface ms := fun ms e => hn ms e
    split at h
    · rename_i z hz; exact asOk_sound hu hd hz h hx
    · exact asIs_sound hu hd h hx
    · simp at h
  · simp at h
theorem extA_sound {v r : V} {x : Value} {i : Nat} (h : extA v i = some r) (hx : VRel μ v x) : ∃ y, (Instr.extract x i).run P w = .ok y w ∧ VRel μ r y := by
  unfold extA at h
  split at h
  · simp only [VRel] at hx
    obtain ⟨a, rfl, hr⟩ := hx
    obtain ⟨y, e, q⟩ := hr.get i r h
    have e' : a[i]? = some y := by simpa using e
    exact ⟨y, by simp [Instr.extract, e'], q⟩
  · simp at h
theorem lenA_sound (hr : Rel B w0 μ H w) {t ty : TypeId} {ts : Array TypeId} {v r : V} {x : Value} (ht : ts[0]? = some t) (h : lenA P t v H = some r) (hx : VRel μ v x) :
    ∃ y, (Builtin.len_ ts ty #[x]).run P w = .ok y w ∧ VRel μ r y := by
  unfold lenA at h
  split at h
  · rename_i hu
    unfold lenStr at h
    split at h
    · rename_i s
      simp only [Option.some.injEq] at h; subst h
      simp only [VRel] at hx; subst hx
      refine ⟨goInt (⟨s.toArray⟩ : ByteArray).size, ?_, rfl⟩
      simp only [Builtin.len_, ht, List.getElem?_toArray, List.getElem?_cons_zero, Sem.run_bind, run_und hu, Result.andThen_ok]
      rfl
    · simp at h
  · rename_i e hu
    unfold lenSl at h
    split at h
    · rename_i s
      simp only [Option.some.injEq] at h; subst h
      simp only [VRel] at hx
      split at hx
      · obtain ⟨hl, rfl⟩ := hx
        refine ⟨goInt (0 : Nat), ?_, by rw [hl]; rfl⟩
        simp only [Builtin.len_, ht, List.getElem?_toArray, List.getElem?_cons_zero, Sem.run_bind, run_und hu, Result.andThen_ok]
        rfl
      · obtain ⟨L, a, cap, _, rfl, _⟩ := hx
        refine ⟨goInt s.len, ?_, rfl⟩
        simp only [Builtin.len_, ht, List.getElem?_toArray, List.getElem?_cons_zero, Sem.run_bind, run_und hu, Result.andThen_ok]
        rfl
    · rename_i k z cs
      simp only [Option.some.injEq] at h; subst h
      have hk : ∃ b cap, x = .slice b k cap := by
        simp only [VRel] at hx
        rcases hx with ⟨rfl, _, rfl | ⟨a, cap, _, rfl⟩⟩ | ⟨j, L, o, cap, m, rfl, _⟩ <;> exact ⟨_, _, rfl⟩
      obtain ⟨b, cap, rfl⟩ := hk
      refine ⟨goInt k, ?_, rfl⟩
      simp only [Builtin.len_, ht, List.getElem?_toArray, List.getElem?_cons_zero, Sem.run_bind, run_und hu, Result.andThen_ok]
      rfl
    · simp at h
  · rename_i n e hu
    simp only [Option.some.injEq] at h; subst h
    refine ⟨goInt n, ?_, rfl⟩
    simp only [Builtin.len_, ht, List.getElem?_toArray, List.getElem?_cons_zero, Sem.run_bind, run_und hu, Result.andThen_ok]
    rfl
  · rename_i k e hu
    unfold lenMap at h
    split at h
    · simp only [Option.some.injEq] at h; subst h
      simp only [VRel] at hx; subst hx
      refine ⟨goInt 0, ?_, rfl⟩
      simp only [Builtin.len_, ht, List.getElem?_toArray, List.getElem?_cons_zero, Sem.run_bind, run_und hu, Result.andThen_ok]
      rfl
    · rename_i i
      simp only [VRel] at hx
      obtain ⟨L, e1, rfl⟩ := hx
      split at h
      · rename_i es clock hg
        simp only [Option.some.injEq] at h; subst h
        have ho := hr.objs i L e1
        rw [hg] at ho
        obtain ⟨xs, hb, _, hm⟩ := ho
        have hl : xs.size = es.length := by
          have : ∀ (es : List ME) (l : List MapEntry), MERels μ es l → l.length = es.length := by
            intro es
            induction es with
            | nil => intro l hh; simp [MERels] at hh; simp [hh]
            | cons e es ih => intro l hh; simp only [MERels] at hh; obtain ⟨y, ys, rfl, _, b⟩ := hh; simp [ih ys b]
          simpa using this es xs.toList hm
        refine ⟨goInt xs.size, ?_, by rw [hl]; rfl⟩
        have hg : (getObj L.b).run P w = .ok (.map xs clock) w := by simp only [getObj, Sem.run, hb]
        simp only [Builtin.len_, ht, List.getElem?_toArray, List.getElem?_cons_zero, Sem.run_bind, run_und hu, Result.andThen_ok, hg]
        rfl
      · simp at h
    · simp at h
  · simp at h
theorem mm2_sound {mx : Bool} {u v r : V} {x y : Value} (h : mm2 mx u v = some r) (hx : VRel μ u x) (hy : VRel μ v y) :
    ∃ z, ((if mx then Builtin.max2 else Builtin.min2) x y).run P w = .ok z w ∧ VRel μ r z := by
  unfold mm2 at h
  split at h
  · simp at h; subst h
    have := int_inv hx; subst this
    have := int_inv hy; subst this
    cases mx <;> exact ⟨_, by simp [Builtin.max2, Builtin.min2], rfl⟩
  · simp at h
theorem mmA_sound {mx : Bool} : ∀ (vs : List V) (xs : List Value) (v r : V) (x : Value), vs.foldlM (mm2 mx) v = some r → VRel μ v x → VRels μ vs xs →
    ∃ z, (xs.foldlM (if mx then Builtin.max2 else Builtin.min2) x).run P w = .ok z w ∧ VRel μ r z
  | [], xs, v, r, x, h, hx, hv => by
    simp [VRels] at hv; subst hv
    simp at h; subst h
    exact ⟨x, by simp, hx⟩
  | u :: vs, xs, v, r, x, h, hx, hv => by
    simp only [VRels] at hv
    obtain ⟨y, ys, rfl, a, b⟩ := hv
    simp only [List.foldlM_cons, Option.bind_eq_bind] at h
    cases h1 : mm2 mx v u with
    | none => simp [h1] at h
    | some q =>
      rw [h1] at h
      obtain ⟨z, e1, e2⟩ := mm2_sound (P := P) (w := w) h1 hx a
      obtain ⟨z', e3, e4⟩ := mmA_sound vs ys q r z h e2 b
      exact ⟨z', by simp only [List.foldlM_cons, Sem.run_bind, e1, Result.andThen_ok, e3], e4⟩
end
end Go.AM
end
section
set_option linter.unusedVariables false
set_option linter.unusedSimpArgs false
namespace Go.AM
open Go.RowKit (Below)
section
variable {P : Program} {B : Nat} {w0 w : World} {μ : Mu} {H : Heap}
theorem checkKey_run {e : Bool} : ∀ (d n : Nat), d ≤ n → ∀ (t : TypeId) (v : V) (x : Value), keyV P d t v = true → VRel μ v x → (Instr.checkKey e n t x).run P w = .ok () w
  | 0, _, _, _, _, _, h, _ => by simp [keyV] at h
  | d + 1, 0, hd, _, _, _, _, _ => by omega
  | d + 1, n + 1, hd, t, v, x, h, hx => by
    have ih := checkKey_run (e := e) d n (by omega)
    unfold keyV at h
    split at h
    · rename_i k hu
      split at h
      · simp only [VRel] at hx; subst hx; simp [Instr.checkKey, run_und hu]
      · simp at h
    · rename_i hu
      split at h
      · simp only [VRel] at hx; subst hx; simp [Instr.checkKey, run_und hu]
      · simp at h
    · rename_i hu
      split at h
      · simp only [VRel] at hx; subst hx; simp [Instr.checkKey, run_und hu]
      · simp at h
    · rename_i fields hu
      split at h
      · simp only [VRel] at hx
        obtain ⟨ys, rfl, hr⟩ := hx
        simp only [Instr.checkKey, Sem.run_bind, run_und hu, Result.andThen_ok]
        rw [← Array.forIn_toList]
        generalize fields.toList = fs at h
        clear hu
        induction fs with
        | nil => simp
        | cons f fs ihf =>
          simp only [keyFs, Bool.and_eq_true] at h
          obtain ⟨h1, h2⟩ := h
          have h3 := ihf h2
          simp only [List.forIn_cons, Sem.run_bind, Sem.run_ite]
          split at h1
          · rename_i u hu
            obtain ⟨y, e1, q⟩ := partA_sound (w := w) hu hr
            have e2 := ih _ _ _ h1 q
            by_cases hn : f.name ≠ "_"
            · rw [if_pos hn]
              simp only [Sem.run_bind, e1, Result.andThen_ok, e2, Sem.run_pure]
              exact h3
            · rw [if_neg hn]
              simp only [Sem.run_pure, Result.andThen_ok]
              exact h3
          · simp at h1
      · simp at h
    · rename_i len el hu
      split at h
      · simp only [VRel] at hx
        obtain ⟨ys, rfl, hr⟩ := hx
        split at h
        · rename_i m hz
          simp only [Instr.checkKey, Sem.run_bind, run_und hu, Result.andThen_ok]
          rw [Std.Legacy.Range.forIn_eq_forIn_range']
          simp only [Std.Legacy.Range.size, Nat.sub_zero, Nat.add_sub_cancel, Nat.div_one]
          rw [← List.range_eq_range']
          generalize List.range len = is at h
          clear hu
          induction is with
          | nil => simp
          | cons i is ihf =>
            simp only [keyEs, Bool.and_eq_true] at h
            obtain ⟨h1, h2⟩ := h
            have h3 := ihf h2
            simp only [List.forIn_cons, Sem.run_bind]
            split at h1
            · rename_i u hu
              obtain ⟨y, e1, q⟩ := partA_sound (w := w) hu hr
              have e2 := ih _ _ _ h1 q
              simp only [Sem.run_bind, run_sizeOf hz, e1, Result.andThen_ok, e2, Sem.run_pure]
              exact h3
            · simp at h1
        · simp at h
      · simp at h
    · simp at h
theorem MERels.get : ∀ {es : List ME} {xs : List MapEntry}, MERels μ es xs → ∀ (i : Nat) (e : ME), es[i]? = some e → ∃ x, xs[i]? = some x ∧ MERel μ e x
  | [], xs, h, i, e, he => by simp at he
  | a :: es, xs, h, i, e, he => by
    simp only [MERels] at h
    obtain ⟨y, ys, rfl, p, q⟩ := h
    cases i with
    | zero => simp at he; subst he; exact ⟨y, by simp, p⟩
    | succ i => simp at he; simpa using MERels.get q i e he
theorem MERels.length : ∀ {es : List ME} {xs : List MapEntry}, MERels μ es xs → xs.length = es.length
  | [], xs, h => by simp [MERels] at h; simp [h]
  | a :: es, xs, h => by
    simp only [MERels] at h
    obtain ⟨y, ys, rfl, p, q⟩ := h
    simp [MERels.length q]
def FRel (μ : Mu) : Option (Nat × ME) → Option (Nat × Value) → Prop
  | none, r => r = none
  | some (i, e), r => ∃ x, r = some (i, x) ∧ VRel μ e.val x
theorem findAsking_run {kt : TypeId} {k : V} {x : Value} (hx : VRel μ k x) : ∀ (es : List ME) (xs : List MapEntry) (i : Nat) (r : Option (Nat × ME)), findA (eqA P 8 kt k) es i = some r → MERels μ es xs →
    ∃ y, (Instr.findAsking kt x xs i).run P w = .ok y w ∧ FRel μ r y
  | [], xs, i, r, h, hm => by
    simp [findA] at h; subst h
    simp [MERels] at hm; subst hm
    exact ⟨none, by simp [Instr.findAsking], rfl⟩
  | e :: es, xs, i, r, h, hm => by
    simp only [MERels] at hm
    obtain ⟨y, ys, rfl, ⟨p1, p2, p3⟩, q⟩ := hm
    simp only [findA] at h
    cases h1 : eqA P 8 kt k e.key with
    | none => simp [h1] at h
    | some b =>
      have e1 : (Op.equal kt x y.key).run P w = .ok b w := eqA_sound (w := w) 8 10000 (by omega) kt k e.key b x y.key h1 hx p1
      simp only [h1, Option.bind_some] at h
      simp only [Instr.findAsking, Sem.run_bind, e1, Result.andThen_ok, Sem.run_ite]
      cases b with
      | true =>
        simp at h; subst h
        exact ⟨some (i, y.val), by simp, y.val, rfl, p2⟩
      | false =>
        simp at h
        obtain ⟨z, e2, q2⟩ := findAsking_run hx es ys (i + 1) r h q
        exact ⟨z, by simpa using e2, q2⟩
theorem sameNow_eqA {kt : TypeId} {d : TypeDesc} {k v : V} {x y : Value} {b c : Bool} (hu : P.underlying kt = some d) (h : eqA P 8 kt k v = some b) (hx : VRel μ k x) (hy : VRel μ v y) (hs : Instr.sameNow d x y = some c) : c = b := by
  generalize hw : (default : World) = w
  have e1 : (Op.equalIn (7 + 1) kt x y).run P w = .ok b w := eqA_sound (w := w) 8 8 (by omega) kt k v b x y h hx hy
  unfold Instr.sameNow at hs
  split at hs
  · rename_i k1 a k2 b2
    split at hs
    · rename_i hk
      simp at hs; subst hs hk
      rw [run_equalIn_int w 7 kt k1 _ a b2 hu] at e1
      simpa using e1
    · simp at hs
  · rename_i a b2
    simp at hs; subst hs
    rw [run_equalIn_string w 7 kt a b2 hu] at e1
    simp at e1
    rw [beq_toListBytes]; exact e1
  · rename_i a b2
    simp at hs; subst hs
    rw [run_equalIn_bool' w 7 kt a b2 hu] at e1
    simpa using e1
  · simp at hs
theorem findNow_same {kt : TypeId} {d : TypeDesc} {k : V} {x : Value} (hu : P.underlying kt = some d) (hx : VRel μ k x) : ∀ (es : List ME) (xs : List MapEntry) (i : Nat) (r : Option (Nat × ME)) (z : Option (Nat × Value)),
    findA (eqA P 8 kt k) es i = some r → MERels μ es xs → Instr.findNow d x xs i = some z → FRel μ r z
  | [], xs, i, r, z, h, hm, hf => by
    simp [findA] at h; subst h
    simp [MERels] at hm; subst hm
    simp [Instr.findNow] at hf; subst hf; rfl
  | e :: es, xs, i, r, z, h, hm, hf => by
    simp only [MERels] at hm
    obtain ⟨y, ys, rfl, ⟨p1, p2, p3⟩, q⟩ := hm
    simp only [findA] at h
    simp only [Instr.findNow] at hf
    cases h1 : eqA P 8 kt k e.key with
    | none => simp [h1] at h
    | some b =>
      simp only [h1, Option.bind_some] at h
      split at hf
      · rename_i hs
        have := sameNow_eqA hu h1 hx p1 hs
        subst this
        simp at h hf; subst h hf
        exact ⟨_, rfl, p2⟩
      · rename_i hs
        have := sameNow_eqA hu h1 hx p1 hs
        subst this
        simp at h
        exact findNow_same hu hx es ys (i + 1) r z h q hf
      · simp at hf
theorem findKey_run {kt : TypeId} {k : V} {x : Value} {es : List ME} {xs : List MapEntry} {r : Option (Nat × ME)} (h : findM P kt k es = some r) (hx : VRel μ k x) (hm : MERels μ es xs) :
    (∀ b, (Instr.checkKey b 10000 kt x).run P w = .ok () w) ∧ ∃ y, (Instr.findKey kt x xs).run P w = .ok y w ∧ FRel μ r y := by
  unfold findM at h
  split at h
  · rename_i hk
    refine ⟨fun b => checkKey_run 8 10000 (by omega) kt k x hk hx, ?_⟩
    cases hu : P.underlying kt with
    | none => unfold keyV at hk; simp [hu] at hk
    | some d =>
      obtain ⟨y, e1, q⟩ := findAsking_run (w := w) hx es xs 0 r h hm
      unfold Instr.findKey
      simp only [Sem.run_bind, run_und hu, Result.andThen_ok]
      cases hf : Instr.findNow d x xs 0 with
      | none => exact ⟨y, e1, q⟩
      | some z => exact ⟨z, rfl, findNow_same hu hx es xs 0 r z h hm hf⟩
  · simp at h
theorem mapOf_sound (hr : Rel B w0 μ H w) {v : V} {x : Value} {m : Nat × List ME × Nat} (h : mapOf v H = some m) (hx : VRel μ v x) :
    ∃ L xs, μ m.1 = some L ∧ x = .map (some L.b) ∧ H.get m.1 = .map m.2.1 m.2.2 ∧ w.heap[L.b]? = some (.map xs m.2.2) ∧ B ≤ L.b ∧ MERels μ m.2.1 xs.toList := by
  unfold mapOf at h
  split at h
  · rename_i i
    split at h
    · rename_i es clock hg
      simp at h; subst h
      simp only [VRel] at hx
      obtain ⟨L, e1, rfl⟩ := hx
      have ho := hr.objs i L e1
      rw [hg] at ho
      obtain ⟨xs, hb, h2, hm⟩ := ho
      exact ⟨L, xs, e1, rfl, hg, hb, h2, hm⟩
    · simp at h
  · simp at h
theorem getObj_map {b : Nat} {xs : Array MapEntry} {c : Nat} (h : w.heap[b]? = some (.map xs c)) : (getObj b).run P w = .ok (.map xs c) w := by simp only [getObj, Sem.run, h]
theorem slData_sound {ts : Array TypeId} {ty : TypeId} {v r : V} {x : Value} (h : slData v = some r) (hx : VRel μ v x) : ∃ z, (Builtin.unsafeSliceData_ ts ty #[x]).run P w = .ok z w ∧ VRel μ r z := by
  unfold slData at h
  split at h
  · rename_i s
    simp only [VRel] at hx
    cases ha : s.ad with
    | none =>
      rw [ha] at h hx
      simp at h; subst h
      obtain ⟨-, rfl⟩ := hx
      exact ⟨_, rfl, rfl⟩
    | some a =>
      obtain ⟨i, o⟩ := a
      rw [ha] at h hx
      simp only at h hx
      split at h
      · cases h
      · rename_i hl
        simp at h; subst h
        obtain ⟨L, a, cap, e1, rfl, h2, h3, h4⟩ := hx
        obtain ⟨rfl, -⟩ := h4.resolve_left (by omega)
        exact ⟨_, Lib.run_unsafeSliceData_row w ts ty _ _ cap (by omega), by simp only [VRel]; exact ⟨L, e1, rfl⟩⟩
  · cases h
theorem capA_sound {ts : Array TypeId} {t ty : TypeId} (ht : ts[0]? = some t) {v r : V} {x : Value} (h : capA P t v = some r) (hx : VRel μ v x) : ∃ z, (Builtin.cap_ ts ty #[x]).run P w = .ok z w ∧ VRel μ r z := by
  unfold capA at h
  split at h
  · rename_i e hu
    unfold capSl at h
    split at h
    · rename_i s
      simp only [VRel] at hx
      split at h
      · rename_i ha
        have ha : s.ad = none := by simpa using ha
        rw [ha] at hx
        simp at h; subst h
        obtain ⟨-, rfl⟩ := hx
        exact ⟨goInt 0, by simp [Builtin.cap_, ht, run_und hu], rfl⟩
      · rename_i ha
        split at h
        · rename_i hf
          simp at h; subst h
          cases ha2 : s.ad with
          | none => rw [ha2] at ha; simp at ha
          | some a =>
            rw [ha2] at hx
            obtain ⟨L, a, cap, e1, rfl, h2, h3, h4⟩ := hx
            have := h3 hf
            subst this
            exact ⟨goInt s.len, by simp [Builtin.cap_, ht, run_und hu], rfl⟩
        · cases h
    · cases h
  · cases h
theorem MERels.find {μ : Mu} {b : Nat} {e : ME} : ∀ {es : List ME} {xs : List MapEntry}, MERels μ es xs → es.find? (fun e => e.born == b) = some e →
    ∃ y, xs.find? (fun e => e.born == b) = some y ∧ VRel μ e.key y.key ∧ VRel μ e.val y.val
  | [], xs, _, h => by simp at h
  | a :: es, xs, hm, h => by
    simp only [MERels] at hm
    obtain ⟨y, ys, rfl, q, hm⟩ := hm
    rw [List.find?_cons] at h ⊢
    have hb : (y.born == b) = (a.born == b) := by rw [q.2.2]
    rw [hb]
    cases hc : (a.born == b) with
    | true =>
      rw [hc] at h
      simp only [Option.some.injEq] at h
      subst h
      exact ⟨y, rfl, q.1, q.2.1⟩
    | false =>
      rw [hc] at h
      exact MERels.find hm h
theorem entryA_sound (hr : Rel B w0 μ H w) {v r : V} {x : Value} (h : entryA v H = some r) (hx : VRel μ v x) :
    ∃ z, (Instr.entry x).run P w = .ok z w ∧ VRel μ r z := by
  unfold entryA at h
  split at h
  · rename_i i
    simp only [VRel] at hx
    obtain ⟨L, e1, rfl⟩ := hx
    split at h
    · rename_i m since seen last hg
      have ho := hr.objs i L e1
      rw [hg] at ho
      obtain ⟨mb, hb, hB, hb0, M, hM, rfl⟩ := ho
      have hgo : (getObj L.b).run P w = .ok (.mapIter (some M.b) since seen.toArray last) w := by simp only [getObj, Sem.run, hb]
      split at h
      · rename_i es clock hgm
        have hom := hr.objs m M hM
        rw [hgm] at hom
        obtain ⟨xs, hbm, _, hms⟩ := hom
        have hgm' : (getObj M.b).run P w = .ok (.map xs clock) w := by simp only [getObj, Sem.run, hbm]
        split at h
        · rename_i hcl
          cases hl : seen.getLast? with
          | none => rw [hl] at h; simp at h
          | some b =>
            rw [hl] at h
            simp only [Option.bind_some] at h
            cases hf : es.find? (fun e => e.born == b) with
            | none => rw [hf] at h; simp at h
            | some e =>
              rw [hf] at h
              simp only [Option.bind_some, Option.some.injEq] at h
              subst h
              obtain ⟨y, hy, h1, h2⟩ := MERels.find hms hf
              rw [Array.find?_toList] at hy
              refine ⟨.tuple #[y.key, y.val], ?_, by simp only [VRel, VRels]; exact ⟨_, rfl, _, _, rfl, h1, _, _, rfl, h2, rfl⟩⟩
              have hbk : seen.toArray.back? = some b := by simpa using hl
              simp only [Instr.entry, hb0, Nat.zero_add, Sem.run_bind, hgo, Result.andThen_ok, hbk, hgm', hcl, bne_self_eq_false, Bool.false_eq_true, if_false, hy]
              rfl
        · simp at h
      · simp at h
    · simp at h
  · simp at h
theorem lookA_sound (hr : Rel B w0 μ H w) {t : TypeId} {v k r : V} {x y : Value} {ok : Bool} (h : lookA P t v k ok H = some r) (hx : VRel μ v x) (hy : VRel μ k y) :
    ∃ z, (Instr.lookup t x y ok).run P w = .ok z w ∧ VRel μ r z := by
  unfold lookA at h
  split at h
  · rename_i kt et hu
    split at h
    · rename_i z hz
      obtain ⟨z', hz1, hz2⟩ := run_zero (w := w) μ hz
      unfold lookM at h
      cases h1 : entsOf v H with
      | none => simp [h1] at h
      | some es =>
        cases h2 : findM P kt k es with
        | none => simp [h1, h2] at h
        | some r' =>
          simp only [h1, h2, Option.bind_some] at h
          have key : ∀ (xs : Array MapEntry), MERels μ es xs.toList → ∃ q z, (∀ b, (Instr.checkKey b 10000 kt y).run P w = .ok () w) ∧ (Instr.findKey kt y xs.toList).run P w = .ok q w ∧ VRel μ r z ∧
              ((q = none ∧ z = if ok = true then Value.tuple #[z', .bool false] else z') ∨ ∃ i u, q = some (i, u) ∧ z = if ok = true then Value.tuple #[u, .bool true] else u) := by
            intro xs hm
            obtain ⟨hc, q, e1, hf⟩ := findKey_run (w := w) h2 hy hm
            cases r' with
            | none =>
              simp only [FRel] at hf; subst hf
              simp at h; subst h
              refine ⟨none, _, hc, e1, ?_, .inl ⟨rfl, rfl⟩⟩
              cases ok
              · simpa using hz2
              · simp only [if_true, VRel, VRels]; exact ⟨_, rfl, z', _, rfl, hz2, _, _, rfl, rfl, rfl⟩
            | some p =>
              obtain ⟨i, e⟩ := p
              simp only [FRel] at hf
              obtain ⟨u, rfl, hu2⟩ := hf
              simp at h; subst h
              refine ⟨some (i, u), _, hc, e1, ?_, .inr ⟨i, u, rfl, rfl⟩⟩
              cases ok
              · simpa using hu2
              · simp only [if_true, VRel, VRels]; exact ⟨_, rfl, u, _, rfl, hu2, _, _, rfl, rfl, rfl⟩
          unfold entsOf at h1
          split at h1
          · simp at h1; subst h1
            simp only [VRel] at hx; subst hx
            obtain ⟨q, z, hc, e1, hz3, hq⟩ := key #[] (by simp [MERels])
            refine ⟨z, ?_, hz3⟩
            have e1' : (Instr.findKey kt y []).run P w = .ok q w := e1
            rcases hq with ⟨rfl, rfl⟩ | ⟨i, u, rfl, rfl⟩ <;> simp [Instr.lookup, run_und hu, hc, e1', hz1]
          · cases hm : mapOf v H with
            | none => simp [hm] at h1
            | some m =>
              simp [hm] at h1; subst h1
              obtain ⟨L, xs, e0, rfl, hg, hb, _, hrel⟩ := mapOf_sound hr hm hx
              obtain ⟨q, z, hc, e1, hz3, hq⟩ := key xs hrel
              refine ⟨z, ?_, hz3⟩
              rcases hq with ⟨rfl, rfl⟩ | ⟨i, u, rfl, rfl⟩ <;> simp [Instr.lookup, run_und hu, getObj_map hb, hc, e1, hz1]
    · simp at h
  · simp at h
theorem VRels.ofMap {env : Env} {ρ : Operand → Value} (hρ : ∀ x, VRel μ (opd env x) (ρ x)) : ∀ (xs : List Operand), VRels μ (xs.map (opd env)) (xs.map ρ)
  | [] => by simp [VRels]
  | x :: xs => by simp only [List.map_cons, VRels]; exact ⟨_, _, rfl, hρ x, VRels.ofMap hρ xs⟩
theorem VORel.ofMap {env : Env} {ρ : Operand → Value} (hρ : ∀ x, VRel μ (opd env x) (ρ x)) (x : Option Operand) : VORel μ (x.map (opd env)) (x.map ρ) := by
  cases x with
  | none => trivial
  | some x => exact hρ x
theorem run_v {s : Sem Value} {y : Value} (h : s.run P w = .ok y w) : (do pure (Next.value (← s)) : Sem Next).run P w = .ok (.value y) w := by simp [h]
theorem valA_sound (hr : Rel B w0 μ H w) {env : Env} {ρ : Operand → Value} (hρ : ∀ x, VRel μ (opd env x) (ρ x)) {o : Oper} {v : V} (h : valA P env o.op H = some v) :
    ∃ y, (execOp ρ o).run P w = .ok (.value y) w ∧ VRel μ v y := by
  obtain ⟨dst, op, ty, pos, after, guard⟩ := o
  simp only at h
  unfold valA at h
  split at h
  · simp only [Option.some.injEq] at h; subst h
    exact ⟨_, rfl, hρ _⟩
  · simp only [Option.some.injEq] at h; subst h
    exact ⟨_, rfl, hρ _⟩
  · rename_i c a b
    cases hc : opd env c with
    | bool t =>
      rw [hc] at h
      have h2 := hρ c
      rw [hc] at h2
      simp only [VRel] at h2
      simp only [asB, bd_some, Option.some.injEq] at h; subst h
      refine ⟨if t then ρ a else ρ b, ?_, ?_⟩
      · simp [execOp, h2, asBool]
      · cases t
        · simpa using hρ b
        · simpa using hρ a
    | _ => rw [hc] at h; simp [asB] at h
  · rename_i t ps
    obtain ⟨z, e, q⟩ := buildA_sound (P := P) (w := w) hρ h
    exact ⟨z, run_v e, q⟩
  · rename_i t a
    obtain ⟨z, e, q⟩ := loadAt_sound (P := P) hr h (hρ a)
    exact ⟨z, run_v e, q⟩
  · rename_i x
    have hx := hρ x
    unfold nilC at h
    split at h
    · rename_i a e
      simp only [Option.some.injEq] at h; subst h
      rw [e] at hx
      obtain ⟨i, o⟩ := a
      obtain ⟨L, e1, e2, _⟩ := hr.ptr hx
      exact ⟨ρ x, by simp only [execOp]; rw [e2]; rfl, hx⟩
    · rename_i cs e
      simp only [Option.some.injEq] at h; subst h
      rw [e] at hx
      have hx2 := hx
      simp only [VRel] at hx
      obtain ⟨j, L, o, m, e2, _⟩ := hx
      exact ⟨ρ x, by simp only [execOp]; rw [e2]; rfl, hx2⟩
    · simp at h
  · rename_i op t x y u
    obtain ⟨z, e, q⟩ := binA_sound (P := P) (w := w) h (hρ x) (hρ y) x y
    exact ⟨z, run_v e, q⟩
  · rename_i op t x
    obtain ⟨z, e, q⟩ := unA_sound (P := P) (w := w) h (hρ x)
    exact ⟨z, run_v e, q⟩
  · rename_i s d x
    obtain ⟨z, e, q⟩ := convA_sound (P := P) hr h (hρ x)
    exact ⟨z, run_v e, q⟩
  · rename_i t x
    split at h
    · simp at h
    · rename_i d hn hu
      simp only [Option.some.injEq] at h; subst h
      refine ⟨.iface t (ρ x), ?_, by simp only [VRel]; exact ⟨_, rfl, hρ x⟩⟩
      apply run_v
      simp only [Instr.makeInterface, Sem.run_bind, run_und hu, Result.andThen_ok]
      cases d <;> first | exact absurd rfl (hn _) | rfl
    · simp at h
  · rename_i fn fs cs
    split at h
    · rename_i hf
      simp only [Option.some.injEq] at h; subst h
      refine ⟨.func fn (fs.map ρ) (cs.map ρ), rfl, ?_⟩
      simp only [VRel]
      exact ⟨_, _, rfl, hf, by simpa using VRels.ofMap hρ fs.toList, by simpa using VRels.ofMap hρ cs.toList⟩
    · simp at h
  · rename_i t x l hh m
    obtain ⟨z, e, q⟩ := sliceA_sound (P := P) hr h (hρ x) (VORel.ofMap hρ l) (VORel.ofMap hρ hh) (VORel.ofMap hρ m)
    exact ⟨z, run_v e, q⟩
  · rename_i t x f
    obtain ⟨z, e, q⟩ := fieldAddrA_sound (P := P) (w := w) h (hρ x)
    exact ⟨z, run_v e, q⟩
  · rename_i t x f
    obtain ⟨z, e, q⟩ := fieldA_sound (P := P) (w := w) h (hρ x)
    exact ⟨z, run_v e, q⟩
  · rename_i t x i
    obtain ⟨z, e, q⟩ := indexAddrA_sound (P := P) (w := w) h (hρ x) (hρ i)
    exact ⟨z, run_v e, q⟩
  · rename_i t x i
    obtain ⟨z, e, q⟩ := indexA_sound (P := P) (w := w) h (hρ x) (hρ i)
    exact ⟨z, run_v e, q⟩
  · rename_i t x i ok
    obtain ⟨z, e, q⟩ := lookA_sound (P := P) hr h (hρ x) (hρ i)
    exact ⟨z, run_v e, q⟩
  · rename_i x u t ok
    obtain ⟨z, e, q⟩ := assertA_sound (P := P) (w := w) (u := u) h (hρ x)
    exact ⟨z, run_v e, q⟩
  · rename_i x i
    obtain ⟨z, e, q⟩ := extA_sound (P := P) (w := w) h (hρ x)
    exact ⟨z, run_v e, q⟩
  · rename_i x
    obtain ⟨z, e, q⟩ := entryA_sound (P := P) hr h (hρ x)
    exact ⟨z, run_v e, q⟩
  · rename_i args ts
    split at h
    · rename_i x t ha ht
      obtain ⟨z, e, q⟩ := lenA_sound (P := P) (ty := ty) hr ht h (hρ x)
      refine ⟨z, ?_, q⟩
      have hargs : args = #[x] := by apply Array.ext'; simpa using ha
      subst hargs
      simp [execOp, resolve, invoke, builtin, e]
    · simp at h
  · rename_i args ts
    split at h
    · rename_i x ha
      have hargs : args = #[x] := by apply Array.ext'; simpa using ha
      subst hargs
      obtain ⟨z, e, q⟩ := slData_sound (P := P) (w := w) (ts := ts) (ty := ty) h (hρ x)
      exact ⟨z, by simp [execOp, resolve, invoke, builtin, e], q⟩
    · simp at h
  · rename_i args ts
    split at h
    · rename_i x t ha ht
      have hargs : args = #[x] := by apply Array.ext'; simpa using ha
      subst hargs
      obtain ⟨z, e, q⟩ := capA_sound (P := P) (w := w) (ty := ty) ht h (hρ x)
      exact ⟨z, by simp [execOp, resolve, invoke, builtin, e], q⟩
    · simp at h
  · rename_i args ts
    cases hl : args.toList with
    | nil => simp [hl, mmA] at h
    | cons x xs =>
      rw [hl] at h
      simp only [List.map_cons, mmA] at h
      obtain ⟨z, e, q⟩ := mmA_sound (P := P) (w := w) _ _ _ _ _ h (hρ x) (VRels.ofMap hρ xs)
      refine ⟨z, ?_, q⟩
      have : (args.map ρ).toList = ρ x :: xs.map ρ := by simp [hl]
      simp only [execOp, resolve, invoke, builtin, Sem.run_bind, Sem.run_pure, Result.andThen_ok, Builtin.max_, this]
      simp only [if_true] at e
      rw [e]; rfl
  · rename_i args ts
    cases hl : args.toList with
    | nil => simp [hl, mmA] at h
    | cons x xs =>
      rw [hl] at h
      simp only [List.map_cons, mmA] at h
      obtain ⟨z, e, q⟩ := mmA_sound (P := P) (w := w) _ _ _ _ _ h (hρ x) (VRels.ofMap hρ xs)
      refine ⟨z, ?_, q⟩
      have : (args.map ρ).toList = ρ x :: xs.map ρ := by simp [hl]
      simp only [execOp, resolve, invoke, builtin, Sem.run_bind, Sem.run_pure, Result.andThen_ok, Builtin.min_, this]
      simp only [Bool.false_eq_true, if_false] at e
      rw [e]; rfl
  · simp at h
end
end Go.AM
end
