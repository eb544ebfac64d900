/- UnfoldStars: whatever its arguments, it returns true, and they read as before. No condition. -/
import Derived.Test.YtklnjhedbafknaaGreatRows
import Derived.WalkKit
import Derived.ProofKit
import Derived.OpenShut
import Derived.ChangeOld
import Derived.Below
import Derived.SizedLaws
import Derived.Test.YtklnjhedbafknaaGreatX10
section
set_option linter.unusedVariables false
set_option linter.unusedSimpArgs false
namespace Go.Proofs.YtklnjhedbafknaaGreat
namespace unfoldStars
open Go.ChangeShapes Go.WideShapes Go.ChangeAt Go.RowKit
set_option linter.unusedVariables false
theorem own : ownKnob Tryz.prog.godebug = none := by kernel_rfl
theorem isL : Go.AM.isTrisT Go.AM.P 22 = true := by kernel_rfl
theorem isId : Go.AM.isIntK3 Go.AM.P .i64 3 = true := by kernel_rfl
theorem body3 : Go.AM.hasBody Go.AM.P 3 = true := by kernel_rfl
theorem plain : [22, 3].all (fun t => Go.AM.plainT Go.AM.P 8 t) = true := by kernel_rfl
theorem plain5 : [22, 3].all (fun t => Go.AM.plainT Go.AM.P 8 t && decide (Go.AM.sdep Go.AM.P 8 t ≤ 5)) = true := by kernel_rfl
theorem law (H : Go.AM.Heap) (us : List Go.AM.V) (h : Go.AM.WTs Go.AM.P 8 H [22, 3] us) : ∃ n H', Go.AM.callA Go.AM.N.C n 3 us H = some (.bool true, H') := by
  obtain ⟨n, H', e⟩ := Go.AM.law_pure Go.AM.N.law18_UnfoldStars_in plain5 (fun H us h _ _ => Go.AM.N.stars_all isL isId h) h
  exact ⟨n, H', by unfold Go.AM.N.f_law18_UnfoldStars at e; exact e⟩
set_option maxRecDepth 100000 in
theorem lifted (os : Os) (started : os.Started) (H : Type) (enc : TypeId × Value → H) :
    ReturnsInHanded {} Tryz.checked os 3 .any (Rows.unfoldStarsSpec.pre6 enc Tryz.prog Tryz.f3 Rows.unfoldStarsRow.domain false) (Rows.unfoldStarsSpec.post enc Tryz.prog Tryz.f3 false true false false) := by
  refine returnsInHanded_of_change_sized (C := Tryz.checked) own started (by kernel_rfl) Tryz.func3
    (ChangeSpec.witness6 (enc := enc) (C := Tryz.checked) false ⟨#[], #[.slice none 0 0, .int .i64 0], []⟩ 8 (by kernel_rfl) (by kernel_rfl) (by kernel_rfl) (by kernel_rfl)) ?_
  intro W base args ds gs before hval0 hW hcnd hsz0 _
  have hval : ∀ (j : Nat) t v, Tryz.f3.params[j]? = some t → args[j]? = some v → Value.okWide Tryz.prog W .any base t v := hval0
  have hW' := hW
  obtain ⟨p, q, hA0, hV, rfl, hfz, hnd⟩ := hW
  have hA : DataW.TrodAll enc Tryz.prog W 0 (fun _ => true) true Tryz.f3.params.toList args.toList ds p := hA0
  rw [Tryz.params3] at hA hval
  have walk := Go.AM.law_calls Go.AM.N.ok (f := 3) (k := 8) (ts := [22, 3]) (args := args) (ds := ds) (ps := p) (W := W) plain hA (fun j t v h1 h2 => ⟨base, hval j t v (by simpa using h1) (by simpa using h2)⟩) (Go.AM.enter_run body3) law
  obtain ⟨v0, vs0, d0, ds0, p0, q0, hargs, rfl, rfl, h0, r0⟩ := trodAll_cons hA
  obtain ⟨v1, vs1, d1, ds1, p1, q1, rfl, rfl, rfl, h1, r1⟩ := trodAll_cons r0
  obtain ⟨rfl, rfl, rfl⟩ := trodAll_nil r1
  obtain rfl : args = #[v0, v1] := by cases args; simp_all
  obtain ⟨rfl, rfl⟩ := trodVars_none hV
  have k0 := h0
  have lt0 : ∀ x ∈ p0, x.block < W.heap.size := by obtain ⟨m, hm⟩ := k0; exact DataW.trod_lt m _ _ _ hm
  have k1 := h1
  have lt1 : ∀ x ∈ p1, x.block < W.heap.size := by obtain ⟨m, hm⟩ := k1; exact DataW.trod_lt m _ _ _ hm
  clear hA0 hval0 hsz0
  refine walk.mono fun e W' ⟨he, bel⟩ => ?_
  subst he
  exact ⟨_, rfl, _, _, _, [], _, [], hW', trodAll_mk1 (shut_bool Tryz.underlying4 _), (trodAll_cons_mk (Below.trod laidOut (by kernel_rfl) (of_decide_eq_true (by kernel_rfl)) k0 bel lt0) (trodAll_cons_mk (Below.trod laidOut (by kernel_rfl) (of_decide_eq_true (by kernel_rfl)) k1 bel lt1) trodAll_mk0)), rfl, bel.frame _, fun h => by cases h⟩
theorem over : Rows.unfoldStarsRow.holds Tryz.pinned (OpenSpec.ofChange Rows.unfoldStarsSpec) :=
  OpenClaim.holds_of_wide 3 Tryz.f3 rfl rfl rfl rfl rfl rfl rfl ⟨rfl, rfl, rfl, rfl, rfl⟩ rfl rfl rfl rfl rfl (by kernel_rfl) Tryz.func3 facts
    (of_decide_eq_true (by kernel_rfl)) (by unfold Func.isWrapper; first | (rw [if_pos (by decide +kernel)]; kernel_rfl) | (rw [if_neg (by decide +kernel)]; exact ⟨rfl, rfl⟩))
    (fun os started H enc _ => lifted os started H enc)
theorem proved : Rows.UnfoldStarsSaid := over
end unfoldStars
end Go.Proofs.YtklnjhedbafknaaGreat
namespace Go.Proofs.YtklnjhedbafknaaGreat
theorem unfoldStars_holds : Rows.UnfoldStarsSaid := unfoldStars.proved
#print axioms unfoldStars_holds
end Go.Proofs.YtklnjhedbafknaaGreat
end
