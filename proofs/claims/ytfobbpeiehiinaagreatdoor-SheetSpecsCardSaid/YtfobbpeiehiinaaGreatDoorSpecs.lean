/- SheetSpecs: whatever its arguments, it returns true, and they read as before. No condition. Made by program (card_row.py). -/
import Derived.Test.YtfobbpeiehiinaaGreatDoorRows
import Derived.WalkKit
import Derived.ProofKit
import Derived.OpenShut
import Derived.ChangeOld
import Derived.Below
import Derived.SizedLaws
import Derived.LaidMore
import Derived.Stop.Joined
import Derived.SevenTiedAt
import Derived.Test.YtfobbpeiehiinaaGreatDoorTie
import Derived.Test.YtfobbpeiehiinaaGreatDoorCards
import Derived.Test.YtfobbpeiehiinaaGreatDoorX7
section
set_option linter.unusedVariables false
set_option linter.unusedSimpArgs false
namespace Go.Proofs.YtfobbpeiehiinaaGreatDoor
namespace sheetSpecs
open Go.ChangeShapes Go.WideShapes Go.ChangeAt Go.RowKit
abbrev laid3 {H : Type} : List (String × DataW H) := [("math/bits.deBruijn32tab", Rows.laid_math_bits_deBruijn32tab), ("math/bits.deBruijn64tab", Rows.laid_math_bits_deBruijn64tab), ("internal/strconv.uint64pow10", Rows.laid_internal_strconv_uint64pow10)]
set_option linter.unusedVariables false
theorem own : ownKnob Tryz.prog.godebug = none := by kernel_rfl
theorem isL : Go.AM.isPlacesT Go.AM.P 22 = true := by kernel_rfl
theorem isT : Go.AM.isTrisT Go.AM.P 23 = true := by kernel_rfl
theorem isS : Go.AM.isI3s Go.AM.P 25 = true := by kernel_rfl
theorem body3 : Go.AM.hasBody Go.AM.P 3 = true := by kernel_rfl
theorem plain : [22, 23, 25].all (fun t => Go.AM.plainT Go.AM.P 8 t) = true := by kernel_rfl
theorem plain5 : [22, 23, 25].all (fun t => Go.AM.plainT Go.AM.P 8 t && decide (Go.AM.sdep Go.AM.P 8 t ≤ 5)) = true := by kernel_rfl
theorem law (H : Go.AM.Heap) (us : List Go.AM.V) (h : Go.AM.WTs Go.AM.P 8 H [22, 23, 25] us) : ∃ n H', Go.AM.callA Go.AM.N.C n 3 us H = some (.bool true, H') := by
  obtain ⟨n, H', e⟩ := Go.AM.law_pure Go.AM.N.law25_SheetSpecs_in plain5 (fun H us h _ _ => Go.AM.N.sheetSpecs_all isL isT isS h) h
  exact ⟨n, H', by unfold Go.AM.N.f_law25_SheetSpecs at e; exact e⟩
theorem door_met (os : Os) (args : Array Value) : laidMetH Tryz.prog laid3 ((World.doorLaid Tryz.prog 400 os).forCall (fun _ _ => 0) ⟨#[], args, []⟩).memory :=
  laidMetH_of_parts3 (fuel := 8) (laidMet_of_run' 8 (by kernel_rfl) (by kernel_rfl)) (by kernel_rfl) (by kernel_rfl)
set_option maxRecDepth 100000 in
theorem lifted (os : Os) (started : os.Started) (H : Type) (enc : TypeId × Value → H) :
    ReturnsInHanded {} Tryz.checked os 3 .any (fun w args => (Rows.sheetSpecsSpec.pre enc Tryz.prog Tryz.f3 [] false w args ∧ laidMetH Tryz.prog laid3 w) ∧ sizedMet enc Tryz.prog Tryz.f3 (OpenSpec.ofChange Rows.sheetSpecsSpec) false w args)
      (Rows.sheetSpecsSpec.post enc Tryz.prog Tryz.f3 false true false false) := by
  refine returnsInHanded_of_change_and (C := Tryz.checked) (X := fun w _ => laidMetH Tryz.prog laid3 w) (fun _ _ _ hh h => h.of_heap hh) own started (by kernel_rfl) Tryz.func3
    (ChangeSpec.witness_shaped (enc := enc) (C := Tryz.checked) (os := os) (X := fun w _ => laidMetH Tryz.prog laid3 w) false (World.doorLaid Tryz.prog 400 os) #[.slice none 0 0, .slice none 0 0, .agg #[.int .i64 0, .int .i64 0, .int .i64 0]] 8 rfl (World.shaped_of_RefB (by kernel_rfl) (by kernel_rfl)) (by kernel_rfl) (by kernel_rfl) (by kernel_rfl) (door_met os _)) ?_
  intro W base args ds gs before hval0 hW hcnd hsz0 hL0 _
  have hval : ∀ (j : Nat) t v, Tryz.f3.params[j]? = some t → args[j]? = some v → Value.okWide Tryz.prog W .any base t v := hval0
  have hW' := hW
  obtain ⟨p, q, hA0, hV, rfl, hfz, hnd⟩ := hW
  have hA : DataW.TrodAll enc Tryz.prog W 0 (fun _ => true) true Tryz.f3.params.toList args.toList ds p := hA0
  rw [Tryz.params3] at hA hval
  have walk := Go.AM.law_calls Go.AM.N.ok (f := 3) (k := 8) (ts := [22, 23, 25]) (args := args) (ds := ds) (ps := p) (W := W) plain hA (fun j t v h1 h2 => ⟨base, hval j t v (by simpa using h1) (by simpa using h2)⟩) (Go.AM.enter_run body3) law
  obtain ⟨v0, vs0, d0, ds0, p0, q0, hargs, rfl, rfl, h0, r0⟩ := trodAll_cons hA
  obtain ⟨v1, vs1, d1, ds1, p1, q1, rfl, rfl, rfl, h1, r1⟩ := trodAll_cons r0
  obtain ⟨v2, vs2, d2, ds2, p2, q2, rfl, rfl, rfl, h2, r2⟩ := trodAll_cons r1
  obtain ⟨rfl, rfl, rfl⟩ := trodAll_nil r2
  obtain rfl : args = #[v0, v1, v2] := by cases args; simp_all
  obtain ⟨rfl, rfl⟩ := trodVars_none hV
  have k0 := h0
  have lt0 : ∀ x ∈ p0, x.block < W.heap.size := by obtain ⟨m, hm⟩ := k0; exact DataW.trod_lt m _ _ _ hm
  have k1 := h1
  have lt1 : ∀ x ∈ p1, x.block < W.heap.size := by obtain ⟨m, hm⟩ := k1; exact DataW.trod_lt m _ _ _ hm
  have k2 := h2
  have lt2 : ∀ x ∈ p2, x.block < W.heap.size := by obtain ⟨m, hm⟩ := k2; exact DataW.trod_lt m _ _ _ hm
  clear hA0 hval0 hsz0
  refine walk.mono fun e W' ⟨he, bel⟩ => ?_
  subst he
  exact ⟨_, rfl, _, _, _, [], _, [], hW', trodAll_mk1 (shut_bool Tryz.underlying4 _), (trodAll_cons_mk (Below.trod laidOut (by kernel_rfl) (of_decide_eq_true (by kernel_rfl)) k0 bel lt0) (trodAll_cons_mk (Below.trod laidOut (by kernel_rfl) (of_decide_eq_true (by kernel_rfl)) k1 bel lt1) (trodAll_cons_mk (Below.trod laidOut (by kernel_rfl) (of_decide_eq_true (by kernel_rfl)) k2 bel lt2) trodAll_mk0))), rfl, bel.frame _, fun h => by cases h⟩
theorem over : Rows.sheetSpecsRow.holds Tryz.pinned (OpenSpec.ofChange Rows.sheetSpecsSpec) :=
  OpenClaim.holds_of_wide 3 Tryz.f3 rfl rfl rfl rfl rfl rfl rfl ⟨rfl, rfl, rfl, rfl, rfl⟩ rfl rfl rfl rfl rfl cf Tryz.func3 facts
    (of_decide_eq_true (by kernel_rfl)) (by unfold Func.isWrapper; first | (rw [if_pos (by decide +kernel)]; kernel_rfl) | (rw [if_neg (by decide +kernel)]; exact ⟨rfl, rfl⟩))
    (fun os started H enc _ => lifted os started H enc)
theorem card_looks : ∀ f fn, Tryz.pinned.checked.prog.funcNamed Rows.sheetSpecsRow.func = some f → Tryz.pinned.checked.prog.funcs[f]? = some fn → true = Tryz.pinned.checked.prog.looks [] ∧ ∀ (j : Nat) t, fn.params[j]? = some t → Tryz.pinned.checked.prog.wantsStandIn t = false := by
  intro f fn hf hfn
  obtain rfl : f = 3 := Option.some.inj (cf.symm.trans hf) |>.symm
  obtain rfl : fn = Tryz.f3 := (Option.some.inj (Tryz.func3.symm.trans hfn)).symm
  refine ⟨ck, fun j t ht => ?_⟩
  rw [Tryz.params3] at ht
  have hm : t ∈ [22, 23, 25] := by simpa using Array.mem_of_getElem? ht
  exact (show Tryz.prog.wantsStandIn t = false by simpa using List.all_eq_true.1 cs t hm)
theorem proved : Rows.SheetSpecsCardSaid :=
  Claim7.holds_tied_plain_at .later [] [.data, .data, .data] true (true, "44303d557cf0b6faaf4d6cf0ad132588d27a3b2da4e8b19fcc5feee81b58d3ac") true
    over (fun _ h => by cases h) cw (fun _ h => by cases h) sheetSpecs_row_tie rfl ⟨rfl, rfl⟩ cm rfl card_looks cg
end sheetSpecs
end Go.Proofs.YtfobbpeiehiinaaGreatDoor
namespace Go.Proofs.YtfobbpeiehiinaaGreatDoor
theorem sheetSpecs_holds : Rows.SheetSpecsCardSaid := sheetSpecs.proved
#print axioms sheetSpecs_holds
end Go.Proofs.YtfobbpeiehiinaaGreatDoor
end
