/- Merged by program from: LoO. -/
import Derived.Test.YtjgebllpigiecaaGreatDoorX8
section
set_option linter.unusedVariables false
set_option linter.unusedSimpArgs false
set_option maxRecDepth 1000000
namespace Go.AM.N
theorem fns1_0 : tabList0.all (fun p => okFun P p.1) = true := by kernel_rfl
theorem fns1_1 : tabList1.all (fun p => okFun P p.1) = true := by kernel_rfl
theorem fns1 : tabList.all (fun p => okFun P p.1) = true := by simp only [tabList, List.all_append, fns1_0, fns1_1, Bool.and_self]
theorem fns : ∀ f tab, C.tabs f = some tab → okFun C.P f = true := fun f tab h => List.all_eq_true.1 fns1 (f, tab) (look_mem h)
set_option maxHeartbeats 8000000 in
theorem exts : ∀ p ∈ extList, ExtSound C.P p.1 p.2 ∧ ExtFrame p.2 := by
  intro p hp
  simp only [extList, List.mem_cons, List.not_mem_nil, or_false] at hp
  rcases hp with rfl | rfl | rfl
  · exact ⟨Go.AM.L.root_ext, extC_frame _⟩
  · exact ⟨xs_cnt (Go.Proofs.Tryz.func38) (by kernel_rfl) (by kernel_rfl) (by kernel_rfl) (by kernel_rfl), extCnt_frame⟩
  · exact ⟨xs_idx (Go.Proofs.Tryz.func77) (by kernel_rfl) (by kernel_rfl) (by kernel_rfl) (by kernel_rfl), extIdx_frame⟩
theorem mixed : C.P.follows .mixedOrders = true := (show P.follows .mixedOrders = true from seat_mixed)
theorem ext_mem {f : Nat} {g : List V → Heap → Option R} (h : C.ext f = some g) : (f, g) ∈ extList := look_mem (l := extList) (show extList.lookup f = some g from h)
theorem ok : C.Ok := { mixed := mixed, fns := fns, ext := fun f g h => exts (f, g) (ext_mem h), okc := fun _ _ h => h }
end Go.AM.N
end
