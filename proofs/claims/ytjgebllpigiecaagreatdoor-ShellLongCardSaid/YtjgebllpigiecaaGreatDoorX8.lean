/- Merged by program from: LoLM2. -/
import Derived.Test.YtjgebllpigiecaaGreatDoorX7
section
set_option linter.unusedVariables false
set_option linter.unusedSimpArgs false
set_option maxRecDepth 1000000
namespace Go.AM.L
def chkRun (r : Option R) (v : V) : Bool := match r with
  | some p => V.beq p.1 v
  | none => false
theorem chkRun_is {c : Cfg} {n : Nat} {f : FuncId} {a : List V} {v : V} (h : chkRun (callA c n f a ⟨0, .nil⟩) v = true) : ∃ n H1, callA c n f a ⟨0, .nil⟩ = some (v, H1) := by
  unfold chkRun at h
  split at h
  · rename_i p hp
    exact ⟨n, p.2, by rw [hp, ← V.beq_eq h]⟩
  · cases h
theorem root_ev : chkRun (ev @bf 300 5 [] ⟨0, .nil⟩) (.bool true) = true := by kernel_rfl
theorem root_ok : chkRun (callA C 300 5 [] ⟨0, .nil⟩) (.bool true) = true := by rw [← ev_e]; exact root_ev
theorem root_ext : ExtSound C.P 5 (extC (.bool true)) := by
  obtain ⟨n, H1, h⟩ := chkRun_is root_ok
  exact extClosed (C0 := C) ok h rfl
end Go.AM.L
end
