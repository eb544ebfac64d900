/- Merged by program from: JvLE. -/
import Derived.Test.YtklnjhedbafknaaGreatDoorX6
section
set_option linter.unusedVariables false
set_option linter.unusedSimpArgs false
set_option maxRecDepth 1000000
namespace Go.AM.L
noncomputable def d0 (bd : B3) (call : FuncId → List V → Heap → Option R) (n : Nat) (f : FuncId) (a : List V) (H : Heap) : Option R := (bif Nat.beq f 4 then journal_New.rf bd call n a H else bodyA C (fcall call) n f a H)
theorem d0_e (n : Nat) (f : FuncId) (a : List V) (H : Heap) : d0 @bdI (callA C n) n f a H = callA C (n + 1) f a H := by
  unfold d0
  exact (by
  cases h : Nat.beq f 4
  · exact bodyA_e
  · have h := Nat.eq_of_beq_eq_true h; subst h; exact journal_New.rf_e n a H)
noncomputable def d1 (bd : B3) (call : FuncId → List V → Heap → Option R) (n : Nat) (f : FuncId) (a : List V) (H : Heap) : Option R := (bif Nat.beq f 5 then journal_Journal_Depth.rf bd call n a H else bodyA C (fcall call) n f a H)
theorem d1_e (n : Nat) (f : FuncId) (a : List V) (H : Heap) : d1 @bdI (callA C n) n f a H = callA C (n + 1) f a H := by
  unfold d1
  exact (by
  cases h : Nat.beq f 5
  · exact bodyA_e
  · have h := Nat.eq_of_beq_eq_true h; subst h; exact journal_Journal_Depth.rf_e n a H)
noncomputable def d2 (bd : B3) (call : FuncId → List V → Heap → Option R) (n : Nat) (f : FuncId) (a : List V) (H : Heap) : Option R := (bif Nat.ble f 4 then d0 bd call n f a H else d1 bd call n f a H)
theorem d2_e (n : Nat) (f : FuncId) (a : List V) (H : Heap) : d2 @bdI (callA C n) n f a H = callA C (n + 1) f a H := by
  unfold d2
  exact (by
  cases h : Nat.ble f 4
  · exact d1_e n f a H
  · exact d0_e n f a H)
noncomputable def d3 (bd : B3) (call : FuncId → List V → Heap → Option R) (n : Nat) (f : FuncId) (a : List V) (H : Heap) : Option R := (bif Nat.beq f 7 then journal_Journal_Session.rf bd call n a H else bodyA C (fcall call) n f a H)
theorem d3_e (n : Nat) (f : FuncId) (a : List V) (H : Heap) : d3 @bdI (callA C n) n f a H = callA C (n + 1) f a H := by
  unfold d3
  exact (by
  cases h : Nat.beq f 7
  · exact bodyA_e
  · have h := Nat.eq_of_beq_eq_true h; subst h; exact journal_Journal_Session.rf_e n a H)
noncomputable def d4 (bd : B3) (call : FuncId → List V → Heap → Option R) (n : Nat) (f : FuncId) (a : List V) (H : Heap) : Option R := (bif Nat.beq f 8 then session_Session_Engine.rf bd call n a H else bodyA C (fcall call) n f a H)
theorem d4_e (n : Nat) (f : FuncId) (a : List V) (H : Heap) : d4 @bdI (callA C n) n f a H = callA C (n + 1) f a H := by
  unfold d4
  exact (by
  cases h : Nat.beq f 8
  · exact bodyA_e
  · have h := Nat.eq_of_beq_eq_true h; subst h; exact session_Session_Engine.rf_e n a H)
noncomputable def d5 (bd : B3) (call : FuncId → List V → Heap → Option R) (n : Nat) (f : FuncId) (a : List V) (H : Heap) : Option R := (bif Nat.beq f 10 then journal_Journal_Undo.rf bd call n a H else bodyA C (fcall call) n f a H)
theorem d5_e (n : Nat) (f : FuncId) (a : List V) (H : Heap) : d5 @bdI (callA C n) n f a H = callA C (n + 1) f a H := by
  unfold d5
  exact (by
  cases h : Nat.beq f 10
  · exact bodyA_e
  · have h := Nat.eq_of_beq_eq_true h; subst h; exact journal_Journal_Undo.rf_e n a H)
noncomputable def d6 (bd : B3) (call : FuncId → List V → Heap → Option R) (n : Nat) (f : FuncId) (a : List V) (H : Heap) : Option R := (bif Nat.ble f 8 then d4 bd call n f a H else d5 bd call n f a H)
theorem d6_e (n : Nat) (f : FuncId) (a : List V) (H : Heap) : d6 @bdI (callA C n) n f a H = callA C (n + 1) f a H := by
  unfold d6
  exact (by
  cases h : Nat.ble f 8
  · exact d5_e n f a H
  · exact d4_e n f a H)
noncomputable def d7 (bd : B3) (call : FuncId → List V → Heap → Option R) (n : Nat) (f : FuncId) (a : List V) (H : Heap) : Option R := (bif Nat.ble f 7 then d3 bd call n f a H else d6 bd call n f a H)
theorem d7_e (n : Nat) (f : FuncId) (a : List V) (H : Heap) : d7 @bdI (callA C n) n f a H = callA C (n + 1) f a H := by
  unfold d7
  exact (by
  cases h : Nat.ble f 7
  · exact d6_e n f a H
  · exact d3_e n f a H)
noncomputable def d8 (bd : B3) (call : FuncId → List V → Heap → Option R) (n : Nat) (f : FuncId) (a : List V) (H : Heap) : Option R := (bif Nat.ble f 5 then d2 bd call n f a H else d7 bd call n f a H)
theorem d8_e (n : Nat) (f : FuncId) (a : List V) (H : Heap) : d8 @bdI (callA C n) n f a H = callA C (n + 1) f a H := by
  unfold d8
  exact (by
  cases h : Nat.ble f 5
  · exact d7_e n f a H
  · exact d2_e n f a H)
noncomputable def d9 (bd : B3) (call : FuncId → List V → Heap → Option R) (n : Nat) (f : FuncId) (a : List V) (H : Heap) : Option R := (bif Nat.beq f 11 then journal_Journal_Redo.rf bd call n a H else bodyA C (fcall call) n f a H)
theorem d9_e (n : Nat) (f : FuncId) (a : List V) (H : Heap) : d9 @bdI (callA C n) n f a H = callA C (n + 1) f a H := by
  unfold d9
  exact (by
  cases h : Nat.beq f 11
  · exact bodyA_e
  · have h := Nat.eq_of_beq_eq_true h; subst h; exact journal_Journal_Redo.rf_e n a H)
noncomputable def d10 (bd : B3) (call : FuncId → List V → Heap → Option R) (n : Nat) (f : FuncId) (a : List V) (H : Heap) : Option R := (bif Nat.beq f 12 then law38_lives.rf bd call n a H else bodyA C (fcall call) n f a H)
theorem d10_e (n : Nat) (f : FuncId) (a : List V) (H : Heap) : d10 @bdI (callA C n) n f a H = callA C (n + 1) f a H := by
  unfold d10
  exact (by
  cases h : Nat.beq f 12
  · exact bodyA_e
  · have h := Nat.eq_of_beq_eq_true h; subst h; exact law38_lives.rf_e n a H)
noncomputable def d11 (bd : B3) (call : FuncId → List V → Heap → Option R) (n : Nat) (f : FuncId) (a : List V) (H : Heap) : Option R := (bif Nat.ble f 11 then d9 bd call n f a H else d10 bd call n f a H)
theorem d11_e (n : Nat) (f : FuncId) (a : List V) (H : Heap) : d11 @bdI (callA C n) n f a H = callA C (n + 1) f a H := by
  unfold d11
  exact (by
  cases h : Nat.ble f 11
  · exact d10_e n f a H
  · exact d9_e n f a H)
noncomputable def d12 (bd : B3) (call : FuncId → List V → Heap → Option R) (n : Nat) (f : FuncId) (a : List V) (H : Heap) : Option R := (bif Nat.beq f 14 then journal_Journal_Do.rf bd call n a H else bodyA C (fcall call) n f a H)
theorem d12_e (n : Nat) (f : FuncId) (a : List V) (H : Heap) : d12 @bdI (callA C n) n f a H = callA C (n + 1) f a H := by
  unfold d12
  exact (by
  cases h : Nat.beq f 14
  · exact bodyA_e
  · have h := Nat.eq_of_beq_eq_true h; subst h; exact journal_Journal_Do.rf_e n a H)
noncomputable def d13 (bd : B3) (call : FuncId → List V → Heap → Option R) (n : Nat) (f : FuncId) (a : List V) (H : Heap) : Option R := (bif Nat.beq f 15 then session_Open.rf bd call n a H else bodyA C (fcall call) n f a H)
theorem d13_e (n : Nat) (f : FuncId) (a : List V) (H : Heap) : d13 @bdI (callA C n) n f a H = callA C (n + 1) f a H := by
  unfold d13
  exact (by
  cases h : Nat.beq f 15
  · exact bodyA_e
  · have h := Nat.eq_of_beq_eq_true h; subst h; exact session_Open.rf_e n a H)
noncomputable def d14 (bd : B3) (call : FuncId → List V → Heap → Option R) (n : Nat) (f : FuncId) (a : List V) (H : Heap) : Option R := (bif Nat.beq f 16 then journal_Journal_swap.rf bd call n a H else bodyA C (fcall call) n f a H)
theorem d14_e (n : Nat) (f : FuncId) (a : List V) (H : Heap) : d14 @bdI (callA C n) n f a H = callA C (n + 1) f a H := by
  unfold d14
  exact (by
  cases h : Nat.beq f 16
  · exact bodyA_e
  · have h := Nat.eq_of_beq_eq_true h; subst h; exact journal_Journal_swap.rf_e n a H)
noncomputable def d15 (bd : B3) (call : FuncId → List V → Heap → Option R) (n : Nat) (f : FuncId) (a : List V) (H : Heap) : Option R := (bif Nat.ble f 15 then d13 bd call n f a H else d14 bd call n f a H)
theorem d15_e (n : Nat) (f : FuncId) (a : List V) (H : Heap) : d15 @bdI (callA C n) n f a H = callA C (n + 1) f a H := by
  unfold d15
  exact (by
  cases h : Nat.ble f 15
  · exact d14_e n f a H
  · exact d13_e n f a H)
noncomputable def d16 (bd : B3) (call : FuncId → List V → Heap → Option R) (n : Nat) (f : FuncId) (a : List V) (H : Heap) : Option R := (bif Nat.ble f 14 then d12 bd call n f a H else d15 bd call n f a H)
theorem d16_e (n : Nat) (f : FuncId) (a : List V) (H : Heap) : d16 @bdI (callA C n) n f a H = callA C (n + 1) f a H := by
  unfold d16
  exact (by
  cases h : Nat.ble f 14
  · exact d15_e n f a H
  · exact d12_e n f a H)
noncomputable def d17 (bd : B3) (call : FuncId → List V → Heap → Option R) (n : Nat) (f : FuncId) (a : List V) (H : Heap) : Option R := (bif Nat.ble f 12 then d11 bd call n f a H else d16 bd call n f a H)
theorem d17_e (n : Nat) (f : FuncId) (a : List V) (H : Heap) : d17 @bdI (callA C n) n f a H = callA C (n + 1) f a H := by
  unfold d17
  exact (by
  cases h : Nat.ble f 12
  · exact d16_e n f a H
  · exact d11_e n f a H)
noncomputable def d18 (bd : B3) (call : FuncId → List V → Heap → Option R) (n : Nat) (f : FuncId) (a : List V) (H : Heap) : Option R := (bif Nat.ble f 10 then d8 bd call n f a H else d17 bd call n f a H)
theorem d18_e (n : Nat) (f : FuncId) (a : List V) (H : Heap) : d18 @bdI (callA C n) n f a H = callA C (n + 1) f a H := by
  unfold d18
  exact (by
  cases h : Nat.ble f 10
  · exact d17_e n f a H
  · exact d8_e n f a H)
noncomputable def d19 (bd : B3) (call : FuncId → List V → Heap → Option R) (n : Nat) (f : FuncId) (a : List V) (H : Heap) : Option R := (bif Nat.beq f 17 then pdt_Engine_Sites.rf bd call n a H else bodyA C (fcall call) n f a H)
theorem d19_e (n : Nat) (f : FuncId) (a : List V) (H : Heap) : d19 @bdI (callA C n) n f a H = callA C (n + 1) f a H := by
  unfold d19
  exact (by
  cases h : Nat.beq f 17
  · exact bodyA_e
  · have h := Nat.eq_of_beq_eq_true h; subst h; exact pdt_Engine_Sites.rf_e n a H)
noncomputable def d20 (bd : B3) (call : FuncId → List V → Heap → Option R) (n : Nat) (f : FuncId) (a : List V) (H : Heap) : Option R := (bif Nat.beq f 20 then session_Session_Do.rf bd call n a H else bodyA C (fcall call) n f a H)
theorem d20_e (n : Nat) (f : FuncId) (a : List V) (H : Heap) : d20 @bdI (callA C n) n f a H = callA C (n + 1) f a H := by
  unfold d20
  exact (by
  cases h : Nat.beq f 20
  · exact bodyA_e
  · have h := Nat.eq_of_beq_eq_true h; subst h; exact session_Session_Do.rf_e n a H)
noncomputable def d21 (bd : B3) (call : FuncId → List V → Heap → Option R) (n : Nat) (f : FuncId) (a : List V) (H : Heap) : Option R := (bif Nat.ble f 17 then d19 bd call n f a H else d20 bd call n f a H)
theorem d21_e (n : Nat) (f : FuncId) (a : List V) (H : Heap) : d21 @bdI (callA C n) n f a H = callA C (n + 1) f a H := by
  unfold d21
  exact (by
  cases h : Nat.ble f 17
  · exact d20_e n f a H
  · exact d19_e n f a H)
noncomputable def d22 (bd : B3) (call : FuncId → List V → Heap → Option R) (n : Nat) (f : FuncId) (a : List V) (H : Heap) : Option R := (bif Nat.beq f 23 then session_open.rf bd call n a H else bodyA C (fcall call) n f a H)
theorem d22_e (n : Nat) (f : FuncId) (a : List V) (H : Heap) : d22 @bdI (callA C n) n f a H = callA C (n + 1) f a H := by
  unfold d22
  exact (by
  cases h : Nat.beq f 23
  · exact bodyA_e
  · have h := Nat.eq_of_beq_eq_true h; subst h; exact session_open.rf_e n a H)
noncomputable def d23 (bd : B3) (call : FuncId → List V → Heap → Option R) (n : Nat) (f : FuncId) (a : List V) (H : Heap) : Option R := (bif Nat.beq f 24 then journal_change_back.rf bd call n a H else bodyA C (fcall call) n f a H)
theorem d23_e (n : Nat) (f : FuncId) (a : List V) (H : Heap) : d23 @bdI (callA C n) n f a H = callA C (n + 1) f a H := by
  unfold d23
  exact (by
  cases h : Nat.beq f 24
  · exact bodyA_e
  · have h := Nat.eq_of_beq_eq_true h; subst h; exact journal_change_back.rf_e n a H)
noncomputable def d24 (bd : B3) (call : FuncId → List V → Heap → Option R) (n : Nat) (f : FuncId) (a : List V) (H : Heap) : Option R := (bif Nat.beq f 25 then pdt_Engine_Set.rf bd call n a H else bodyA C (fcall call) n f a H)
theorem d24_e (n : Nat) (f : FuncId) (a : List V) (H : Heap) : d24 @bdI (callA C n) n f a H = callA C (n + 1) f a H := by
  unfold d24
  exact (by
  cases h : Nat.beq f 25
  · exact bodyA_e
  · have h := Nat.eq_of_beq_eq_true h; subst h; exact pdt_Engine_Set.rf_e n a H)
noncomputable def d25 (bd : B3) (call : FuncId → List V → Heap → Option R) (n : Nat) (f : FuncId) (a : List V) (H : Heap) : Option R := (bif Nat.ble f 24 then d23 bd call n f a H else d24 bd call n f a H)
theorem d25_e (n : Nat) (f : FuncId) (a : List V) (H : Heap) : d25 @bdI (callA C n) n f a H = callA C (n + 1) f a H := by
  unfold d25
  exact (by
  cases h : Nat.ble f 24
  · exact d24_e n f a H
  · exact d23_e n f a H)
noncomputable def d26 (bd : B3) (call : FuncId → List V → Heap → Option R) (n : Nat) (f : FuncId) (a : List V) (H : Heap) : Option R := (bif Nat.ble f 23 then d22 bd call n f a H else d25 bd call n f a H)
theorem d26_e (n : Nat) (f : FuncId) (a : List V) (H : Heap) : d26 @bdI (callA C n) n f a H = callA C (n + 1) f a H := by
  unfold d26
  exact (by
  cases h : Nat.ble f 23
  · exact d25_e n f a H
  · exact d22_e n f a H)
noncomputable def d27 (bd : B3) (call : FuncId → List V → Heap → Option R) (n : Nat) (f : FuncId) (a : List V) (H : Heap) : Option R := (bif Nat.ble f 20 then d21 bd call n f a H else d26 bd call n f a H)
theorem d27_e (n : Nat) (f : FuncId) (a : List V) (H : Heap) : d27 @bdI (callA C n) n f a H = callA C (n + 1) f a H := by
  unfold d27
  exact (by
  cases h : Nat.ble f 20
  · exact d26_e n f a H
  · exact d21_e n f a H)
noncomputable def d28 (bd : B3) (call : FuncId → List V → Heap → Option R) (n : Nat) (f : FuncId) (a : List V) (H : Heap) : Option R := (bif Nat.beq f 26 then journal_apply.rf bd call n a H else bodyA C (fcall call) n f a H)
theorem d28_e (n : Nat) (f : FuncId) (a : List V) (H : Heap) : d28 @bdI (callA C n) n f a H = callA C (n + 1) f a H := by
  unfold d28
  exact (by
  cases h : Nat.beq f 26
  · exact bodyA_e
  · have h := Nat.eq_of_beq_eq_true h; subst h; exact journal_apply.rf_e n a H)
noncomputable def d29 (bd : B3) (call : FuncId → List V → Heap → Option R) (n : Nat) (f : FuncId) (a : List V) (H : Heap) : Option R := (bif Nat.beq f 27 then slices_SortFunc_api_Place_api_Place.rf bd call n a H else bodyA C (fcall call) n f a H)
theorem d29_e (n : Nat) (f : FuncId) (a : List V) (H : Heap) : d29 @bdI (callA C n) n f a H = callA C (n + 1) f a H := by
  unfold d29
  exact (by
  cases h : Nat.beq f 27
  · exact bodyA_e
  · have h := Nat.eq_of_beq_eq_true h; subst h; exact slices_SortFunc_api_Place_api_Place.rf_e n a H)
noncomputable def d30 (bd : B3) (call : FuncId → List V → Heap → Option R) (n : Nat) (f : FuncId) (a : List V) (H : Heap) : Option R := (bif Nat.ble f 26 then d28 bd call n f a H else d29 bd call n f a H)
theorem d30_e (n : Nat) (f : FuncId) (a : List V) (H : Heap) : d30 @bdI (callA C n) n f a H = callA C (n + 1) f a H := by
  unfold d30
  exact (by
  cases h : Nat.ble f 26
  · exact d29_e n f a H
  · exact d28_e n f a H)
noncomputable def d31 (bd : B3) (call : FuncId → List V → Heap → Option R) (n : Nat) (f : FuncId) (a : List V) (H : Heap) : Option R := (bif Nat.beq f 29 then session_Session_do.rf bd call n a H else bodyA C (fcall call) n f a H)
theorem d31_e (n : Nat) (f : FuncId) (a : List V) (H : Heap) : d31 @bdI (callA C n) n f a H = callA C (n + 1) f a H := by
  unfold d31
  exact (by
  cases h : Nat.beq f 29
  · exact bodyA_e
  · have h := Nat.eq_of_beq_eq_true h; subst h; exact session_Session_do.rf_e n a H)
noncomputable def d32 (bd : B3) (call : FuncId → List V → Heap → Option R) (n : Nat) (f : FuncId) (a : List V) (H : Heap) : Option R := (bif Nat.beq f 30 then pdt_Open.rf bd call n a H else bodyA C (fcall call) n f a H)
theorem d32_e (n : Nat) (f : FuncId) (a : List V) (H : Heap) : d32 @bdI (callA C n) n f a H = callA C (n + 1) f a H := by
  unfold d32
  exact (by
  cases h : Nat.beq f 30
  · exact bodyA_e
  · have h := Nat.eq_of_beq_eq_true h; subst h; exact pdt_Open.rf_e n a H)
noncomputable def d33 (bd : B3) (call : FuncId → List V → Heap → Option R) (n : Nat) (f : FuncId) (a : List V) (H : Heap) : Option R := (bif Nat.beq f 32 then pdt_Engine_clear.rf bd call n a H else bodyA C (fcall call) n f a H)
theorem d33_e (n : Nat) (f : FuncId) (a : List V) (H : Heap) : d33 @bdI (callA C n) n f a H = callA C (n + 1) f a H := by
  unfold d33
  exact (by
  cases h : Nat.beq f 32
  · exact bodyA_e
  · have h := Nat.eq_of_beq_eq_true h; subst h; exact pdt_Engine_clear.rf_e n a H)
noncomputable def d34 (bd : B3) (call : FuncId → List V → Heap → Option R) (n : Nat) (f : FuncId) (a : List V) (H : Heap) : Option R := (bif Nat.ble f 30 then d32 bd call n f a H else d33 bd call n f a H)
theorem d34_e (n : Nat) (f : FuncId) (a : List V) (H : Heap) : d34 @bdI (callA C n) n f a H = callA C (n + 1) f a H := by
  unfold d34
  exact (by
  cases h : Nat.ble f 30
  · exact d33_e n f a H
  · exact d32_e n f a H)
noncomputable def d35 (bd : B3) (call : FuncId → List V → Heap → Option R) (n : Nat) (f : FuncId) (a : List V) (H : Heap) : Option R := (bif Nat.ble f 29 then d31 bd call n f a H else d34 bd call n f a H)
theorem d35_e (n : Nat) (f : FuncId) (a : List V) (H : Heap) : d35 @bdI (callA C n) n f a H = callA C (n + 1) f a H := by
  unfold d35
  exact (by
  cases h : Nat.ble f 29
  · exact d34_e n f a H
  · exact d31_e n f a H)
noncomputable def d36 (bd : B3) (call : FuncId → List V → Heap → Option R) (n : Nat) (f : FuncId) (a : List V) (H : Heap) : Option R := (bif Nat.ble f 27 then d30 bd call n f a H else d35 bd call n f a H)
theorem d36_e (n : Nat) (f : FuncId) (a : List V) (H : Heap) : d36 @bdI (callA C n) n f a H = callA C (n + 1) f a H := by
  unfold d36
  exact (by
  cases h : Nat.ble f 27
  · exact d35_e n f a H
  · exact d30_e n f a H)
noncomputable def d37 (bd : B3) (call : FuncId → List V → Heap → Option R) (n : Nat) (f : FuncId) (a : List V) (H : Heap) : Option R := (bif Nat.ble f 25 then d27 bd call n f a H else d36 bd call n f a H)
theorem d37_e (n : Nat) (f : FuncId) (a : List V) (H : Heap) : d37 @bdI (callA C n) n f a H = callA C (n + 1) f a H := by
  unfold d37
  exact (by
  cases h : Nat.ble f 25
  · exact d36_e n f a H
  · exact d27_e n f a H)
noncomputable def d38 (bd : B3) (call : FuncId → List V → Heap → Option R) (n : Nat) (f : FuncId) (a : List V) (H : Heap) : Option R := (bif Nat.ble f 16 then d18 bd call n f a H else d37 bd call n f a H)
theorem d38_e (n : Nat) (f : FuncId) (a : List V) (H : Heap) : d38 @bdI (callA C n) n f a H = callA C (n + 1) f a H := by
  unfold d38
  exact (by
  cases h : Nat.ble f 16
  · exact d37_e n f a H
  · exact d18_e n f a H)
noncomputable def d39 (bd : B3) (call : FuncId → List V → Heap → Option R) (n : Nat) (f : FuncId) (a : List V) (H : Heap) : Option R := (bif Nat.beq f 36 then math_bits_Len.rf bd call n a H else bodyA C (fcall call) n f a H)
theorem d39_e (n : Nat) (f : FuncId) (a : List V) (H : Heap) : d39 @bdI (callA C n) n f a H = callA C (n + 1) f a H := by
  unfold d39
  exact (by
  cases h : Nat.beq f 36
  · exact bodyA_e
  · have h := Nat.eq_of_beq_eq_true h; subst h; exact math_bits_Len.rf_e n a H)
noncomputable def d40 (bd : B3) (call : FuncId → List V → Heap → Option R) (n : Nat) (f : FuncId) (a : List V) (H : Heap) : Option R := (bif Nat.beq f 37 then session_change.rf bd call n a H else bodyA C (fcall call) n f a H)
theorem d40_e (n : Nat) (f : FuncId) (a : List V) (H : Heap) : d40 @bdI (callA C n) n f a H = callA C (n + 1) f a H := by
  unfold d40
  exact (by
  cases h : Nat.beq f 37
  · exact bodyA_e
  · have h := Nat.eq_of_beq_eq_true h; subst h; exact session_change.rf_e n a H)
noncomputable def d41 (bd : B3) (call : FuncId → List V → Heap → Option R) (n : Nat) (f : FuncId) (a : List V) (H : Heap) : Option R := (bif Nat.ble f 36 then d39 bd call n f a H else d40 bd call n f a H)
theorem d41_e (n : Nat) (f : FuncId) (a : List V) (H : Heap) : d41 @bdI (callA C n) n f a H = callA C (n + 1) f a H := by
  unfold d41
  exact (by
  cases h : Nat.ble f 36
  · exact d40_e n f a H
  · exact d39_e n f a H)
noncomputable def d42 (bd : B3) (call : FuncId → List V → Heap → Option R) (n : Nat) (f : FuncId) (a : List V) (H : Heap) : Option R := (bif Nat.beq f 38 then session_Session_changed.rf bd call n a H else bodyA C (fcall call) n f a H)
theorem d42_e (n : Nat) (f : FuncId) (a : List V) (H : Heap) : d42 @bdI (callA C n) n f a H = callA C (n + 1) f a H := by
  unfold d42
  exact (by
  cases h : Nat.beq f 38
  · exact bodyA_e
  · have h := Nat.eq_of_beq_eq_true h; subst h; exact session_Session_changed.rf_e n a H)
noncomputable def d43 (bd : B3) (call : FuncId → List V → Heap → Option R) (n : Nat) (f : FuncId) (a : List V) (H : Heap) : Option R := (bif Nat.beq f 41 then pdt_Engine_site.rf bd call n a H else bodyA C (fcall call) n f a H)
theorem d43_e (n : Nat) (f : FuncId) (a : List V) (H : Heap) : d43 @bdI (callA C n) n f a H = callA C (n + 1) f a H := by
  unfold d43
  exact (by
  cases h : Nat.beq f 41
  · exact bodyA_e
  · have h := Nat.eq_of_beq_eq_true h; subst h; exact pdt_Engine_site.rf_e n a H)
noncomputable def d44 (bd : B3) (call : FuncId → List V → Heap → Option R) (n : Nat) (f : FuncId) (a : List V) (H : Heap) : Option R := (bif Nat.beq f 42 then pdt_lay.rf bd call n a H else bodyA C (fcall call) n f a H)
theorem d44_e (n : Nat) (f : FuncId) (a : List V) (H : Heap) : d44 @bdI (callA C n) n f a H = callA C (n + 1) f a H := by
  unfold d44
  exact (by
  cases h : Nat.beq f 42
  · exact bodyA_e
  · have h := Nat.eq_of_beq_eq_true h; subst h; exact pdt_lay.rf_e n a H)
noncomputable def d45 (bd : B3) (call : FuncId → List V → Heap → Option R) (n : Nat) (f : FuncId) (a : List V) (H : Heap) : Option R := (bif Nat.ble f 41 then d43 bd call n f a H else d44 bd call n f a H)
theorem d45_e (n : Nat) (f : FuncId) (a : List V) (H : Heap) : d45 @bdI (callA C n) n f a H = callA C (n + 1) f a H := by
  unfold d45
  exact (by
  cases h : Nat.ble f 41
  · exact d44_e n f a H
  · exact d43_e n f a H)
noncomputable def d46 (bd : B3) (call : FuncId → List V → Heap → Option R) (n : Nat) (f : FuncId) (a : List V) (H : Heap) : Option R := (bif Nat.ble f 38 then d42 bd call n f a H else d45 bd call n f a H)
theorem d46_e (n : Nat) (f : FuncId) (a : List V) (H : Heap) : d46 @bdI (callA C n) n f a H = callA C (n + 1) f a H := by
  unfold d46
  exact (by
  cases h : Nat.ble f 38
  · exact d45_e n f a H
  · exact d42_e n f a H)
noncomputable def d47 (bd : B3) (call : FuncId → List V → Heap → Option R) (n : Nat) (f : FuncId) (a : List V) (H : Heap) : Option R := (bif Nat.ble f 37 then d41 bd call n f a H else d46 bd call n f a H)
theorem d47_e (n : Nat) (f : FuncId) (a : List V) (H : Heap) : d47 @bdI (callA C n) n f a H = callA C (n + 1) f a H := by
  unfold d47
  exact (by
  cases h : Nat.ble f 37
  · exact d46_e n f a H
  · exact d41_e n f a H)
noncomputable def d48 (bd : B3) (call : FuncId → List V → Heap → Option R) (n : Nat) (f : FuncId) (a : List V) (H : Heap) : Option R := (bif Nat.beq f 43 then mesh_New.rf bd call n a H else bodyA C (fcall call) n f a H)
theorem d48_e (n : Nat) (f : FuncId) (a : List V) (H : Heap) : d48 @bdI (callA C n) n f a H = callA C (n + 1) f a H := by
  unfold d48
  exact (by
  cases h : Nat.beq f 43
  · exact bodyA_e
  · have h := Nat.eq_of_beq_eq_true h; subst h; exact mesh_New.rf_e n a H)
noncomputable def d49 (bd : B3) (call : FuncId → List V → Heap → Option R) (n : Nat) (f : FuncId) (a : List V) (H : Heap) : Option R := (bif Nat.beq f 44 then pdt_Engine_first.rf bd call n a H else bodyA C (fcall call) n f a H)
theorem d49_e (n : Nat) (f : FuncId) (a : List V) (H : Heap) : d49 @bdI (callA C n) n f a H = callA C (n + 1) f a H := by
  unfold d49
  exact (by
  cases h : Nat.beq f 44
  · exact bodyA_e
  · have h := Nat.eq_of_beq_eq_true h; subst h; exact pdt_Engine_first.rf_e n a H)
noncomputable def d50 (bd : B3) (call : FuncId → List V → Heap → Option R) (n : Nat) (f : FuncId) (a : List V) (H : Heap) : Option R := (bif Nat.ble f 43 then d48 bd call n f a H else d49 bd call n f a H)
theorem d50_e (n : Nat) (f : FuncId) (a : List V) (H : Heap) : d50 @bdI (callA C n) n f a H = callA C (n + 1) f a H := by
  unfold d50
  exact (by
  cases h : Nat.ble f 43
  · exact d49_e n f a H
  · exact d48_e n f a H)
noncomputable def d51 (bd : B3) (call : FuncId → List V → Heap → Option R) (n : Nat) (f : FuncId) (a : List V) (H : Heap) : Option R := (bif Nat.beq f 46 then lift_At.rf bd call n a H else bodyA C (fcall call) n f a H)
theorem d51_e (n : Nat) (f : FuncId) (a : List V) (H : Heap) : d51 @bdI (callA C n) n f a H = callA C (n + 1) f a H := by
  unfold d51
  exact (by
  cases h : Nat.beq f 46
  · exact bodyA_e
  · have h := Nat.eq_of_beq_eq_true h; subst h; exact lift_At.rf_e n a H)
noncomputable def d52 (bd : B3) (call : FuncId → List V → Heap → Option R) (n : Nat) (f : FuncId) (a : List V) (H : Heap) : Option R := (bif Nat.beq f 47 then pdt_Engine_fewer.rf bd call n a H else bodyA C (fcall call) n f a H)
theorem d52_e (n : Nat) (f : FuncId) (a : List V) (H : Heap) : d52 @bdI (callA C n) n f a H = callA C (n + 1) f a H := by
  unfold d52
  exact (by
  cases h : Nat.beq f 47
  · exact bodyA_e
  · have h := Nat.eq_of_beq_eq_true h; subst h; exact pdt_Engine_fewer.rf_e n a H)
noncomputable def d53 (bd : B3) (call : FuncId → List V → Heap → Option R) (n : Nat) (f : FuncId) (a : List V) (H : Heap) : Option R := (bif Nat.beq f 48 then slices_insertionSortCmpFunc_api_Place.rf bd call n a H else bodyA C (fcall call) n f a H)
theorem d53_e (n : Nat) (f : FuncId) (a : List V) (H : Heap) : d53 @bdI (callA C n) n f a H = callA C (n + 1) f a H := by
  unfold d53
  exact (by
  cases h : Nat.beq f 48
  · exact bodyA_e
  · have h := Nat.eq_of_beq_eq_true h; subst h; exact slices_insertionSortCmpFunc_api_Place.rf_e n a H)
noncomputable def d54 (bd : B3) (call : FuncId → List V → Heap → Option R) (n : Nat) (f : FuncId) (a : List V) (H : Heap) : Option R := (bif Nat.ble f 47 then d52 bd call n f a H else d53 bd call n f a H)
theorem d54_e (n : Nat) (f : FuncId) (a : List V) (H : Heap) : d54 @bdI (callA C n) n f a H = callA C (n + 1) f a H := by
  unfold d54
  exact (by
  cases h : Nat.ble f 47
  · exact d53_e n f a H
  · exact d52_e n f a H)
noncomputable def d55 (bd : B3) (call : FuncId → List V → Heap → Option R) (n : Nat) (f : FuncId) (a : List V) (H : Heap) : Option R := (bif Nat.ble f 46 then d51 bd call n f a H else d54 bd call n f a H)
theorem d55_e (n : Nat) (f : FuncId) (a : List V) (H : Heap) : d55 @bdI (callA C n) n f a H = callA C (n + 1) f a H := by
  unfold d55
  exact (by
  cases h : Nat.ble f 46
  · exact d54_e n f a H
  · exact d51_e n f a H)
noncomputable def d56 (bd : B3) (call : FuncId → List V → Heap → Option R) (n : Nat) (f : FuncId) (a : List V) (H : Heap) : Option R := (bif Nat.ble f 44 then d50 bd call n f a H else d55 bd call n f a H)
theorem d56_e (n : Nat) (f : FuncId) (a : List V) (H : Heap) : d56 @bdI (callA C n) n f a H = callA C (n + 1) f a H := by
  unfold d56
  exact (by
  cases h : Nat.ble f 44
  · exact d55_e n f a H
  · exact d50_e n f a H)
noncomputable def d57 (bd : B3) (call : FuncId → List V → Heap → Option R) (n : Nat) (f : FuncId) (a : List V) (H : Heap) : Option R := (bif Nat.ble f 42 then d47 bd call n f a H else d56 bd call n f a H)
theorem d57_e (n : Nat) (f : FuncId) (a : List V) (H : Heap) : d57 @bdI (callA C n) n f a H = callA C (n + 1) f a H := by
  unfold d57
  exact (by
  cases h : Nat.ble f 42
  · exact d56_e n f a H
  · exact d47_e n f a H)
noncomputable def d58 (bd : B3) (call : FuncId → List V → Heap → Option R) (n : Nat) (f : FuncId) (a : List V) (H : Heap) : Option R := (bif Nat.beq f 57 then math_bits_Len64.rf bd call n a H else bodyA C (fcall call) n f a H)
theorem d58_e (n : Nat) (f : FuncId) (a : List V) (H : Heap) : d58 @bdI (callA C n) n f a H = callA C (n + 1) f a H := by
  unfold d58
  exact (by
  cases h : Nat.beq f 57
  · exact bodyA_e
  · have h := Nat.eq_of_beq_eq_true h; subst h; exact math_bits_Len64.rf_e n a H)
noncomputable def d59 (bd : B3) (call : FuncId → List V → Heap → Option R) (n : Nat) (f : FuncId) (a : List V) (H : Heap) : Option R := (bif Nat.beq f 58 then session_point.rf bd call n a H else bodyA C (fcall call) n f a H)
theorem d59_e (n : Nat) (f : FuncId) (a : List V) (H : Heap) : d59 @bdI (callA C n) n f a H = callA C (n + 1) f a H := by
  unfold d59
  exact (by
  cases h : Nat.beq f 58
  · exact bodyA_e
  · have h := Nat.eq_of_beq_eq_true h; subst h; exact session_point.rf_e n a H)
noncomputable def d60 (bd : B3) (call : FuncId → List V → Heap → Option R) (n : Nat) (f : FuncId) (a : List V) (H : Heap) : Option R := (bif Nat.ble f 57 then d58 bd call n f a H else d59 bd call n f a H)
theorem d60_e (n : Nat) (f : FuncId) (a : List V) (H : Heap) : d60 @bdI (callA C n) n f a H = callA C (n + 1) f a H := by
  unfold d60
  exact (by
  cases h : Nat.ble f 57
  · exact d59_e n f a H
  · exact d58_e n f a H)
noncomputable def d61 (bd : B3) (call : FuncId → List V → Heap → Option R) (n : Nat) (f : FuncId) (a : List V) (H : Heap) : Option R := (bif Nat.beq f 59 then pdt_Engine_Insert.rf bd call n a H else bodyA C (fcall call) n f a H)
theorem d61_e (n : Nat) (f : FuncId) (a : List V) (H : Heap) : d61 @bdI (callA C n) n f a H = callA C (n + 1) f a H := by
  unfold d61
  exact (by
  cases h : Nat.beq f 59
  · exact bodyA_e
  · have h := Nat.eq_of_beq_eq_true h; subst h; exact pdt_Engine_Insert.rf_e n a H)
noncomputable def d62 (bd : B3) (call : FuncId → List V → Heap → Option R) (n : Nat) (f : FuncId) (a : List V) (H : Heap) : Option R := (bif Nat.beq f 72 then bucket_New.rf bd call n a H else bodyA C (fcall call) n f a H)
theorem d62_e (n : Nat) (f : FuncId) (a : List V) (H : Heap) : d62 @bdI (callA C n) n f a H = callA C (n + 1) f a H := by
  unfold d62
  exact (by
  cases h : Nat.beq f 72
  · exact bodyA_e
  · have h := Nat.eq_of_beq_eq_true h; subst h; exact bucket_New.rf_e n a H)
noncomputable def d63 (bd : B3) (call : FuncId → List V → Heap → Option R) (n : Nat) (f : FuncId) (a : List V) (H : Heap) : Option R := (bif Nat.beq f 73 then mesh_Mesh_Side.rf bd call n a H else bodyA C (fcall call) n f a H)
theorem d63_e (n : Nat) (f : FuncId) (a : List V) (H : Heap) : d63 @bdI (callA C n) n f a H = callA C (n + 1) f a H := by
  unfold d63
  exact (by
  cases h : Nat.beq f 73
  · exact bodyA_e
  · have h := Nat.eq_of_beq_eq_true h; subst h; exact mesh_Mesh_Side.rf_e n a H)
noncomputable def d64 (bd : B3) (call : FuncId → List V → Heap → Option R) (n : Nat) (f : FuncId) (a : List V) (H : Heap) : Option R := (bif Nat.ble f 72 then d62 bd call n f a H else d63 bd call n f a H)
theorem d64_e (n : Nat) (f : FuncId) (a : List V) (H : Heap) : d64 @bdI (callA C n) n f a H = callA C (n + 1) f a H := by
  unfold d64
  exact (by
  cases h : Nat.ble f 72
  · exact d63_e n f a H
  · exact d62_e n f a H)
noncomputable def d65 (bd : B3) (call : FuncId → List V → Heap → Option R) (n : Nat) (f : FuncId) (a : List V) (H : Heap) : Option R := (bif Nat.ble f 59 then d61 bd call n f a H else d64 bd call n f a H)
theorem d65_e (n : Nat) (f : FuncId) (a : List V) (H : Heap) : d65 @bdI (callA C n) n f a H = callA C (n + 1) f a H := by
  unfold d65
  exact (by
  cases h : Nat.ble f 59
  · exact d64_e n f a H
  · exact d61_e n f a H)
noncomputable def d66 (bd : B3) (call : FuncId → List V → Heap → Option R) (n : Nat) (f : FuncId) (a : List V) (H : Heap) : Option R := (bif Nat.ble f 58 then d60 bd call n f a H else d65 bd call n f a H)
theorem d66_e (n : Nat) (f : FuncId) (a : List V) (H : Heap) : d66 @bdI (callA C n) n f a H = callA C (n + 1) f a H := by
  unfold d66
  exact (by
  cases h : Nat.ble f 58
  · exact d65_e n f a H
  · exact d60_e n f a H)
noncomputable def d67 (bd : B3) (call : FuncId → List V → Heap → Option R) (n : Nat) (f : FuncId) (a : List V) (H : Heap) : Option R := (bif Nat.beq f 74 then mesh_Mesh_Dump.rf bd call n a H else bodyA C (fcall call) n f a H)
theorem d67_e (n : Nat) (f : FuncId) (a : List V) (H : Heap) : d67 @bdI (callA C n) n f a H = callA C (n + 1) f a H := by
  unfold d67
  exact (by
  cases h : Nat.beq f 74
  · exact bodyA_e
  · have h := Nat.eq_of_beq_eq_true h; subst h; exact mesh_Mesh_Dump.rf_e n a H)
noncomputable def d68 (bd : B3) (call : FuncId → List V → Heap → Option R) (n : Nat) (f : FuncId) (a : List V) (H : Heap) : Option R := (bif Nat.beq f 75 then bucket_Grid_Put.rf bd call n a H else bodyA C (fcall call) n f a H)
theorem d68_e (n : Nat) (f : FuncId) (a : List V) (H : Heap) : d68 @bdI (callA C n) n f a H = callA C (n + 1) f a H := by
  unfold d68
  exact (by
  cases h : Nat.beq f 75
  · exact bodyA_e
  · have h := Nat.eq_of_beq_eq_true h; subst h; exact bucket_Grid_Put.rf_e n a H)
noncomputable def d69 (bd : B3) (call : FuncId → List V → Heap → Option R) (n : Nat) (f : FuncId) (a : List V) (H : Heap) : Option R := (bif Nat.beq f 76 then pdt_sheet_count.rf bd call n a H else bodyA C (fcall call) n f a H)
theorem d69_e (n : Nat) (f : FuncId) (a : List V) (H : Heap) : d69 @bdI (callA C n) n f a H = callA C (n + 1) f a H := by
  unfold d69
  exact (by
  cases h : Nat.beq f 76
  · exact bodyA_e
  · have h := Nat.eq_of_beq_eq_true h; subst h; exact pdt_sheet_count.rf_e n a H)
noncomputable def d70 (bd : B3) (call : FuncId → List V → Heap → Option R) (n : Nat) (f : FuncId) (a : List V) (H : Heap) : Option R := (bif Nat.ble f 75 then d68 bd call n f a H else d69 bd call n f a H)
theorem d70_e (n : Nat) (f : FuncId) (a : List V) (H : Heap) : d70 @bdI (callA C n) n f a H = callA C (n + 1) f a H := by
  unfold d70
  exact (by
  cases h : Nat.ble f 75
  · exact d69_e n f a H
  · exact d68_e n f a H)
noncomputable def d71 (bd : B3) (call : FuncId → List V → Heap → Option R) (n : Nat) (f : FuncId) (a : List V) (H : Heap) : Option R := (bif Nat.ble f 74 then d67 bd call n f a H else d70 bd call n f a H)
theorem d71_e (n : Nat) (f : FuncId) (a : List V) (H : Heap) : d71 @bdI (callA C n) n f a H = callA C (n + 1) f a H := by
  unfold d71
  exact (by
  cases h : Nat.ble f 74
  · exact d70_e n f a H
  · exact d67_e n f a H)
noncomputable def d72 (bd : B3) (call : FuncId → List V → Heap → Option R) (n : Nat) (f : FuncId) (a : List V) (H : Heap) : Option R := (bif Nat.beq f 77 then arena_New.rf bd call n a H else bodyA C (fcall call) n f a H)
theorem d72_e (n : Nat) (f : FuncId) (a : List V) (H : Heap) : d72 @bdI (callA C n) n f a H = callA C (n + 1) f a H := by
  unfold d72
  exact (by
  cases h : Nat.beq f 77
  · exact bodyA_e
  · have h := Nat.eq_of_beq_eq_true h; subst h; exact arena_New.rf_e n a H)
noncomputable def d73 (bd : B3) (call : FuncId → List V → Heap → Option R) (n : Nat) (f : FuncId) (a : List V) (H : Heap) : Option R := (bif Nat.beq f 78 then mesh_Mesh_AddVert.rf bd call n a H else bodyA C (fcall call) n f a H)
theorem d73_e (n : Nat) (f : FuncId) (a : List V) (H : Heap) : d73 @bdI (callA C n) n f a H = callA C (n + 1) f a H := by
  unfold d73
  exact (by
  cases h : Nat.beq f 78
  · exact bodyA_e
  · have h := Nat.eq_of_beq_eq_true h; subst h; exact mesh_Mesh_AddVert.rf_e n a H)
noncomputable def d74 (bd : B3) (call : FuncId → List V → Heap → Option R) (n : Nat) (f : FuncId) (a : List V) (H : Heap) : Option R := (bif Nat.beq f 79 then mesh_Mesh_AddFace.rf bd call n a H else bodyA C (fcall call) n f a H)
theorem d74_e (n : Nat) (f : FuncId) (a : List V) (H : Heap) : d74 @bdI (callA C n) n f a H = callA C (n + 1) f a H := by
  unfold d74
  exact (by
  cases h : Nat.beq f 79
  · exact bodyA_e
  · have h := Nat.eq_of_beq_eq_true h; subst h; exact mesh_Mesh_AddFace.rf_e n a H)
noncomputable def d75 (bd : B3) (call : FuncId → List V → Heap → Option R) (n : Nat) (f : FuncId) (a : List V) (H : Heap) : Option R := (bif Nat.ble f 78 then d73 bd call n f a H else d74 bd call n f a H)
theorem d75_e (n : Nat) (f : FuncId) (a : List V) (H : Heap) : d75 @bdI (callA C n) n f a H = callA C (n + 1) f a H := by
  unfold d75
  exact (by
  cases h : Nat.ble f 78
  · exact d74_e n f a H
  · exact d73_e n f a H)
noncomputable def d76 (bd : B3) (call : FuncId → List V → Heap → Option R) (n : Nat) (f : FuncId) (a : List V) (H : Heap) : Option R := (bif Nat.ble f 77 then d72 bd call n f a H else d75 bd call n f a H)
theorem d76_e (n : Nat) (f : FuncId) (a : List V) (H : Heap) : d76 @bdI (callA C n) n f a H = callA C (n + 1) f a H := by
  unfold d76
  exact (by
  cases h : Nat.ble f 77
  · exact d75_e n f a H
  · exact d72_e n f a H)
noncomputable def d77 (bd : B3) (call : FuncId → List V → Heap → Option R) (n : Nat) (f : FuncId) (a : List V) (H : Heap) : Option R := (bif Nat.ble f 76 then d71 bd call n f a H else d76 bd call n f a H)
theorem d77_e (n : Nat) (f : FuncId) (a : List V) (H : Heap) : d77 @bdI (callA C n) n f a H = callA C (n + 1) f a H := by
  unfold d77
  exact (by
  cases h : Nat.ble f 76
  · exact d76_e n f a H
  · exact d71_e n f a H)
noncomputable def d78 (bd : B3) (call : FuncId → List V → Heap → Option R) (n : Nat) (f : FuncId) (a : List V) (H : Heap) : Option R := (bif Nat.ble f 73 then d66 bd call n f a H else d77 bd call n f a H)
theorem d78_e (n : Nat) (f : FuncId) (a : List V) (H : Heap) : d78 @bdI (callA C n) n f a H = callA C (n + 1) f a H := by
  unfold d78
  exact (by
  cases h : Nat.ble f 73
  · exact d77_e n f a H
  · exact d66_e n f a H)
noncomputable def d79 (bd : B3) (call : FuncId → List V → Heap → Option R) (n : Nat) (f : FuncId) (a : List V) (H : Heap) : Option R := (bif Nat.ble f 48 then d57 bd call n f a H else d78 bd call n f a H)
theorem d79_e (n : Nat) (f : FuncId) (a : List V) (H : Heap) : d79 @bdI (callA C n) n f a H = callA C (n + 1) f a H := by
  unfold d79
  exact (by
  cases h : Nat.ble f 48
  · exact d78_e n f a H
  · exact d57_e n f a H)
noncomputable def d80 (bd : B3) (call : FuncId → List V → Heap → Option R) (n : Nat) (f : FuncId) (a : List V) (H : Heap) : Option R := (bif Nat.ble f 32 then d38 bd call n f a H else d79 bd call n f a H)
theorem d80_e (n : Nat) (f : FuncId) (a : List V) (H : Heap) : d80 @bdI (callA C n) n f a H = callA C (n + 1) f a H := by
  unfold d80
  exact (by
  cases h : Nat.ble f 32
  · exact d79_e n f a H
  · exact d38_e n f a H)
noncomputable def d81 (bd : B3) (call : FuncId → List V → Heap → Option R) (n : Nat) (f : FuncId) (a : List V) (H : Heap) : Option R := (bif Nat.beq f 86 then lift_at.rf bd call n a H else bodyA C (fcall call) n f a H)
theorem d81_e (n : Nat) (f : FuncId) (a : List V) (H : Heap) : d81 @bdI (callA C n) n f a H = callA C (n + 1) f a H := by
  unfold d81
  exact (by
  cases h : Nat.beq f 86
  · exact bodyA_e
  · have h := Nat.eq_of_beq_eq_true h; subst h; exact lift_at.rf_e n a H)
noncomputable def d82 (bd : B3) (call : FuncId → List V → Heap → Option R) (n : Nat) (f : FuncId) (a : List V) (H : Heap) : Option R := (bif Nat.beq f 106 then arena_Arena_All.rf bd call n a H else bodyA C (fcall call) n f a H)
theorem d82_e (n : Nat) (f : FuncId) (a : List V) (H : Heap) : d82 @bdI (callA C n) n f a H = callA C (n + 1) f a H := by
  unfold d82
  exact (by
  cases h : Nat.beq f 106
  · exact bodyA_e
  · have h := Nat.eq_of_beq_eq_true h; subst h; exact arena_Arena_All.rf_e n a H)
noncomputable def d83 (bd : B3) (call : FuncId → List V → Heap → Option R) (n : Nat) (f : FuncId) (a : List V) (H : Heap) : Option R := (bif Nat.ble f 86 then d81 bd call n f a H else d82 bd call n f a H)
theorem d83_e (n : Nat) (f : FuncId) (a : List V) (H : Heap) : d83 @bdI (callA C n) n f a H = callA C (n + 1) f a H := by
  unfold d83
  exact (by
  cases h : Nat.ble f 86
  · exact d82_e n f a H
  · exact d81_e n f a H)
noncomputable def d84 (bd : B3) (call : FuncId → List V → Heap → Option R) (n : Nat) (f : FuncId) (a : List V) (H : Heap) : Option R := (bif Nat.beq f 107 then bucket_Grid_cell.rf bd call n a H else bodyA C (fcall call) n f a H)
theorem d84_e (n : Nat) (f : FuncId) (a : List V) (H : Heap) : d84 @bdI (callA C n) n f a H = callA C (n + 1) f a H := by
  unfold d84
  exact (by
  cases h : Nat.beq f 107
  · exact bodyA_e
  · have h := Nat.eq_of_beq_eq_true h; subst h; exact bucket_Grid_cell.rf_e n a H)
noncomputable def d85 (bd : B3) (call : FuncId → List V → Heap → Option R) (n : Nat) (f : FuncId) (a : List V) (H : Heap) : Option R := (bif Nat.beq f 108 then bucket_Grid_at.rf bd call n a H else bodyA C (fcall call) n f a H)
theorem d85_e (n : Nat) (f : FuncId) (a : List V) (H : Heap) : d85 @bdI (callA C n) n f a H = callA C (n + 1) f a H := by
  unfold d85
  exact (by
  cases h : Nat.beq f 108
  · exact bodyA_e
  · have h := Nat.eq_of_beq_eq_true h; subst h; exact bucket_Grid_at.rf_e n a H)
noncomputable def d86 (bd : B3) (call : FuncId → List V → Heap → Option R) (n : Nat) (f : FuncId) (a : List V) (H : Heap) : Option R := (bif Nat.beq f 109 then pdt_sheet_isBig.rf bd call n a H else bodyA C (fcall call) n f a H)
theorem d86_e (n : Nat) (f : FuncId) (a : List V) (H : Heap) : d86 @bdI (callA C n) n f a H = callA C (n + 1) f a H := by
  unfold d86
  exact (by
  cases h : Nat.beq f 109
  · exact bodyA_e
  · have h := Nat.eq_of_beq_eq_true h; subst h; exact pdt_sheet_isBig.rf_e n a H)
noncomputable def d87 (bd : B3) (call : FuncId → List V → Heap → Option R) (n : Nat) (f : FuncId) (a : List V) (H : Heap) : Option R := (bif Nat.ble f 108 then d85 bd call n f a H else d86 bd call n f a H)
theorem d87_e (n : Nat) (f : FuncId) (a : List V) (H : Heap) : d87 @bdI (callA C n) n f a H = callA C (n + 1) f a H := by
  unfold d87
  exact (by
  cases h : Nat.ble f 108
  · exact d86_e n f a H
  · exact d85_e n f a H)
noncomputable def d88 (bd : B3) (call : FuncId → List V → Heap → Option R) (n : Nat) (f : FuncId) (a : List V) (H : Heap) : Option R := (bif Nat.ble f 107 then d84 bd call n f a H else d87 bd call n f a H)
theorem d88_e (n : Nat) (f : FuncId) (a : List V) (H : Heap) : d88 @bdI (callA C n) n f a H = callA C (n + 1) f a H := by
  unfold d88
  exact (by
  cases h : Nat.ble f 107
  · exact d87_e n f a H
  · exact d84_e n f a H)
noncomputable def d89 (bd : B3) (call : FuncId → List V → Heap → Option R) (n : Nat) (f : FuncId) (a : List V) (H : Heap) : Option R := (bif Nat.ble f 106 then d83 bd call n f a H else d88 bd call n f a H)
theorem d89_e (n : Nat) (f : FuncId) (a : List V) (H : Heap) : d89 @bdI (callA C n) n f a H = callA C (n + 1) f a H := by
  unfold d89
  exact (by
  cases h : Nat.ble f 106
  · exact d88_e n f a H
  · exact d83_e n f a H)
noncomputable def d90 (bd : B3) (call : FuncId → List V → Heap → Option R) (n : Nat) (f : FuncId) (a : List V) (H : Heap) : Option R := (bif Nat.beq f 110 then arena_Arena_Take.rf bd call n a H else bodyA C (fcall call) n f a H)
theorem d90_e (n : Nat) (f : FuncId) (a : List V) (H : Heap) : d90 @bdI (callA C n) n f a H = callA C (n + 1) f a H := by
  unfold d90
  exact (by
  cases h : Nat.beq f 110
  · exact bodyA_e
  · have h := Nat.eq_of_beq_eq_true h; subst h; exact arena_Arena_Take.rf_e n a H)
noncomputable def d91 (bd : B3) (call : FuncId → List V → Heap → Option R) (n : Nat) (f : FuncId) (a : List V) (H : Heap) : Option R := (bif Nat.beq f 111 then mesh_put_api_Vert.rf bd call n a H else bodyA C (fcall call) n f a H)
theorem d91_e (n : Nat) (f : FuncId) (a : List V) (H : Heap) : d91 @bdI (callA C n) n f a H = callA C (n + 1) f a H := by
  unfold d91
  exact (by
  cases h : Nat.beq f 111
  · exact bodyA_e
  · have h := Nat.eq_of_beq_eq_true h; subst h; exact mesh_put_api_Vert.rf_e n a H)
noncomputable def d92 (bd : B3) (call : FuncId → List V → Heap → Option R) (n : Nat) (f : FuncId) (a : List V) (H : Heap) : Option R := (bif Nat.ble f 110 then d90 bd call n f a H else d91 bd call n f a H)
theorem d92_e (n : Nat) (f : FuncId) (a : List V) (H : Heap) : d92 @bdI (callA C n) n f a H = callA C (n + 1) f a H := by
  unfold d92
  exact (by
  cases h : Nat.ble f 110
  · exact d91_e n f a H
  · exact d90_e n f a H)
noncomputable def d93 (bd : B3) (call : FuncId → List V → Heap → Option R) (n : Nat) (f : FuncId) (a : List V) (H : Heap) : Option R := (bif Nat.beq f 112 then mesh_Mesh_vert.rf bd call n a H else bodyA C (fcall call) n f a H)
theorem d93_e (n : Nat) (f : FuncId) (a : List V) (H : Heap) : d93 @bdI (callA C n) n f a H = callA C (n + 1) f a H := by
  unfold d93
  exact (by
  cases h : Nat.beq f 112
  · exact bodyA_e
  · have h := Nat.eq_of_beq_eq_true h; subst h; exact mesh_Mesh_vert.rf_e n a H)
noncomputable def d94 (bd : B3) (call : FuncId → List V → Heap → Option R) (n : Nat) (f : FuncId) (a : List V) (H : Heap) : Option R := (bif Nat.beq f 113 then mesh_Mesh_turns.rf bd call n a H else bodyA C (fcall call) n f a H)
theorem d94_e (n : Nat) (f : FuncId) (a : List V) (H : Heap) : d94 @bdI (callA C n) n f a H = callA C (n + 1) f a H := by
  unfold d94
  exact (by
  cases h : Nat.beq f 113
  · exact bodyA_e
  · have h := Nat.eq_of_beq_eq_true h; subst h; exact mesh_Mesh_turns.rf_e n a H)
noncomputable def d95 (bd : B3) (call : FuncId → List V → Heap → Option R) (n : Nat) (f : FuncId) (a : List V) (H : Heap) : Option R := (bif Nat.beq f 114 then mesh_side.rf bd call n a H else bodyA C (fcall call) n f a H)
theorem d95_e (n : Nat) (f : FuncId) (a : List V) (H : Heap) : d95 @bdI (callA C n) n f a H = callA C (n + 1) f a H := by
  unfold d95
  exact (by
  cases h : Nat.beq f 114
  · exact bodyA_e
  · have h := Nat.eq_of_beq_eq_true h; subst h; exact mesh_side.rf_e n a H)
noncomputable def d96 (bd : B3) (call : FuncId → List V → Heap → Option R) (n : Nat) (f : FuncId) (a : List V) (H : Heap) : Option R := (bif Nat.ble f 113 then d94 bd call n f a H else d95 bd call n f a H)
theorem d96_e (n : Nat) (f : FuncId) (a : List V) (H : Heap) : d96 @bdI (callA C n) n f a H = callA C (n + 1) f a H := by
  unfold d96
  exact (by
  cases h : Nat.ble f 113
  · exact d95_e n f a H
  · exact d94_e n f a H)
noncomputable def d97 (bd : B3) (call : FuncId → List V → Heap → Option R) (n : Nat) (f : FuncId) (a : List V) (H : Heap) : Option R := (bif Nat.ble f 112 then d93 bd call n f a H else d96 bd call n f a H)
theorem d97_e (n : Nat) (f : FuncId) (a : List V) (H : Heap) : d97 @bdI (callA C n) n f a H = callA C (n + 1) f a H := by
  unfold d97
  exact (by
  cases h : Nat.ble f 112
  · exact d96_e n f a H
  · exact d93_e n f a H)
noncomputable def d98 (bd : B3) (call : FuncId → List V → Heap → Option R) (n : Nat) (f : FuncId) (a : List V) (H : Heap) : Option R := (bif Nat.ble f 111 then d92 bd call n f a H else d97 bd call n f a H)
theorem d98_e (n : Nat) (f : FuncId) (a : List V) (H : Heap) : d98 @bdI (callA C n) n f a H = callA C (n + 1) f a H := by
  unfold d98
  exact (by
  cases h : Nat.ble f 111
  · exact d97_e n f a H
  · exact d92_e n f a H)
noncomputable def d99 (bd : B3) (call : FuncId → List V → Heap → Option R) (n : Nat) (f : FuncId) (a : List V) (H : Heap) : Option R := (bif Nat.ble f 109 then d89 bd call n f a H else d98 bd call n f a H)
theorem d99_e (n : Nat) (f : FuncId) (a : List V) (H : Heap) : d99 @bdI (callA C n) n f a H = callA C (n + 1) f a H := by
  unfold d99
  exact (by
  cases h : Nat.ble f 109
  · exact d98_e n f a H
  · exact d89_e n f a H)
noncomputable def d100 (bd : B3) (call : FuncId → List V → Heap → Option R) (n : Nat) (f : FuncId) (a : List V) (H : Heap) : Option R := (bif Nat.beq f 115 then mesh_put_api_Tri.rf bd call n a H else bodyA C (fcall call) n f a H)
theorem d100_e (n : Nat) (f : FuncId) (a : List V) (H : Heap) : d100 @bdI (callA C n) n f a H = callA C (n + 1) f a H := by
  unfold d100
  exact (by
  cases h : Nat.beq f 115
  · exact bodyA_e
  · have h := Nat.eq_of_beq_eq_true h; subst h; exact mesh_put_api_Tri.rf_e n a H)
noncomputable def d101 (bd : B3) (call : FuncId → List V → Heap → Option R) (n : Nat) (f : FuncId) (a : List V) (H : Heap) : Option R := (bif Nat.beq f 116 then slices_Contains_int_int.rf bd call n a H else bodyA C (fcall call) n f a H)
theorem d101_e (n : Nat) (f : FuncId) (a : List V) (H : Heap) : d101 @bdI (callA C n) n f a H = callA C (n + 1) f a H := by
  unfold d101
  exact (by
  cases h : Nat.beq f 116
  · exact bodyA_e
  · have h := Nat.eq_of_beq_eq_true h; subst h; exact slices_Contains_int_int.rf_e n a H)
noncomputable def d102 (bd : B3) (call : FuncId → List V → Heap → Option R) (n : Nat) (f : FuncId) (a : List V) (H : Heap) : Option R := (bif Nat.ble f 115 then d100 bd call n f a H else d101 bd call n f a H)
theorem d102_e (n : Nat) (f : FuncId) (a : List V) (H : Heap) : d102 @bdI (callA C n) n f a H = callA C (n + 1) f a H := by
  unfold d102
  exact (by
  cases h : Nat.ble f 115
  · exact d101_e n f a H
  · exact d100_e n f a H)
noncomputable def d103 (bd : B3) (call : FuncId → List V → Heap → Option R) (n : Nat) (f : FuncId) (a : List V) (H : Heap) : Option R := (bif Nat.beq f 117 then cover_sheets.rf bd call n a H else bodyA C (fcall call) n f a H)
theorem d103_e (n : Nat) (f : FuncId) (a : List V) (H : Heap) : d103 @bdI (callA C n) n f a H = callA C (n + 1) f a H := by
  unfold d103
  exact (by
  cases h : Nat.beq f 117
  · exact bodyA_e
  · have h := Nat.eq_of_beq_eq_true h; subst h; exact cover_sheets.rf_e n a H)
noncomputable def d104 (bd : B3) (call : FuncId → List V → Heap → Option R) (n : Nat) (f : FuncId) (a : List V) (H : Heap) : Option R := (bif Nat.beq f 118 then cover_corner.rf bd call n a H else bodyA C (fcall call) n f a H)
theorem d104_e (n : Nat) (f : FuncId) (a : List V) (H : Heap) : d104 @bdI (callA C n) n f a H = callA C (n + 1) f a H := by
  unfold d104
  exact (by
  cases h : Nat.beq f 118
  · exact bodyA_e
  · have h := Nat.eq_of_beq_eq_true h; subst h; exact cover_corner.rf_e n a H)
noncomputable def d105 (bd : B3) (call : FuncId → List V → Heap → Option R) (n : Nat) (f : FuncId) (a : List V) (H : Heap) : Option R := (bif Nat.beq f 119 then lift_Sum.rf bd call n a H else bodyA C (fcall call) n f a H)
theorem d105_e (n : Nat) (f : FuncId) (a : List V) (H : Heap) : d105 @bdI (callA C n) n f a H = callA C (n + 1) f a H := by
  unfold d105
  exact (by
  cases h : Nat.beq f 119
  · exact bodyA_e
  · have h := Nat.eq_of_beq_eq_true h; subst h; exact lift_Sum.rf_e n a H)
noncomputable def d106 (bd : B3) (call : FuncId → List V → Heap → Option R) (n : Nat) (f : FuncId) (a : List V) (H : Heap) : Option R := (bif Nat.ble f 118 then d104 bd call n f a H else d105 bd call n f a H)
theorem d106_e (n : Nat) (f : FuncId) (a : List V) (H : Heap) : d106 @bdI (callA C n) n f a H = callA C (n + 1) f a H := by
  unfold d106
  exact (by
  cases h : Nat.ble f 118
  · exact d105_e n f a H
  · exact d104_e n f a H)
noncomputable def d107 (bd : B3) (call : FuncId → List V → Heap → Option R) (n : Nat) (f : FuncId) (a : List V) (H : Heap) : Option R := (bif Nat.ble f 117 then d103 bd call n f a H else d106 bd call n f a H)
theorem d107_e (n : Nat) (f : FuncId) (a : List V) (H : Heap) : d107 @bdI (callA C n) n f a H = callA C (n + 1) f a H := by
  unfold d107
  exact (by
  cases h : Nat.ble f 117
  · exact d106_e n f a H
  · exact d103_e n f a H)
noncomputable def d108 (bd : B3) (call : FuncId → List V → Heap → Option R) (n : Nat) (f : FuncId) (a : List V) (H : Heap) : Option R := (bif Nat.ble f 116 then d102 bd call n f a H else d107 bd call n f a H)
theorem d108_e (n : Nat) (f : FuncId) (a : List V) (H : Heap) : d108 @bdI (callA C n) n f a H = callA C (n + 1) f a H := by
  unfold d108
  exact (by
  cases h : Nat.ble f 116
  · exact d107_e n f a H
  · exact d102_e n f a H)
noncomputable def d109 (bd : B3) (call : FuncId → List V → Heap → Option R) (n : Nat) (f : FuncId) (a : List V) (H : Heap) : Option R := (bif Nat.beq f 124 then lift_Home.rf bd call n a H else bodyA C (fcall call) n f a H)
theorem d109_e (n : Nat) (f : FuncId) (a : List V) (H : Heap) : d109 @bdI (callA C n) n f a H = callA C (n + 1) f a H := by
  unfold d109
  exact (by
  cases h : Nat.beq f 124
  · exact bodyA_e
  · have h := Nat.eq_of_beq_eq_true h; subst h; exact lift_Home.rf_e n a H)
noncomputable def d110 (bd : B3) (call : FuncId → List V → Heap → Option R) (n : Nat) (f : FuncId) (a : List V) (H : Heap) : Option R := (bif Nat.beq f 133 then lift_torus.rf bd call n a H else bodyA C (fcall call) n f a H)
theorem d110_e (n : Nat) (f : FuncId) (a : List V) (H : Heap) : d110 @bdI (callA C n) n f a H = callA C (n + 1) f a H := by
  unfold d110
  exact (by
  cases h : Nat.beq f 133
  · exact bodyA_e
  · have h := Nat.eq_of_beq_eq_true h; subst h; exact lift_torus.rf_e n a H)
noncomputable def d111 (bd : B3) (call : FuncId → List V → Heap → Option R) (n : Nat) (f : FuncId) (a : List V) (H : Heap) : Option R := (bif Nat.beq f 134 then lift_can.rf bd call n a H else bodyA C (fcall call) n f a H)
theorem d111_e (n : Nat) (f : FuncId) (a : List V) (H : Heap) : d111 @bdI (callA C n) n f a H = callA C (n + 1) f a H := by
  unfold d111
  exact (by
  cases h : Nat.beq f 134
  · exact bodyA_e
  · have h := Nat.eq_of_beq_eq_true h; subst h; exact lift_can.rf_e n a H)
noncomputable def d112 (bd : B3) (call : FuncId → List V → Heap → Option R) (n : Nat) (f : FuncId) (a : List V) (H : Heap) : Option R := (bif Nat.ble f 133 then d110 bd call n f a H else d111 bd call n f a H)
theorem d112_e (n : Nat) (f : FuncId) (a : List V) (H : Heap) : d112 @bdI (callA C n) n f a H = callA C (n + 1) f a H := by
  unfold d112
  exact (by
  cases h : Nat.ble f 133
  · exact d111_e n f a H
  · exact d110_e n f a H)
noncomputable def d113 (bd : B3) (call : FuncId → List V → Heap → Option R) (n : Nat) (f : FuncId) (a : List V) (H : Heap) : Option R := (bif Nat.ble f 124 then d109 bd call n f a H else d112 bd call n f a H)
theorem d113_e (n : Nat) (f : FuncId) (a : List V) (H : Heap) : d113 @bdI (callA C n) n f a H = callA C (n + 1) f a H := by
  unfold d113
  exact (by
  cases h : Nat.ble f 124
  · exact d112_e n f a H
  · exact d109_e n f a H)
noncomputable def d114 (bd : B3) (call : FuncId → List V → Heap → Option R) (n : Nat) (f : FuncId) (a : List V) (H : Heap) : Option R := (bif Nat.beq f 135 then lift_move.rf bd call n a H else bodyA C (fcall call) n f a H)
theorem d114_e (n : Nat) (f : FuncId) (a : List V) (H : Heap) : d114 @bdI (callA C n) n f a H = callA C (n + 1) f a H := by
  unfold d114
  exact (by
  cases h : Nat.beq f 135
  · exact bodyA_e
  · have h := Nat.eq_of_beq_eq_true h; subst h; exact lift_move.rf_e n a H)
noncomputable def d115 (bd : B3) (call : FuncId → List V → Heap → Option R) (n : Nat) (f : FuncId) (a : List V) (H : Heap) : Option R := (bif Nat.beq f 161 then arena_Arena_live.rf bd call n a H else bodyA C (fcall call) n f a H)
theorem d115_e (n : Nat) (f : FuncId) (a : List V) (H : Heap) : d115 @bdI (callA C n) n f a H = callA C (n + 1) f a H := by
  unfold d115
  exact (by
  cases h : Nat.beq f 161
  · exact bodyA_e
  · have h := Nat.eq_of_beq_eq_true h; subst h; exact arena_Arena_live.rf_e n a H)
noncomputable def d116 (bd : B3) (call : FuncId → List V → Heap → Option R) (n : Nat) (f : FuncId) (a : List V) (H : Heap) : Option R := (bif Nat.beq f 162 then mesh_Mesh_Corner.rf bd call n a H else bodyA C (fcall call) n f a H)
theorem d116_e (n : Nat) (f : FuncId) (a : List V) (H : Heap) : d116 @bdI (callA C n) n f a H = callA C (n + 1) f a H := by
  unfold d116
  exact (by
  cases h : Nat.beq f 162
  · exact bodyA_e
  · have h := Nat.eq_of_beq_eq_true h; subst h; exact mesh_Mesh_Corner.rf_e n a H)
noncomputable def d117 (bd : B3) (call : FuncId → List V → Heap → Option R) (n : Nat) (f : FuncId) (a : List V) (H : Heap) : Option R := (bif Nat.ble f 161 then d115 bd call n f a H else d116 bd call n f a H)
theorem d117_e (n : Nat) (f : FuncId) (a : List V) (H : Heap) : d117 @bdI (callA C n) n f a H = callA C (n + 1) f a H := by
  unfold d117
  exact (by
  cases h : Nat.ble f 161
  · exact d116_e n f a H
  · exact d115_e n f a H)
noncomputable def d118 (bd : B3) (call : FuncId → List V → Heap → Option R) (n : Nat) (f : FuncId) (a : List V) (H : Heap) : Option R := (bif Nat.ble f 135 then d114 bd call n f a H else d117 bd call n f a H)
theorem d118_e (n : Nat) (f : FuncId) (a : List V) (H : Heap) : d118 @bdI (callA C n) n f a H = callA C (n + 1) f a H := by
  unfold d118
  exact (by
  cases h : Nat.ble f 135
  · exact d117_e n f a H
  · exact d114_e n f a H)
noncomputable def d119 (bd : B3) (call : FuncId → List V → Heap → Option R) (n : Nat) (f : FuncId) (a : List V) (H : Heap) : Option R := (bif Nat.ble f 134 then d113 bd call n f a H else d118 bd call n f a H)
theorem d119_e (n : Nat) (f : FuncId) (a : List V) (H : Heap) : d119 @bdI (callA C n) n f a H = callA C (n + 1) f a H := by
  unfold d119
  exact (by
  cases h : Nat.ble f 134
  · exact d118_e n f a H
  · exact d113_e n f a H)
noncomputable def d120 (bd : B3) (call : FuncId → List V → Heap → Option R) (n : Nat) (f : FuncId) (a : List V) (H : Heap) : Option R := (bif Nat.ble f 119 then d108 bd call n f a H else d119 bd call n f a H)
theorem d120_e (n : Nat) (f : FuncId) (a : List V) (H : Heap) : d120 @bdI (callA C n) n f a H = callA C (n + 1) f a H := by
  unfold d120
  exact (by
  cases h : Nat.ble f 119
  · exact d119_e n f a H
  · exact d108_e n f a H)
noncomputable def d121 (bd : B3) (call : FuncId → List V → Heap → Option R) (n : Nat) (f : FuncId) (a : List V) (H : Heap) : Option R := (bif Nat.ble f 114 then d99 bd call n f a H else d120 bd call n f a H)
theorem d121_e (n : Nat) (f : FuncId) (a : List V) (H : Heap) : d121 @bdI (callA C n) n f a H = callA C (n + 1) f a H := by
  unfold d121
  exact (by
  cases h : Nat.ble f 114
  · exact d120_e n f a H
  · exact d99_e n f a H)
noncomputable def d122 (bd : B3) (call : FuncId → List V → Heap → Option R) (n : Nat) (f : FuncId) (a : List V) (H : Heap) : Option R := (bif Nat.beq f 165 then arena_Arena_Live.rf bd call n a H else bodyA C (fcall call) n f a H)
theorem d122_e (n : Nat) (f : FuncId) (a : List V) (H : Heap) : d122 @bdI (callA C n) n f a H = callA C (n + 1) f a H := by
  unfold d122
  exact (by
  cases h : Nat.beq f 165
  · exact bodyA_e
  · have h := Nat.eq_of_beq_eq_true h; subst h; exact arena_Arena_Live.rf_e n a H)
noncomputable def d123 (bd : B3) (call : FuncId → List V → Heap → Option R) (n : Nat) (f : FuncId) (a : List V) (H : Heap) : Option R := (bif Nat.beq f 166 then mesh_Mesh_place.rf bd call n a H else bodyA C (fcall call) n f a H)
theorem d123_e (n : Nat) (f : FuncId) (a : List V) (H : Heap) : d123 @bdI (callA C n) n f a H = callA C (n + 1) f a H := by
  unfold d123
  exact (by
  cases h : Nat.beq f 166
  · exact bodyA_e
  · have h := Nat.eq_of_beq_eq_true h; subst h; exact mesh_Mesh_place.rf_e n a H)
noncomputable def d124 (bd : B3) (call : FuncId → List V → Heap → Option R) (n : Nat) (f : FuncId) (a : List V) (H : Heap) : Option R := (bif Nat.ble f 165 then d122 bd call n f a H else d123 bd call n f a H)
theorem d124_e (n : Nat) (f : FuncId) (a : List V) (H : Heap) : d124 @bdI (callA C n) n f a H = callA C (n + 1) f a H := by
  unfold d124
  exact (by
  cases h : Nat.ble f 165
  · exact d123_e n f a H
  · exact d122_e n f a H)
noncomputable def d125 (bd : B3) (call : FuncId → List V → Heap → Option R) (n : Nat) (f : FuncId) (a : List V) (H : Heap) : Option R := (bif Nat.beq f 167 then pred_Orient.rf bd call n a H else bodyA C (fcall call) n f a H)
theorem d125_e (n : Nat) (f : FuncId) (a : List V) (H : Heap) : d125 @bdI (callA C n) n f a H = callA C (n + 1) f a H := by
  unfold d125
  exact (by
  cases h : Nat.beq f 167
  · exact bodyA_e
  · have h := Nat.eq_of_beq_eq_true h; subst h; exact pred_Orient.rf_e n a H)
noncomputable def d126 (bd : B3) (call : FuncId → List V → Heap → Option R) (n : Nat) (f : FuncId) (a : List V) (H : Heap) : Option R := (bif Nat.beq f 168 then mesh_third.rf bd call n a H else bodyA C (fcall call) n f a H)
theorem d126_e (n : Nat) (f : FuncId) (a : List V) (H : Heap) : d126 @bdI (callA C n) n f a H = callA C (n + 1) f a H := by
  unfold d126
  exact (by
  cases h : Nat.beq f 168
  · exact bodyA_e
  · have h := Nat.eq_of_beq_eq_true h; subst h; exact mesh_third.rf_e n a H)
noncomputable def d127 (bd : B3) (call : FuncId → List V → Heap → Option R) (n : Nat) (f : FuncId) (a : List V) (H : Heap) : Option R := (bif Nat.beq f 169 then lift_Less.rf bd call n a H else bodyA C (fcall call) n f a H)
theorem d127_e (n : Nat) (f : FuncId) (a : List V) (H : Heap) : d127 @bdI (callA C n) n f a H = callA C (n + 1) f a H := by
  unfold d127
  exact (by
  cases h : Nat.beq f 169
  · exact bodyA_e
  · have h := Nat.eq_of_beq_eq_true h; subst h; exact lift_Less.rf_e n a H)
noncomputable def d128 (bd : B3) (call : FuncId → List V → Heap → Option R) (n : Nat) (f : FuncId) (a : List V) (H : Heap) : Option R := (bif Nat.ble f 168 then d126 bd call n f a H else d127 bd call n f a H)
theorem d128_e (n : Nat) (f : FuncId) (a : List V) (H : Heap) : d128 @bdI (callA C n) n f a H = callA C (n + 1) f a H := by
  unfold d128
  exact (by
  cases h : Nat.ble f 168
  · exact d127_e n f a H
  · exact d126_e n f a H)
noncomputable def d129 (bd : B3) (call : FuncId → List V → Heap → Option R) (n : Nat) (f : FuncId) (a : List V) (H : Heap) : Option R := (bif Nat.ble f 167 then d125 bd call n f a H else d128 bd call n f a H)
theorem d129_e (n : Nat) (f : FuncId) (a : List V) (H : Heap) : d129 @bdI (callA C n) n f a H = callA C (n + 1) f a H := by
  unfold d129
  exact (by
  cases h : Nat.ble f 167
  · exact d128_e n f a H
  · exact d125_e n f a H)
noncomputable def d130 (bd : B3) (call : FuncId → List V → Heap → Option R) (n : Nat) (f : FuncId) (a : List V) (H : Heap) : Option R := (bif Nat.ble f 166 then d124 bd call n f a H else d129 bd call n f a H)
theorem d130_e (n : Nat) (f : FuncId) (a : List V) (H : Heap) : d130 @bdI (callA C n) n f a H = callA C (n + 1) f a H := by
  unfold d130
  exact (by
  cases h : Nat.ble f 166
  · exact d129_e n f a H
  · exact d124_e n f a H)
noncomputable def d131 (bd : B3) (call : FuncId → List V → Heap → Option R) (n : Nat) (f : FuncId) (a : List V) (H : Heap) : Option R := (bif Nat.beq f 170 then slices_Index_int_int.rf bd call n a H else bodyA C (fcall call) n f a H)
theorem d131_e (n : Nat) (f : FuncId) (a : List V) (H : Heap) : d131 @bdI (callA C n) n f a H = callA C (n + 1) f a H := by
  unfold d131
  exact (by
  cases h : Nat.beq f 170
  · exact bodyA_e
  · have h := Nat.eq_of_beq_eq_true h; subst h; exact slices_Index_int_int.rf_e n a H)
noncomputable def d132 (bd : B3) (call : FuncId → List V → Heap → Option R) (n : Nat) (f : FuncId) (a : List V) (H : Heap) : Option R := (bif Nat.beq f 171 then cover_part.rf bd call n a H else bodyA C (fcall call) n f a H)
theorem d132_e (n : Nat) (f : FuncId) (a : List V) (H : Heap) : d132 @bdI (callA C n) n f a H = callA C (n + 1) f a H := by
  unfold d132
  exact (by
  cases h : Nat.beq f 171
  · exact bodyA_e
  · have h := Nat.eq_of_beq_eq_true h; subst h; exact cover_part.rf_e n a H)
noncomputable def d133 (bd : B3) (call : FuncId → List V → Heap → Option R) (n : Nat) (f : FuncId) (a : List V) (H : Heap) : Option R := (bif Nat.ble f 170 then d131 bd call n f a H else d132 bd call n f a H)
theorem d133_e (n : Nat) (f : FuncId) (a : List V) (H : Heap) : d133 @bdI (callA C n) n f a H = callA C (n + 1) f a H := by
  unfold d133
  exact (by
  cases h : Nat.ble f 170
  · exact d132_e n f a H
  · exact d131_e n f a H)
noncomputable def d134 (bd : B3) (call : FuncId → List V → Heap → Option R) (n : Nat) (f : FuncId) (a : List V) (H : Heap) : Option R := (bif Nat.beq f 174 then lift_part.rf bd call n a H else bodyA C (fcall call) n f a H)
theorem d134_e (n : Nat) (f : FuncId) (a : List V) (H : Heap) : d134 @bdI (callA C n) n f a H = callA C (n + 1) f a H := by
  unfold d134
  exact (by
  cases h : Nat.beq f 174
  · exact bodyA_e
  · have h := Nat.eq_of_beq_eq_true h; subst h; exact lift_part.rf_e n a H)
noncomputable def d135 (bd : B3) (call : FuncId → List V → Heap → Option R) (n : Nat) (f : FuncId) (a : List V) (H : Heap) : Option R := (bif Nat.beq f 175 then mesh_Mesh_face.rf bd call n a H else bodyA C (fcall call) n f a H)
theorem d135_e (n : Nat) (f : FuncId) (a : List V) (H : Heap) : d135 @bdI (callA C n) n f a H = callA C (n + 1) f a H := by
  unfold d135
  exact (by
  cases h : Nat.beq f 175
  · exact bodyA_e
  · have h := Nat.eq_of_beq_eq_true h; subst h; exact mesh_Mesh_face.rf_e n a H)
noncomputable def d136 (bd : B3) (call : FuncId → List V → Heap → Option R) (n : Nat) (f : FuncId) (a : List V) (H : Heap) : Option R := (bif Nat.beq f 191 then lift_within.rf bd call n a H else bodyA C (fcall call) n f a H)
theorem d136_e (n : Nat) (f : FuncId) (a : List V) (H : Heap) : d136 @bdI (callA C n) n f a H = callA C (n + 1) f a H := by
  unfold d136
  exact (by
  cases h : Nat.beq f 191
  · exact bodyA_e
  · have h := Nat.eq_of_beq_eq_true h; subst h; exact lift_within.rf_e n a H)
noncomputable def d137 (bd : B3) (call : FuncId → List V → Heap → Option R) (n : Nat) (f : FuncId) (a : List V) (H : Heap) : Option R := (bif Nat.ble f 175 then d135 bd call n f a H else d136 bd call n f a H)
theorem d137_e (n : Nat) (f : FuncId) (a : List V) (H : Heap) : d137 @bdI (callA C n) n f a H = callA C (n + 1) f a H := by
  unfold d137
  exact (by
  cases h : Nat.ble f 175
  · exact d136_e n f a H
  · exact d135_e n f a H)
noncomputable def d138 (bd : B3) (call : FuncId → List V → Heap → Option R) (n : Nat) (f : FuncId) (a : List V) (H : Heap) : Option R := (bif Nat.ble f 174 then d134 bd call n f a H else d137 bd call n f a H)
theorem d138_e (n : Nat) (f : FuncId) (a : List V) (H : Heap) : d138 @bdI (callA C n) n f a H = callA C (n + 1) f a H := by
  unfold d138
  exact (by
  cases h : Nat.ble f 174
  · exact d137_e n f a H
  · exact d134_e n f a H)
noncomputable def d139 (bd : B3) (call : FuncId → List V → Heap → Option R) (n : Nat) (f : FuncId) (a : List V) (H : Heap) : Option R := (bif Nat.ble f 171 then d133 bd call n f a H else d138 bd call n f a H)
theorem d139_e (n : Nat) (f : FuncId) (a : List V) (H : Heap) : d139 @bdI (callA C n) n f a H = callA C (n + 1) f a H := by
  unfold d139
  exact (by
  cases h : Nat.ble f 171
  · exact d138_e n f a H
  · exact d133_e n f a H)
noncomputable def d140 (bd : B3) (call : FuncId → List V → Heap → Option R) (n : Nat) (f : FuncId) (a : List V) (H : Heap) : Option R := (bif Nat.ble f 169 then d130 bd call n f a H else d139 bd call n f a H)
theorem d140_e (n : Nat) (f : FuncId) (a : List V) (H : Heap) : d140 @bdI (callA C n) n f a H = callA C (n + 1) f a H := by
  unfold d140
  exact (by
  cases h : Nat.ble f 169
  · exact d139_e n f a H
  · exact d130_e n f a H)
noncomputable def d141 (bd : B3) (call : FuncId → List V → Heap → Option R) (n : Nat) (f : FuncId) (a : List V) (H : Heap) : Option R := (bif Nat.beq f 212 then wide_Mul.rf bd call n a H else bodyA C (fcall call) n f a H)
theorem d141_e (n : Nat) (f : FuncId) (a : List V) (H : Heap) : d141 @bdI (callA C n) n f a H = callA C (n + 1) f a H := by
  unfold d141
  exact (by
  cases h : Nat.beq f 212
  · exact bodyA_e
  · have h := Nat.eq_of_beq_eq_true h; subst h; exact wide_Mul.rf_e n a H)
noncomputable def d142 (bd : B3) (call : FuncId → List V → Heap → Option R) (n : Nat) (f : FuncId) (a : List V) (H : Heap) : Option R := (bif Nat.beq f 221 then lift_Can.rf bd call n a H else bodyA C (fcall call) n f a H)
theorem d142_e (n : Nat) (f : FuncId) (a : List V) (H : Heap) : d142 @bdI (callA C n) n f a H = callA C (n + 1) f a H := by
  unfold d142
  exact (by
  cases h : Nat.beq f 221
  · exact bodyA_e
  · have h := Nat.eq_of_beq_eq_true h; subst h; exact lift_Can.rf_e n a H)
noncomputable def d143 (bd : B3) (call : FuncId → List V → Heap → Option R) (n : Nat) (f : FuncId) (a : List V) (H : Heap) : Option R := (bif Nat.ble f 212 then d141 bd call n f a H else d142 bd call n f a H)
theorem d143_e (n : Nat) (f : FuncId) (a : List V) (H : Heap) : d143 @bdI (callA C n) n f a H = callA C (n + 1) f a H := by
  unfold d143
  exact (by
  cases h : Nat.ble f 212
  · exact d142_e n f a H
  · exact d141_e n f a H)
noncomputable def d144 (bd : B3) (call : FuncId → List V → Heap → Option R) (n : Nat) (f : FuncId) (a : List V) (H : Heap) : Option R := (bif Nat.beq f 229 then pred_can.rf bd call n a H else bodyA C (fcall call) n f a H)
theorem d144_e (n : Nat) (f : FuncId) (a : List V) (H : Heap) : d144 @bdI (callA C n) n f a H = callA C (n + 1) f a H := by
  unfold d144
  exact (by
  cases h : Nat.beq f 229
  · exact bodyA_e
  · have h := Nat.eq_of_beq_eq_true h; subst h; exact pred_can.rf_e n a H)
noncomputable def d145 (bd : B3) (call : FuncId → List V → Heap → Option R) (n : Nat) (f : FuncId) (a : List V) (H : Heap) : Option R := (bif Nat.beq f 230 then pred_orient.rf bd call n a H else bodyA C (fcall call) n f a H)
theorem d145_e (n : Nat) (f : FuncId) (a : List V) (H : Heap) : d145 @bdI (callA C n) n f a H = callA C (n + 1) f a H := by
  unfold d145
  exact (by
  cases h : Nat.beq f 230
  · exact bodyA_e
  · have h := Nat.eq_of_beq_eq_true h; subst h; exact pred_orient.rf_e n a H)
noncomputable def d146 (bd : B3) (call : FuncId → List V → Heap → Option R) (n : Nat) (f : FuncId) (a : List V) (H : Heap) : Option R := (bif Nat.beq f 263 then pred_across.rf bd call n a H else bodyA C (fcall call) n f a H)
theorem d146_e (n : Nat) (f : FuncId) (a : List V) (H : Heap) : d146 @bdI (callA C n) n f a H = callA C (n + 1) f a H := by
  unfold d146
  exact (by
  cases h : Nat.beq f 263
  · exact bodyA_e
  · have h := Nat.eq_of_beq_eq_true h; subst h; exact pred_across.rf_e n a H)
noncomputable def d147 (bd : B3) (call : FuncId → List V → Heap → Option R) (n : Nat) (f : FuncId) (a : List V) (H : Heap) : Option R := (bif Nat.ble f 230 then d145 bd call n f a H else d146 bd call n f a H)
theorem d147_e (n : Nat) (f : FuncId) (a : List V) (H : Heap) : d147 @bdI (callA C n) n f a H = callA C (n + 1) f a H := by
  unfold d147
  exact (by
  cases h : Nat.ble f 230
  · exact d146_e n f a H
  · exact d145_e n f a H)
noncomputable def d148 (bd : B3) (call : FuncId → List V → Heap → Option R) (n : Nat) (f : FuncId) (a : List V) (H : Heap) : Option R := (bif Nat.ble f 229 then d144 bd call n f a H else d147 bd call n f a H)
theorem d148_e (n : Nat) (f : FuncId) (a : List V) (H : Heap) : d148 @bdI (callA C n) n f a H = callA C (n + 1) f a H := by
  unfold d148
  exact (by
  cases h : Nat.ble f 229
  · exact d147_e n f a H
  · exact d144_e n f a H)
noncomputable def d149 (bd : B3) (call : FuncId → List V → Heap → Option R) (n : Nat) (f : FuncId) (a : List V) (H : Heap) : Option R := (bif Nat.ble f 221 then d143 bd call n f a H else d148 bd call n f a H)
theorem d149_e (n : Nat) (f : FuncId) (a : List V) (H : Heap) : d149 @bdI (callA C n) n f a H = callA C (n + 1) f a H := by
  unfold d149
  exact (by
  cases h : Nat.ble f 221
  · exact d148_e n f a H
  · exact d143_e n f a H)
noncomputable def d150 (bd : B3) (call : FuncId → List V → Heap → Option R) (n : Nat) (f : FuncId) (a : List V) (H : Heap) : Option R := (bif Nat.beq f 264 then pred_way.rf bd call n a H else bodyA C (fcall call) n f a H)
theorem d150_e (n : Nat) (f : FuncId) (a : List V) (H : Heap) : d150 @bdI (callA C n) n f a H = callA C (n + 1) f a H := by
  unfold d150
  exact (by
  cases h : Nat.beq f 264
  · exact bodyA_e
  · have h := Nat.eq_of_beq_eq_true h; subst h; exact pred_way.rf_e n a H)
noncomputable def d151 (bd : B3) (call : FuncId → List V → Heap → Option R) (n : Nat) (f : FuncId) (a : List V) (H : Heap) : Option R := (bif Nat.beq f 266 then math_bits_Mul64.rf bd call n a H else bodyA C (fcall call) n f a H)
theorem d151_e (n : Nat) (f : FuncId) (a : List V) (H : Heap) : d151 @bdI (callA C n) n f a H = callA C (n + 1) f a H := by
  unfold d151
  exact (by
  cases h : Nat.beq f 266
  · exact bodyA_e
  · have h := Nat.eq_of_beq_eq_true h; subst h; exact math_bits_Mul64.rf_e n a H)
noncomputable def d152 (bd : B3) (call : FuncId → List V → Heap → Option R) (n : Nat) (f : FuncId) (a : List V) (H : Heap) : Option R := (bif Nat.beq f 279 then wide_Sign.rf bd call n a H else bodyA C (fcall call) n f a H)
theorem d152_e (n : Nat) (f : FuncId) (a : List V) (H : Heap) : d152 @bdI (callA C n) n f a H = callA C (n + 1) f a H := by
  unfold d152
  exact (by
  cases h : Nat.beq f 279
  · exact bodyA_e
  · have h := Nat.eq_of_beq_eq_true h; subst h; exact wide_Sign.rf_e n a H)
noncomputable def d153 (bd : B3) (call : FuncId → List V → Heap → Option R) (n : Nat) (f : FuncId) (a : List V) (H : Heap) : Option R := (bif Nat.ble f 266 then d151 bd call n f a H else d152 bd call n f a H)
theorem d153_e (n : Nat) (f : FuncId) (a : List V) (H : Heap) : d153 @bdI (callA C n) n f a H = callA C (n + 1) f a H := by
  unfold d153
  exact (by
  cases h : Nat.ble f 266
  · exact d152_e n f a H
  · exact d151_e n f a H)
noncomputable def d154 (bd : B3) (call : FuncId → List V → Heap → Option R) (n : Nat) (f : FuncId) (a : List V) (H : Heap) : Option R := (bif Nat.ble f 264 then d150 bd call n f a H else d153 bd call n f a H)
theorem d154_e (n : Nat) (f : FuncId) (a : List V) (H : Heap) : d154 @bdI (callA C n) n f a H = callA C (n + 1) f a H := by
  unfold d154
  exact (by
  cases h : Nat.ble f 264
  · exact d153_e n f a H
  · exact d150_e n f a H)
noncomputable def d155 (bd : B3) (call : FuncId → List V → Heap → Option R) (n : Nat) (f : FuncId) (a : List V) (H : Heap) : Option R := (bif Nat.beq f 319 then wide_Sub.rf bd call n a H else bodyA C (fcall call) n f a H)
theorem d155_e (n : Nat) (f : FuncId) (a : List V) (H : Heap) : d155 @bdI (callA C n) n f a H = callA C (n + 1) f a H := by
  unfold d155
  exact (by
  cases h : Nat.beq f 319
  · exact bodyA_e
  · have h := Nat.eq_of_beq_eq_true h; subst h; exact wide_Sub.rf_e n a H)
noncomputable def d156 (bd : B3) (call : FuncId → List V → Heap → Option R) (n : Nat) (f : FuncId) (a : List V) (H : Heap) : Option R := (bif Nat.beq f 333 then wide_sign.rf bd call n a H else bodyA C (fcall call) n f a H)
theorem d156_e (n : Nat) (f : FuncId) (a : List V) (H : Heap) : d156 @bdI (callA C n) n f a H = callA C (n + 1) f a H := by
  unfold d156
  exact (by
  cases h : Nat.beq f 333
  · exact bodyA_e
  · have h := Nat.eq_of_beq_eq_true h; subst h; exact wide_sign.rf_e n a H)
noncomputable def d157 (bd : B3) (call : FuncId → List V → Heap → Option R) (n : Nat) (f : FuncId) (a : List V) (H : Heap) : Option R := (bif Nat.beq f 363 then wide_sub.rf bd call n a H else bodyA C (fcall call) n f a H)
theorem d157_e (n : Nat) (f : FuncId) (a : List V) (H : Heap) : d157 @bdI (callA C n) n f a H = callA C (n + 1) f a H := by
  unfold d157
  exact (by
  cases h : Nat.beq f 363
  · exact bodyA_e
  · have h := Nat.eq_of_beq_eq_true h; subst h; exact wide_sub.rf_e n a H)
noncomputable def d158 (bd : B3) (call : FuncId → List V → Heap → Option R) (n : Nat) (f : FuncId) (a : List V) (H : Heap) : Option R := (bif Nat.ble f 333 then d156 bd call n f a H else d157 bd call n f a H)
theorem d158_e (n : Nat) (f : FuncId) (a : List V) (H : Heap) : d158 @bdI (callA C n) n f a H = callA C (n + 1) f a H := by
  unfold d158
  exact (by
  cases h : Nat.ble f 333
  · exact d157_e n f a H
  · exact d156_e n f a H)
noncomputable def d159 (bd : B3) (call : FuncId → List V → Heap → Option R) (n : Nat) (f : FuncId) (a : List V) (H : Heap) : Option R := (bif Nat.ble f 319 then d155 bd call n f a H else d158 bd call n f a H)
theorem d159_e (n : Nat) (f : FuncId) (a : List V) (H : Heap) : d159 @bdI (callA C n) n f a H = callA C (n + 1) f a H := by
  unfold d159
  exact (by
  cases h : Nat.ble f 319
  · exact d158_e n f a H
  · exact d155_e n f a H)
noncomputable def d160 (bd : B3) (call : FuncId → List V → Heap → Option R) (n : Nat) (f : FuncId) (a : List V) (H : Heap) : Option R := (bif Nat.ble f 279 then d154 bd call n f a H else d159 bd call n f a H)
theorem d160_e (n : Nat) (f : FuncId) (a : List V) (H : Heap) : d160 @bdI (callA C n) n f a H = callA C (n + 1) f a H := by
  unfold d160
  exact (by
  cases h : Nat.ble f 279
  · exact d159_e n f a H
  · exact d154_e n f a H)
noncomputable def d161 (bd : B3) (call : FuncId → List V → Heap → Option R) (n : Nat) (f : FuncId) (a : List V) (H : Heap) : Option R := (bif Nat.ble f 263 then d149 bd call n f a H else d160 bd call n f a H)
theorem d161_e (n : Nat) (f : FuncId) (a : List V) (H : Heap) : d161 @bdI (callA C n) n f a H = callA C (n + 1) f a H := by
  unfold d161
  exact (by
  cases h : Nat.ble f 263
  · exact d160_e n f a H
  · exact d149_e n f a H)
noncomputable def d162 (bd : B3) (call : FuncId → List V → Heap → Option R) (n : Nat) (f : FuncId) (a : List V) (H : Heap) : Option R := (bif Nat.ble f 191 then d140 bd call n f a H else d161 bd call n f a H)
theorem d162_e (n : Nat) (f : FuncId) (a : List V) (H : Heap) : d162 @bdI (callA C n) n f a H = callA C (n + 1) f a H := by
  unfold d162
  exact (by
  cases h : Nat.ble f 191
  · exact d161_e n f a H
  · exact d140_e n f a H)
noncomputable def d163 (bd : B3) (call : FuncId → List V → Heap → Option R) (n : Nat) (f : FuncId) (a : List V) (H : Heap) : Option R := (bif Nat.ble f 162 then d121 bd call n f a H else d162 bd call n f a H)
theorem d163_e (n : Nat) (f : FuncId) (a : List V) (H : Heap) : d163 @bdI (callA C n) n f a H = callA C (n + 1) f a H := by
  unfold d163
  exact (by
  cases h : Nat.ble f 162
  · exact d162_e n f a H
  · exact d121_e n f a H)
noncomputable def d164 (bd : B3) (call : FuncId → List V → Heap → Option R) (n : Nat) (f : FuncId) (a : List V) (H : Heap) : Option R := (bif Nat.ble f 79 then d80 bd call n f a H else d163 bd call n f a H)
theorem d164_e (n : Nat) (f : FuncId) (a : List V) (H : Heap) : d164 @bdI (callA C n) n f a H = callA C (n + 1) f a H := by
  unfold d164
  exact (by
  cases h : Nat.ble f 79
  · exact d163_e n f a H
  · exact d80_e n f a H)
noncomputable def ev (bd : B3) (n : Nat) : FuncId → List V → Heap → Option R := Nat.rec (motive := fun _ => FuncId → List V → Heap → Option R) (fun _ _ _ => none) (fun n ih => d164 bd ih n) n
theorem ev_e (n : Nat) : ev @bf n = callA C n := by
  rw [bf_is]
  induction n with
  | zero => funext f a H; unfold callA; rfl
  | succ n ih => funext f a H; exact (congrArg (fun c => d164 @bdI c n f a H) ih).trans (d164_e n f a H)
end Go.AM.L
end
