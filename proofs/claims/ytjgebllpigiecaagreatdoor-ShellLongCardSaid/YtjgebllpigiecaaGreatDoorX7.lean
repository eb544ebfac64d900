/- Merged by program from: LoLE. -/
import Derived.Test.YtjgebllpigiecaaGreatDoorX6
section
set_option linter.unusedVariables false
set_option linter.unusedSimpArgs false
set_option maxRecDepth 1000000
namespace Go.AM.L
noncomputable def d0 (bd : B3) (call : FuncId → List V → Heap → Option R) (n : Nat) (f : FuncId) (a : List V) (H : Heap) : Option R := (bif Nat.beq f 4 then shell_Run.rf bd call n a H else bodyA C (fcall call) n f a H)
theorem d0_e (n : Nat) (f : FuncId) (a : List V) (H : Heap) : d0 @bdI (callA C n) n f a H = callA C (n + 1) f a H := by
  unfold d0
  exact (by
  cases h : Nat.beq f 4
  · exact bodyA_e
  · have h := Nat.eq_of_beq_eq_true h; subst h; exact shell_Run.rf_e n a H)
noncomputable def d1 (bd : B3) (call : FuncId → List V → Heap → Option R) (n : Nat) (f : FuncId) (a : List V) (H : Heap) : Option R := (bif Nat.beq f 5 then law30_lives.rf bd call n a H else bodyA C (fcall call) n f a H)
theorem d1_e (n : Nat) (f : FuncId) (a : List V) (H : Heap) : d1 @bdI (callA C n) n f a H = callA C (n + 1) f a H := by
  unfold d1
  exact (by
  cases h : Nat.beq f 5
  · exact bodyA_e
  · have h := Nat.eq_of_beq_eq_true h; subst h; exact law30_lives.rf_e n a H)
noncomputable def d2 (bd : B3) (call : FuncId → List V → Heap → Option R) (n : Nat) (f : FuncId) (a : List V) (H : Heap) : Option R := (bif Nat.ble f 4 then d0 bd call n f a H else d1 bd call n f a H)
theorem d2_e (n : Nat) (f : FuncId) (a : List V) (H : Heap) : d2 @bdI (callA C n) n f a H = callA C (n + 1) f a H := by
  unfold d2
  exact (by
  cases h : Nat.ble f 4
  · exact d1_e n f a H
  · exact d0_e n f a H)
noncomputable def d3 (bd : B3) (call : FuncId → List V → Heap → Option R) (n : Nat) (f : FuncId) (a : List V) (H : Heap) : Option R := (bif Nat.beq f 6 then strings_Split.rf bd call n a H else bodyA C (fcall call) n f a H)
theorem d3_e (n : Nat) (f : FuncId) (a : List V) (H : Heap) : d3 @bdI (callA C n) n f a H = callA C (n + 1) f a H := by
  unfold d3
  exact (by
  cases h : Nat.beq f 6
  · exact bodyA_e
  · have h := Nat.eq_of_beq_eq_true h; subst h; exact strings_Split.rf_e n a H)
noncomputable def d4 (bd : B3) (call : FuncId → List V → Heap → Option R) (n : Nat) (f : FuncId) (a : List V) (H : Heap) : Option R := (bif Nat.beq f 7 then strings_TrimSuffix.rf bd call n a H else bodyA C (fcall call) n f a H)
theorem d4_e (n : Nat) (f : FuncId) (a : List V) (H : Heap) : d4 @bdI (callA C n) n f a H = callA C (n + 1) f a H := by
  unfold d4
  exact (by
  cases h : Nat.beq f 7
  · exact bodyA_e
  · have h := Nat.eq_of_beq_eq_true h; subst h; exact strings_TrimSuffix.rf_e n a H)
noncomputable def d5 (bd : B3) (call : FuncId → List V → Heap → Option R) (n : Nat) (f : FuncId) (a : List V) (H : Heap) : Option R := (bif Nat.ble f 6 then d3 bd call n f a H else d4 bd call n f a H)
theorem d5_e (n : Nat) (f : FuncId) (a : List V) (H : Heap) : d5 @bdI (callA C n) n f a H = callA C (n + 1) f a H := by
  unfold d5
  exact (by
  cases h : Nat.ble f 6
  · exact d4_e n f a H
  · exact d3_e n f a H)
noncomputable def d6 (bd : B3) (call : FuncId → List V → Heap → Option R) (n : Nat) (f : FuncId) (a : List V) (H : Heap) : Option R := (bif Nat.ble f 5 then d2 bd call n f a H else d5 bd call n f a H)
theorem d6_e (n : Nat) (f : FuncId) (a : List V) (H : Heap) : d6 @bdI (callA C n) n f a H = callA C (n + 1) f a H := by
  unfold d6
  exact (by
  cases h : Nat.ble f 5
  · exact d5_e n f a H
  · exact d2_e n f a H)
noncomputable def d7 (bd : B3) (call : FuncId → List V → Heap → Option R) (n : Nat) (f : FuncId) (a : List V) (H : Heap) : Option R := (bif Nat.beq f 8 then shell_shell_line.rf bd call n a H else bodyA C (fcall call) n f a H)
theorem d7_e (n : Nat) (f : FuncId) (a : List V) (H : Heap) : d7 @bdI (callA C n) n f a H = callA C (n + 1) f a H := by
  unfold d7
  exact (by
  cases h : Nat.beq f 8
  · exact bodyA_e
  · have h := Nat.eq_of_beq_eq_true h; subst h; exact shell_shell_line.rf_e n a H)
noncomputable def d8 (bd : B3) (call : FuncId → List V → Heap → Option R) (n : Nat) (f : FuncId) (a : List V) (H : Heap) : Option R := (bif Nat.beq f 9 then strings_Builder_String.rf bd call n a H else bodyA C (fcall call) n f a H)
theorem d8_e (n : Nat) (f : FuncId) (a : List V) (H : Heap) : d8 @bdI (callA C n) n f a H = callA C (n + 1) f a H := by
  unfold d8
  exact (by
  cases h : Nat.beq f 9
  · exact bodyA_e
  · have h := Nat.eq_of_beq_eq_true h; subst h; exact strings_Builder_String.rf_e n a H)
noncomputable def d9 (bd : B3) (call : FuncId → List V → Heap → Option R) (n : Nat) (f : FuncId) (a : List V) (H : Heap) : Option R := (bif Nat.ble f 8 then d7 bd call n f a H else d8 bd call n f a H)
theorem d9_e (n : Nat) (f : FuncId) (a : List V) (H : Heap) : d9 @bdI (callA C n) n f a H = callA C (n + 1) f a H := by
  unfold d9
  exact (by
  cases h : Nat.ble f 8
  · exact d8_e n f a H
  · exact d7_e n f a H)
noncomputable def d10 (bd : B3) (call : FuncId → List V → Heap → Option R) (n : Nat) (f : FuncId) (a : List V) (H : Heap) : Option R := (bif Nat.beq f 10 then strings_genSplit.rf bd call n a H else bodyA C (fcall call) n f a H)
theorem d10_e (n : Nat) (f : FuncId) (a : List V) (H : Heap) : d10 @bdI (callA C n) n f a H = callA C (n + 1) f a H := by
  unfold d10
  exact (by
  cases h : Nat.beq f 10
  · exact bodyA_e
  · have h := Nat.eq_of_beq_eq_true h; subst h; exact strings_genSplit.rf_e n a H)
noncomputable def d11 (bd : B3) (call : FuncId → List V → Heap → Option R) (n : Nat) (f : FuncId) (a : List V) (H : Heap) : Option R := (bif Nat.beq f 11 then internal_stringslite_TrimSuffix.rf bd call n a H else bodyA C (fcall call) n f a H)
theorem d11_e (n : Nat) (f : FuncId) (a : List V) (H : Heap) : d11 @bdI (callA C n) n f a H = callA C (n + 1) f a H := by
  unfold d11
  exact (by
  cases h : Nat.beq f 11
  · exact bodyA_e
  · have h := Nat.eq_of_beq_eq_true h; subst h; exact internal_stringslite_TrimSuffix.rf_e n a H)
noncomputable def d12 (bd : B3) (call : FuncId → List V → Heap → Option R) (n : Nat) (f : FuncId) (a : List V) (H : Heap) : Option R := (bif Nat.ble f 10 then d10 bd call n f a H else d11 bd call n f a H)
theorem d12_e (n : Nat) (f : FuncId) (a : List V) (H : Heap) : d12 @bdI (callA C n) n f a H = callA C (n + 1) f a H := by
  unfold d12
  exact (by
  cases h : Nat.ble f 10
  · exact d11_e n f a H
  · exact d10_e n f a H)
noncomputable def d13 (bd : B3) (call : FuncId → List V → Heap → Option R) (n : Nat) (f : FuncId) (a : List V) (H : Heap) : Option R := (bif Nat.ble f 9 then d9 bd call n f a H else d12 bd call n f a H)
theorem d13_e (n : Nat) (f : FuncId) (a : List V) (H : Heap) : d13 @bdI (callA C n) n f a H = callA C (n + 1) f a H := by
  unfold d13
  exact (by
  cases h : Nat.ble f 9
  · exact d12_e n f a H
  · exact d9_e n f a H)
noncomputable def d14 (bd : B3) (call : FuncId → List V → Heap → Option R) (n : Nat) (f : FuncId) (a : List V) (H : Heap) : Option R := (bif Nat.ble f 7 then d6 bd call n f a H else d13 bd call n f a H)
theorem d14_e (n : Nat) (f : FuncId) (a : List V) (H : Heap) : d14 @bdI (callA C n) n f a H = callA C (n + 1) f a H := by
  unfold d14
  exact (by
  cases h : Nat.ble f 7
  · exact d13_e n f a H
  · exact d6_e n f a H)
noncomputable def d15 (bd : B3) (call : FuncId → List V → Heap → Option R) (n : Nat) (f : FuncId) (a : List V) (H : Heap) : Option R := (bif Nat.beq f 12 then strings_Trim.rf bd call n a H else bodyA C (fcall call) n f a H)
theorem d15_e (n : Nat) (f : FuncId) (a : List V) (H : Heap) : d15 @bdI (callA C n) n f a H = callA C (n + 1) f a H := by
  unfold d15
  exact (by
  cases h : Nat.beq f 12
  · exact bodyA_e
  · have h := Nat.eq_of_beq_eq_true h; subst h; exact strings_Trim.rf_e n a H)
noncomputable def d16 (bd : B3) (call : FuncId → List V → Heap → Option R) (n : Nat) (f : FuncId) (a : List V) (H : Heap) : Option R := (bif Nat.beq f 13 then shell_numbers.rf bd call n a H else bodyA C (fcall call) n f a H)
theorem d16_e (n : Nat) (f : FuncId) (a : List V) (H : Heap) : d16 @bdI (callA C n) n f a H = callA C (n + 1) f a H := by
  unfold d16
  exact (by
  cases h : Nat.beq f 13
  · exact bodyA_e
  · have h := Nat.eq_of_beq_eq_true h; subst h; exact shell_numbers.rf_e n a H)
noncomputable def d17 (bd : B3) (call : FuncId → List V → Heap → Option R) (n : Nat) (f : FuncId) (a : List V) (H : Heap) : Option R := (bif Nat.ble f 12 then d15 bd call n f a H else d16 bd call n f a H)
theorem d17_e (n : Nat) (f : FuncId) (a : List V) (H : Heap) : d17 @bdI (callA C n) n f a H = callA C (n + 1) f a H := by
  unfold d17
  exact (by
  cases h : Nat.ble f 12
  · exact d16_e n f a H
  · exact d15_e n f a H)
noncomputable def d18 (bd : B3) (call : FuncId → List V → Heap → Option R) (n : Nat) (f : FuncId) (a : List V) (H : Heap) : Option R := (bif Nat.beq f 14 then shell_many.rf bd call n a H else bodyA C (fcall call) n f a H)
theorem d18_e (n : Nat) (f : FuncId) (a : List V) (H : Heap) : d18 @bdI (callA C n) n f a H = callA C (n + 1) f a H := by
  unfold d18
  exact (by
  cases h : Nat.beq f 14
  · exact bodyA_e
  · have h := Nat.eq_of_beq_eq_true h; subst h; exact shell_many.rf_e n a H)
noncomputable def d19 (bd : B3) (call : FuncId → List V → Heap → Option R) (n : Nat) (f : FuncId) (a : List V) (H : Heap) : Option R := (bif Nat.beq f 15 then shell_shell_put.rf bd call n a H else bodyA C (fcall call) n f a H)
theorem d19_e (n : Nat) (f : FuncId) (a : List V) (H : Heap) : d19 @bdI (callA C n) n f a H = callA C (n + 1) f a H := by
  unfold d19
  exact (by
  cases h : Nat.beq f 15
  · exact bodyA_e
  · have h := Nat.eq_of_beq_eq_true h; subst h; exact shell_shell_put.rf_e n a H)
noncomputable def d20 (bd : B3) (call : FuncId → List V → Heap → Option R) (n : Nat) (f : FuncId) (a : List V) (H : Heap) : Option R := (bif Nat.ble f 14 then d18 bd call n f a H else d19 bd call n f a H)
theorem d20_e (n : Nat) (f : FuncId) (a : List V) (H : Heap) : d20 @bdI (callA C n) n f a H = callA C (n + 1) f a H := by
  unfold d20
  exact (by
  cases h : Nat.ble f 14
  · exact d19_e n f a H
  · exact d18_e n f a H)
noncomputable def d21 (bd : B3) (call : FuncId → List V → Heap → Option R) (n : Nat) (f : FuncId) (a : List V) (H : Heap) : Option R := (bif Nat.ble f 13 then d17 bd call n f a H else d20 bd call n f a H)
theorem d21_e (n : Nat) (f : FuncId) (a : List V) (H : Heap) : d21 @bdI (callA C n) n f a H = callA C (n + 1) f a H := by
  unfold d21
  exact (by
  cases h : Nat.ble f 13
  · exact d20_e n f a H
  · exact d17_e n f a H)
noncomputable def d22 (bd : B3) (call : FuncId → List V → Heap → Option R) (n : Nat) (f : FuncId) (a : List V) (H : Heap) : Option R := (bif Nat.beq f 16 then shell_shell_does.rf bd call n a H else bodyA C (fcall call) n f a H)
theorem d22_e (n : Nat) (f : FuncId) (a : List V) (H : Heap) : d22 @bdI (callA C n) n f a H = callA C (n + 1) f a H := by
  unfold d22
  exact (by
  cases h : Nat.beq f 16
  · exact bodyA_e
  · have h := Nat.eq_of_beq_eq_true h; subst h; exact shell_shell_does.rf_e n a H)
noncomputable def d23 (bd : B3) (call : FuncId → List V → Heap → Option R) (n : Nat) (f : FuncId) (a : List V) (H : Heap) : Option R := (bif Nat.beq f 18 then strings_Count.rf bd call n a H else bodyA C (fcall call) n f a H)
theorem d23_e (n : Nat) (f : FuncId) (a : List V) (H : Heap) : d23 @bdI (callA C n) n f a H = callA C (n + 1) f a H := by
  unfold d23
  exact (by
  cases h : Nat.beq f 18
  · exact bodyA_e
  · have h := Nat.eq_of_beq_eq_true h; subst h; exact strings_Count.rf_e n a H)
noncomputable def d24 (bd : B3) (call : FuncId → List V → Heap → Option R) (n : Nat) (f : FuncId) (a : List V) (H : Heap) : Option R := (bif Nat.ble f 16 then d22 bd call n f a H else d23 bd call n f a H)
theorem d24_e (n : Nat) (f : FuncId) (a : List V) (H : Heap) : d24 @bdI (callA C n) n f a H = callA C (n + 1) f a H := by
  unfold d24
  exact (by
  cases h : Nat.ble f 16
  · exact d23_e n f a H
  · exact d22_e n f a H)
noncomputable def d25 (bd : B3) (call : FuncId → List V → Heap → Option R) (n : Nat) (f : FuncId) (a : List V) (H : Heap) : Option R := (bif Nat.beq f 19 then strings_Index.rf bd call n a H else bodyA C (fcall call) n f a H)
theorem d25_e (n : Nat) (f : FuncId) (a : List V) (H : Heap) : d25 @bdI (callA C n) n f a H = callA C (n + 1) f a H := by
  unfold d25
  exact (by
  cases h : Nat.beq f 19
  · exact bodyA_e
  · have h := Nat.eq_of_beq_eq_true h; subst h; exact strings_Index.rf_e n a H)
noncomputable def d26 (bd : B3) (call : FuncId → List V → Heap → Option R) (n : Nat) (f : FuncId) (a : List V) (H : Heap) : Option R := (bif Nat.beq f 20 then internal_stringslite_HasSuffix.rf bd call n a H else bodyA C (fcall call) n f a H)
theorem d26_e (n : Nat) (f : FuncId) (a : List V) (H : Heap) : d26 @bdI (callA C n) n f a H = callA C (n + 1) f a H := by
  unfold d26
  exact (by
  cases h : Nat.beq f 20
  · exact bodyA_e
  · have h := Nat.eq_of_beq_eq_true h; subst h; exact internal_stringslite_HasSuffix.rf_e n a H)
noncomputable def d27 (bd : B3) (call : FuncId → List V → Heap → Option R) (n : Nat) (f : FuncId) (a : List V) (H : Heap) : Option R := (bif Nat.beq f 21 then strings_trimLeftByte.rf bd call n a H else bodyA C (fcall call) n f a H)
theorem d27_e (n : Nat) (f : FuncId) (a : List V) (H : Heap) : d27 @bdI (callA C n) n f a H = callA C (n + 1) f a H := by
  unfold d27
  exact (by
  cases h : Nat.beq f 21
  · exact bodyA_e
  · have h := Nat.eq_of_beq_eq_true h; subst h; exact strings_trimLeftByte.rf_e n a H)
noncomputable def d28 (bd : B3) (call : FuncId → List V → Heap → Option R) (n : Nat) (f : FuncId) (a : List V) (H : Heap) : Option R := (bif Nat.ble f 20 then d26 bd call n f a H else d27 bd call n f a H)
theorem d28_e (n : Nat) (f : FuncId) (a : List V) (H : Heap) : d28 @bdI (callA C n) n f a H = callA C (n + 1) f a H := by
  unfold d28
  exact (by
  cases h : Nat.ble f 20
  · exact d27_e n f a H
  · exact d26_e n f a H)
noncomputable def d29 (bd : B3) (call : FuncId → List V → Heap → Option R) (n : Nat) (f : FuncId) (a : List V) (H : Heap) : Option R := (bif Nat.ble f 19 then d25 bd call n f a H else d28 bd call n f a H)
theorem d29_e (n : Nat) (f : FuncId) (a : List V) (H : Heap) : d29 @bdI (callA C n) n f a H = callA C (n + 1) f a H := by
  unfold d29
  exact (by
  cases h : Nat.ble f 19
  · exact d28_e n f a H
  · exact d25_e n f a H)
noncomputable def d30 (bd : B3) (call : FuncId → List V → Heap → Option R) (n : Nat) (f : FuncId) (a : List V) (H : Heap) : Option R := (bif Nat.ble f 18 then d24 bd call n f a H else d29 bd call n f a H)
theorem d30_e (n : Nat) (f : FuncId) (a : List V) (H : Heap) : d30 @bdI (callA C n) n f a H = callA C (n + 1) f a H := by
  unfold d30
  exact (by
  cases h : Nat.ble f 18
  · exact d29_e n f a H
  · exact d24_e n f a H)
noncomputable def d31 (bd : B3) (call : FuncId → List V → Heap → Option R) (n : Nat) (f : FuncId) (a : List V) (H : Heap) : Option R := (bif Nat.ble f 15 then d21 bd call n f a H else d30 bd call n f a H)
theorem d31_e (n : Nat) (f : FuncId) (a : List V) (H : Heap) : d31 @bdI (callA C n) n f a H = callA C (n + 1) f a H := by
  unfold d31
  exact (by
  cases h : Nat.ble f 15
  · exact d30_e n f a H
  · exact d21_e n f a H)
noncomputable def d32 (bd : B3) (call : FuncId → List V → Heap → Option R) (n : Nat) (f : FuncId) (a : List V) (H : Heap) : Option R := (bif Nat.ble f 11 then d14 bd call n f a H else d31 bd call n f a H)
theorem d32_e (n : Nat) (f : FuncId) (a : List V) (H : Heap) : d32 @bdI (callA C n) n f a H = callA C (n + 1) f a H := by
  unfold d32
  exact (by
  cases h : Nat.ble f 11
  · exact d31_e n f a H
  · exact d14_e n f a H)
noncomputable def d33 (bd : B3) (call : FuncId → List V → Heap → Option R) (n : Nat) (f : FuncId) (a : List V) (H : Heap) : Option R := (bif Nat.beq f 22 then strings_trimRightByte.rf bd call n a H else bodyA C (fcall call) n f a H)
theorem d33_e (n : Nat) (f : FuncId) (a : List V) (H : Heap) : d33 @bdI (callA C n) n f a H = callA C (n + 1) f a H := by
  unfold d33
  exact (by
  cases h : Nat.beq f 22
  · exact bodyA_e
  · have h := Nat.eq_of_beq_eq_true h; subst h; exact strings_trimRightByte.rf_e n a H)
noncomputable def d34 (bd : B3) (call : FuncId → List V → Heap → Option R) (n : Nat) (f : FuncId) (a : List V) (H : Heap) : Option R := (bif Nat.beq f 28 then lex_Number.rf bd call n a H else bodyA C (fcall call) n f a H)
theorem d34_e (n : Nat) (f : FuncId) (a : List V) (H : Heap) : d34 @bdI (callA C n) n f a H = callA C (n + 1) f a H := by
  unfold d34
  exact (by
  cases h : Nat.beq f 28
  · exact bodyA_e
  · have h := Nat.eq_of_beq_eq_true h; subst h; exact lex_Number.rf_e n a H)
noncomputable def d35 (bd : B3) (call : FuncId → List V → Heap → Option R) (n : Nat) (f : FuncId) (a : List V) (H : Heap) : Option R := (bif Nat.ble f 22 then d33 bd call n f a H else d34 bd call n f a H)
theorem d35_e (n : Nat) (f : FuncId) (a : List V) (H : Heap) : d35 @bdI (callA C n) n f a H = callA C (n + 1) f a H := by
  unfold d35
  exact (by
  cases h : Nat.ble f 22
  · exact d34_e n f a H
  · exact d33_e n f a H)
noncomputable def d36 (bd : B3) (call : FuncId → List V → Heap → Option R) (n : Nat) (f : FuncId) (a : List V) (H : Heap) : Option R := (bif Nat.beq f 29 then strings_Builder_WriteString.rf bd call n a H else bodyA C (fcall call) n f a H)
theorem d36_e (n : Nat) (f : FuncId) (a : List V) (H : Heap) : d36 @bdI (callA C n) n f a H = callA C (n + 1) f a H := by
  unfold d36
  exact (by
  cases h : Nat.beq f 29
  · exact bodyA_e
  · have h := Nat.eq_of_beq_eq_true h; subst h; exact strings_Builder_WriteString.rf_e n a H)
noncomputable def d37 (bd : B3) (call : FuncId → List V → Heap → Option R) (n : Nat) (f : FuncId) (a : List V) (H : Heap) : Option R := (bif Nat.beq f 30 then strings_Join.rf bd call n a H else bodyA C (fcall call) n f a H)
theorem d37_e (n : Nat) (f : FuncId) (a : List V) (H : Heap) : d37 @bdI (callA C n) n f a H = callA C (n + 1) f a H := by
  unfold d37
  exact (by
  cases h : Nat.beq f 30
  · exact bodyA_e
  · have h := Nat.eq_of_beq_eq_true h; subst h; exact strings_Join.rf_e n a H)
noncomputable def d38 (bd : B3) (call : FuncId → List V → Heap → Option R) (n : Nat) (f : FuncId) (a : List V) (H : Heap) : Option R := (bif Nat.ble f 29 then d36 bd call n f a H else d37 bd call n f a H)
theorem d38_e (n : Nat) (f : FuncId) (a : List V) (H : Heap) : d38 @bdI (callA C n) n f a H = callA C (n + 1) f a H := by
  unfold d38
  exact (by
  cases h : Nat.ble f 29
  · exact d37_e n f a H
  · exact d36_e n f a H)
noncomputable def d39 (bd : B3) (call : FuncId → List V → Heap → Option R) (n : Nat) (f : FuncId) (a : List V) (H : Heap) : Option R := (bif Nat.ble f 28 then d35 bd call n f a H else d38 bd call n f a H)
theorem d39_e (n : Nat) (f : FuncId) (a : List V) (H : Heap) : d39 @bdI (callA C n) n f a H = callA C (n + 1) f a H := by
  unfold d39
  exact (by
  cases h : Nat.ble f 28
  · exact d38_e n f a H
  · exact d35_e n f a H)
noncomputable def d40 (bd : B3) (call : FuncId → List V → Heap → Option R) (n : Nat) (f : FuncId) (a : List V) (H : Heap) : Option R := (bif Nat.beq f 31 then shell_shell_open.rf bd call n a H else bodyA C (fcall call) n f a H)
theorem d40_e (n : Nat) (f : FuncId) (a : List V) (H : Heap) : d40 @bdI (callA C n) n f a H = callA C (n + 1) f a H := by
  unfold d40
  exact (by
  cases h : Nat.beq f 31
  · exact bodyA_e
  · have h := Nat.eq_of_beq_eq_true h; subst h; exact shell_shell_open.rf_e n a H)
noncomputable def d41 (bd : B3) (call : FuncId → List V → Heap → Option R) (n : Nat) (f : FuncId) (a : List V) (H : Heap) : Option R := (bif Nat.beq f 34 then shell_shell_tell.rf bd call n a H else bodyA C (fcall call) n f a H)
theorem d41_e (n : Nat) (f : FuncId) (a : List V) (H : Heap) : d41 @bdI (callA C n) n f a H = callA C (n + 1) f a H := by
  unfold d41
  exact (by
  cases h : Nat.beq f 34
  · exact bodyA_e
  · have h := Nat.eq_of_beq_eq_true h; subst h; exact shell_shell_tell.rf_e n a H)
noncomputable def d42 (bd : B3) (call : FuncId → List V → Heap → Option R) (n : Nat) (f : FuncId) (a : List V) (H : Heap) : Option R := (bif Nat.ble f 31 then d40 bd call n f a H else d41 bd call n f a H)
theorem d42_e (n : Nat) (f : FuncId) (a : List V) (H : Heap) : d42 @bdI (callA C n) n f a H = callA C (n + 1) f a H := by
  unfold d42
  exact (by
  cases h : Nat.ble f 31
  · exact d41_e n f a H
  · exact d40_e n f a H)
noncomputable def d43 (bd : B3) (call : FuncId → List V → Heap → Option R) (n : Nat) (f : FuncId) (a : List V) (H : Heap) : Option R := (bif Nat.beq f 35 then shell_shell_change.rf bd call n a H else bodyA C (fcall call) n f a H)
theorem d43_e (n : Nat) (f : FuncId) (a : List V) (H : Heap) : d43 @bdI (callA C n) n f a H = callA C (n + 1) f a H := by
  unfold d43
  exact (by
  cases h : Nat.beq f 35
  · exact bodyA_e
  · have h := Nat.eq_of_beq_eq_true h; subst h; exact shell_shell_change.rf_e n a H)
noncomputable def d44 (bd : B3) (call : FuncId → List V → Heap → Option R) (n : Nat) (f : FuncId) (a : List V) (H : Heap) : Option R := (bif Nat.beq f 39 then internal_stringslite_Index.rf bd call n a H else bodyA C (fcall call) n f a H)
theorem d44_e (n : Nat) (f : FuncId) (a : List V) (H : Heap) : d44 @bdI (callA C n) n f a H = callA C (n + 1) f a H := by
  unfold d44
  exact (by
  cases h : Nat.beq f 39
  · exact bodyA_e
  · have h := Nat.eq_of_beq_eq_true h; subst h; exact internal_stringslite_Index.rf_e n a H)
noncomputable def d45 (bd : B3) (call : FuncId → List V → Heap → Option R) (n : Nat) (f : FuncId) (a : List V) (H : Heap) : Option R := (bif Nat.ble f 35 then d43 bd call n f a H else d44 bd call n f a H)
theorem d45_e (n : Nat) (f : FuncId) (a : List V) (H : Heap) : d45 @bdI (callA C n) n f a H = callA C (n + 1) f a H := by
  unfold d45
  exact (by
  cases h : Nat.ble f 35
  · exact d44_e n f a H
  · exact d43_e n f a H)
noncomputable def d46 (bd : B3) (call : FuncId → List V → Heap → Option R) (n : Nat) (f : FuncId) (a : List V) (H : Heap) : Option R := (bif Nat.ble f 34 then d42 bd call n f a H else d45 bd call n f a H)
theorem d46_e (n : Nat) (f : FuncId) (a : List V) (H : Heap) : d46 @bdI (callA C n) n f a H = callA C (n + 1) f a H := by
  unfold d46
  exact (by
  cases h : Nat.ble f 34
  · exact d45_e n f a H
  · exact d42_e n f a H)
noncomputable def d47 (bd : B3) (call : FuncId → List V → Heap → Option R) (n : Nat) (f : FuncId) (a : List V) (H : Heap) : Option R := (bif Nat.ble f 30 then d39 bd call n f a H else d46 bd call n f a H)
theorem d47_e (n : Nat) (f : FuncId) (a : List V) (H : Heap) : d47 @bdI (callA C n) n f a H = callA C (n + 1) f a H := by
  unfold d47
  exact (by
  cases h : Nat.ble f 30
  · exact d46_e n f a H
  · exact d39_e n f a H)
noncomputable def d48 (bd : B3) (call : FuncId → List V → Heap → Option R) (n : Nat) (f : FuncId) (a : List V) (H : Heap) : Option R := (bif Nat.beq f 43 then lex_within.rf bd call n a H else bodyA C (fcall call) n f a H)
theorem d48_e (n : Nat) (f : FuncId) (a : List V) (H : Heap) : d48 @bdI (callA C n) n f a H = callA C (n + 1) f a H := by
  unfold d48
  exact (by
  cases h : Nat.beq f 43
  · exact bodyA_e
  · have h := Nat.eq_of_beq_eq_true h; subst h; exact lex_within.rf_e n a H)
noncomputable def d49 (bd : B3) (call : FuncId → List V → Heap → Option R) (n : Nat) (f : FuncId) (a : List V) (H : Heap) : Option R := (bif Nat.beq f 44 then lex_digit.rf bd call n a H else bodyA C (fcall call) n f a H)
theorem d49_e (n : Nat) (f : FuncId) (a : List V) (H : Heap) : d49 @bdI (callA C n) n f a H = callA C (n + 1) f a H := by
  unfold d49
  exact (by
  cases h : Nat.beq f 44
  · exact bodyA_e
  · have h := Nat.eq_of_beq_eq_true h; subst h; exact lex_digit.rf_e n a H)
noncomputable def d50 (bd : B3) (call : FuncId → List V → Heap → Option R) (n : Nat) (f : FuncId) (a : List V) (H : Heap) : Option R := (bif Nat.ble f 43 then d48 bd call n f a H else d49 bd call n f a H)
theorem d50_e (n : Nat) (f : FuncId) (a : List V) (H : Heap) : d50 @bdI (callA C n) n f a H = callA C (n + 1) f a H := by
  unfold d50
  exact (by
  cases h : Nat.ble f 43
  · exact d49_e n f a H
  · exact d48_e n f a H)
noncomputable def d51 (bd : B3) (call : FuncId → List V → Heap → Option R) (n : Nat) (f : FuncId) (a : List V) (H : Heap) : Option R := (bif Nat.beq f 45 then strings_Builder_copyCheck.rf bd call n a H else bodyA C (fcall call) n f a H)
theorem d51_e (n : Nat) (f : FuncId) (a : List V) (H : Heap) : d51 @bdI (callA C n) n f a H = callA C (n + 1) f a H := by
  unfold d51
  exact (by
  cases h : Nat.beq f 45
  · exact bodyA_e
  · have h := Nat.eq_of_beq_eq_true h; subst h; exact strings_Builder_copyCheck.rf_e n a H)
noncomputable def d52 (bd : B3) (call : FuncId → List V → Heap → Option R) (n : Nat) (f : FuncId) (a : List V) (H : Heap) : Option R := (bif Nat.beq f 46 then strings_Builder_Grow.rf bd call n a H else bodyA C (fcall call) n f a H)
theorem d52_e (n : Nat) (f : FuncId) (a : List V) (H : Heap) : d52 @bdI (callA C n) n f a H = callA C (n + 1) f a H := by
  unfold d52
  exact (by
  cases h : Nat.beq f 46
  · exact bodyA_e
  · have h := Nat.eq_of_beq_eq_true h; subst h; exact strings_Builder_Grow.rf_e n a H)
noncomputable def d53 (bd : B3) (call : FuncId → List V → Heap → Option R) (n : Nat) (f : FuncId) (a : List V) (H : Heap) : Option R := (bif Nat.ble f 45 then d51 bd call n f a H else d52 bd call n f a H)
theorem d53_e (n : Nat) (f : FuncId) (a : List V) (H : Heap) : d53 @bdI (callA C n) n f a H = callA C (n + 1) f a H := by
  unfold d53
  exact (by
  cases h : Nat.ble f 45
  · exact d52_e n f a H
  · exact d51_e n f a H)
noncomputable def d54 (bd : B3) (call : FuncId → List V → Heap → Option R) (n : Nat) (f : FuncId) (a : List V) (H : Heap) : Option R := (bif Nat.ble f 44 then d50 bd call n f a H else d53 bd call n f a H)
theorem d54_e (n : Nat) (f : FuncId) (a : List V) (H : Heap) : d54 @bdI (callA C n) n f a H = callA C (n + 1) f a H := by
  unfold d54
  exact (by
  cases h : Nat.ble f 44
  · exact d53_e n f a H
  · exact d50_e n f a H)
noncomputable def d55 (bd : B3) (call : FuncId → List V → Heap → Option R) (n : Nat) (f : FuncId) (a : List V) (H : Heap) : Option R := (bif Nat.beq f 47 then session_Open.rf bd call n a H else bodyA C (fcall call) n f a H)
theorem d55_e (n : Nat) (f : FuncId) (a : List V) (H : Heap) : d55 @bdI (callA C n) n f a H = callA C (n + 1) f a H := by
  unfold d55
  exact (by
  cases h : Nat.beq f 47
  · exact bodyA_e
  · have h := Nat.eq_of_beq_eq_true h; subst h; exact session_Open.rf_e n a H)
noncomputable def d56 (bd : B3) (call : FuncId → List V → Heap → Option R) (n : Nat) (f : FuncId) (a : List V) (H : Heap) : Option R := (bif Nat.beq f 48 then shell_shell_done.rf bd call n a H else bodyA C (fcall call) n f a H)
theorem d56_e (n : Nat) (f : FuncId) (a : List V) (H : Heap) : d56 @bdI (callA C n) n f a H = callA C (n + 1) f a H := by
  unfold d56
  exact (by
  cases h : Nat.beq f 48
  · exact bodyA_e
  · have h := Nat.eq_of_beq_eq_true h; subst h; exact shell_shell_done.rf_e n a H)
noncomputable def d57 (bd : B3) (call : FuncId → List V → Heap → Option R) (n : Nat) (f : FuncId) (a : List V) (H : Heap) : Option R := (bif Nat.ble f 47 then d55 bd call n f a H else d56 bd call n f a H)
theorem d57_e (n : Nat) (f : FuncId) (a : List V) (H : Heap) : d57 @bdI (callA C n) n f a H = callA C (n + 1) f a H := by
  unfold d57
  exact (by
  cases h : Nat.ble f 47
  · exact d56_e n f a H
  · exact d55_e n f a H)
noncomputable def d58 (bd : B3) (call : FuncId → List V → Heap → Option R) (n : Nat) (f : FuncId) (a : List V) (H : Heap) : Option R := (bif Nat.beq f 49 then session_Session_Do.rf bd call n a H else bodyA C (fcall call) n f a H)
theorem d58_e (n : Nat) (f : FuncId) (a : List V) (H : Heap) : d58 @bdI (callA C n) n f a H = callA C (n + 1) f a H := by
  unfold d58
  exact (by
  cases h : Nat.beq f 49
  · exact bodyA_e
  · have h := Nat.eq_of_beq_eq_true h; subst h; exact session_Session_Do.rf_e n a H)
noncomputable def d59 (bd : B3) (call : FuncId → List V → Heap → Option R) (n : Nat) (f : FuncId) (a : List V) (H : Heap) : Option R := (bif Nat.beq f 50 then shell_num.rf bd call n a H else bodyA C (fcall call) n f a H)
theorem d59_e (n : Nat) (f : FuncId) (a : List V) (H : Heap) : d59 @bdI (callA C n) n f a H = callA C (n + 1) f a H := by
  unfold d59
  exact (by
  cases h : Nat.beq f 50
  · exact bodyA_e
  · have h := Nat.eq_of_beq_eq_true h; subst h; exact shell_num.rf_e n a H)
noncomputable def d60 (bd : B3) (call : FuncId → List V → Heap → Option R) (n : Nat) (f : FuncId) (a : List V) (H : Heap) : Option R := (bif Nat.beq f 51 then shell_shell_fails.rf bd call n a H else bodyA C (fcall call) n f a H)
theorem d60_e (n : Nat) (f : FuncId) (a : List V) (H : Heap) : d60 @bdI (callA C n) n f a H = callA C (n + 1) f a H := by
  unfold d60
  exact (by
  cases h : Nat.beq f 51
  · exact bodyA_e
  · have h := Nat.eq_of_beq_eq_true h; subst h; exact shell_shell_fails.rf_e n a H)
noncomputable def d61 (bd : B3) (call : FuncId → List V → Heap → Option R) (n : Nat) (f : FuncId) (a : List V) (H : Heap) : Option R := (bif Nat.ble f 50 then d59 bd call n f a H else d60 bd call n f a H)
theorem d61_e (n : Nat) (f : FuncId) (a : List V) (H : Heap) : d61 @bdI (callA C n) n f a H = callA C (n + 1) f a H := by
  unfold d61
  exact (by
  cases h : Nat.ble f 50
  · exact d60_e n f a H
  · exact d59_e n f a H)
noncomputable def d62 (bd : B3) (call : FuncId → List V → Heap → Option R) (n : Nat) (f : FuncId) (a : List V) (H : Heap) : Option R := (bif Nat.ble f 49 then d58 bd call n f a H else d61 bd call n f a H)
theorem d62_e (n : Nat) (f : FuncId) (a : List V) (H : Heap) : d62 @bdI (callA C n) n f a H = callA C (n + 1) f a H := by
  unfold d62
  exact (by
  cases h : Nat.ble f 49
  · exact d61_e n f a H
  · exact d58_e n f a H)
noncomputable def d63 (bd : B3) (call : FuncId → List V → Heap → Option R) (n : Nat) (f : FuncId) (a : List V) (H : Heap) : Option R := (bif Nat.ble f 48 then d57 bd call n f a H else d62 bd call n f a H)
theorem d63_e (n : Nat) (f : FuncId) (a : List V) (H : Heap) : d63 @bdI (callA C n) n f a H = callA C (n + 1) f a H := by
  unfold d63
  exact (by
  cases h : Nat.ble f 48
  · exact d62_e n f a H
  · exact d57_e n f a H)
noncomputable def d64 (bd : B3) (call : FuncId → List V → Heap → Option R) (n : Nat) (f : FuncId) (a : List V) (H : Heap) : Option R := (bif Nat.ble f 46 then d54 bd call n f a H else d63 bd call n f a H)
theorem d64_e (n : Nat) (f : FuncId) (a : List V) (H : Heap) : d64 @bdI (callA C n) n f a H = callA C (n + 1) f a H := by
  unfold d64
  exact (by
  cases h : Nat.ble f 46
  · exact d63_e n f a H
  · exact d54_e n f a H)
noncomputable def d65 (bd : B3) (call : FuncId → List V → Heap → Option R) (n : Nat) (f : FuncId) (a : List V) (H : Heap) : Option R := (bif Nat.ble f 39 then d47 bd call n f a H else d64 bd call n f a H)
theorem d65_e (n : Nat) (f : FuncId) (a : List V) (H : Heap) : d65 @bdI (callA C n) n f a H = callA C (n + 1) f a H := by
  unfold d65
  exact (by
  cases h : Nat.ble f 39
  · exact d64_e n f a H
  · exact d47_e n f a H)
noncomputable def d66 (bd : B3) (call : FuncId → List V → Heap → Option R) (n : Nat) (f : FuncId) (a : List V) (H : Heap) : Option R := (bif Nat.ble f 21 then d32 bd call n f a H else d65 bd call n f a H)
theorem d66_e (n : Nat) (f : FuncId) (a : List V) (H : Heap) : d66 @bdI (callA C n) n f a H = callA C (n + 1) f a H := by
  unfold d66
  exact (by
  cases h : Nat.ble f 21
  · exact d65_e n f a H
  · exact d32_e n f a H)
noncomputable def d67 (bd : B3) (call : FuncId → List V → Heap → Option R) (n : Nat) (f : FuncId) (a : List V) (H : Heap) : Option R := (bif Nat.beq f 58 then internal_stringslite_IndexByte.rf bd call n a H else bodyA C (fcall call) n f a H)
theorem d67_e (n : Nat) (f : FuncId) (a : List V) (H : Heap) : d67 @bdI (callA C n) n f a H = callA C (n + 1) f a H := by
  unfold d67
  exact (by
  cases h : Nat.beq f 58
  · exact bodyA_e
  · have h := Nat.eq_of_beq_eq_true h; subst h; exact internal_stringslite_IndexByte.rf_e n a H)
noncomputable def d68 (bd : B3) (call : FuncId → List V → Heap → Option R) (n : Nat) (f : FuncId) (a : List V) (H : Heap) : Option R := (bif Nat.beq f 65 then strings_Builder_grow.rf bd call n a H else bodyA C (fcall call) n f a H)
theorem d68_e (n : Nat) (f : FuncId) (a : List V) (H : Heap) : d68 @bdI (callA C n) n f a H = callA C (n + 1) f a H := by
  unfold d68
  exact (by
  cases h : Nat.beq f 65
  · exact bodyA_e
  · have h := Nat.eq_of_beq_eq_true h; subst h; exact strings_Builder_grow.rf_e n a H)
noncomputable def d69 (bd : B3) (call : FuncId → List V → Heap → Option R) (n : Nat) (f : FuncId) (a : List V) (H : Heap) : Option R := (bif Nat.ble f 58 then d67 bd call n f a H else d68 bd call n f a H)
theorem d69_e (n : Nat) (f : FuncId) (a : List V) (H : Heap) : d69 @bdI (callA C n) n f a H = callA C (n + 1) f a H := by
  unfold d69
  exact (by
  cases h : Nat.ble f 58
  · exact d68_e n f a H
  · exact d67_e n f a H)
noncomputable def d70 (bd : B3) (call : FuncId → List V → Heap → Option R) (n : Nat) (f : FuncId) (a : List V) (H : Heap) : Option R := (bif Nat.beq f 66 then session_open.rf bd call n a H else bodyA C (fcall call) n f a H)
theorem d70_e (n : Nat) (f : FuncId) (a : List V) (H : Heap) : d70 @bdI (callA C n) n f a H = callA C (n + 1) f a H := by
  unfold d70
  exact (by
  cases h : Nat.beq f 66
  · exact bodyA_e
  · have h := Nat.eq_of_beq_eq_true h; subst h; exact session_open.rf_e n a H)
noncomputable def d71 (bd : B3) (call : FuncId → List V → Heap → Option R) (n : Nat) (f : FuncId) (a : List V) (H : Heap) : Option R := (bif Nat.beq f 67 then session_Session_do.rf bd call n a H else bodyA C (fcall call) n f a H)
theorem d71_e (n : Nat) (f : FuncId) (a : List V) (H : Heap) : d71 @bdI (callA C n) n f a H = callA C (n + 1) f a H := by
  unfold d71
  exact (by
  cases h : Nat.beq f 67
  · exact bodyA_e
  · have h := Nat.eq_of_beq_eq_true h; subst h; exact session_Session_do.rf_e n a H)
noncomputable def d72 (bd : B3) (call : FuncId → List V → Heap → Option R) (n : Nat) (f : FuncId) (a : List V) (H : Heap) : Option R := (bif Nat.ble f 66 then d70 bd call n f a H else d71 bd call n f a H)
theorem d72_e (n : Nat) (f : FuncId) (a : List V) (H : Heap) : d72 @bdI (callA C n) n f a H = callA C (n + 1) f a H := by
  unfold d72
  exact (by
  cases h : Nat.ble f 66
  · exact d71_e n f a H
  · exact d70_e n f a H)
noncomputable def d73 (bd : B3) (call : FuncId → List V → Heap → Option R) (n : Nat) (f : FuncId) (a : List V) (H : Heap) : Option R := (bif Nat.ble f 65 then d69 bd call n f a H else d72 bd call n f a H)
theorem d73_e (n : Nat) (f : FuncId) (a : List V) (H : Heap) : d73 @bdI (callA C n) n f a H = callA C (n + 1) f a H := by
  unfold d73
  exact (by
  cases h : Nat.ble f 65
  · exact d72_e n f a H
  · exact d69_e n f a H)
noncomputable def d74 (bd : B3) (call : FuncId → List V → Heap → Option R) (n : Nat) (f : FuncId) (a : List V) (H : Heap) : Option R := (bif Nat.beq f 68 then strconv_Itoa.rf bd call n a H else bodyA C (fcall call) n f a H)
theorem d74_e (n : Nat) (f : FuncId) (a : List V) (H : Heap) : d74 @bdI (callA C n) n f a H = callA C (n + 1) f a H := by
  unfold d74
  exact (by
  cases h : Nat.beq f 68
  · exact bodyA_e
  · have h := Nat.eq_of_beq_eq_true h; subst h; exact strconv_Itoa.rf_e n a H)
noncomputable def d75 (bd : B3) (call : FuncId → List V → Heap → Option R) (n : Nat) (f : FuncId) (a : List V) (H : Heap) : Option R := (bif Nat.beq f 82 then pdt_Open.rf bd call n a H else bodyA C (fcall call) n f a H)
theorem d75_e (n : Nat) (f : FuncId) (a : List V) (H : Heap) : d75 @bdI (callA C n) n f a H = callA C (n + 1) f a H := by
  unfold d75
  exact (by
  cases h : Nat.beq f 82
  · exact bodyA_e
  · have h := Nat.eq_of_beq_eq_true h; subst h; exact pdt_Open.rf_e n a H)
noncomputable def d76 (bd : B3) (call : FuncId → List V → Heap → Option R) (n : Nat) (f : FuncId) (a : List V) (H : Heap) : Option R := (bif Nat.ble f 68 then d74 bd call n f a H else d75 bd call n f a H)
theorem d76_e (n : Nat) (f : FuncId) (a : List V) (H : Heap) : d76 @bdI (callA C n) n f a H = callA C (n + 1) f a H := by
  unfold d76
  exact (by
  cases h : Nat.ble f 68
  · exact d75_e n f a H
  · exact d74_e n f a H)
noncomputable def d77 (bd : B3) (call : FuncId → List V → Heap → Option R) (n : Nat) (f : FuncId) (a : List V) (H : Heap) : Option R := (bif Nat.beq f 83 then session_change.rf bd call n a H else bodyA C (fcall call) n f a H)
theorem d77_e (n : Nat) (f : FuncId) (a : List V) (H : Heap) : d77 @bdI (callA C n) n f a H = callA C (n + 1) f a H := by
  unfold d77
  exact (by
  cases h : Nat.beq f 83
  · exact bodyA_e
  · have h := Nat.eq_of_beq_eq_true h; subst h; exact session_change.rf_e n a H)
noncomputable def d78 (bd : B3) (call : FuncId → List V → Heap → Option R) (n : Nat) (f : FuncId) (a : List V) (H : Heap) : Option R := (bif Nat.beq f 84 then session_Session_changed.rf bd call n a H else bodyA C (fcall call) n f a H)
theorem d78_e (n : Nat) (f : FuncId) (a : List V) (H : Heap) : d78 @bdI (callA C n) n f a H = callA C (n + 1) f a H := by
  unfold d78
  exact (by
  cases h : Nat.beq f 84
  · exact bodyA_e
  · have h := Nat.eq_of_beq_eq_true h; subst h; exact session_Session_changed.rf_e n a H)
noncomputable def d79 (bd : B3) (call : FuncId → List V → Heap → Option R) (n : Nat) (f : FuncId) (a : List V) (H : Heap) : Option R := (bif Nat.ble f 83 then d77 bd call n f a H else d78 bd call n f a H)
theorem d79_e (n : Nat) (f : FuncId) (a : List V) (H : Heap) : d79 @bdI (callA C n) n f a H = callA C (n + 1) f a H := by
  unfold d79
  exact (by
  cases h : Nat.ble f 83
  · exact d78_e n f a H
  · exact d77_e n f a H)
noncomputable def d80 (bd : B3) (call : FuncId → List V → Heap → Option R) (n : Nat) (f : FuncId) (a : List V) (H : Heap) : Option R := (bif Nat.ble f 82 then d76 bd call n f a H else d79 bd call n f a H)
theorem d80_e (n : Nat) (f : FuncId) (a : List V) (H : Heap) : d80 @bdI (callA C n) n f a H = callA C (n + 1) f a H := by
  unfold d80
  exact (by
  cases h : Nat.ble f 82
  · exact d79_e n f a H
  · exact d76_e n f a H)
noncomputable def d81 (bd : B3) (call : FuncId → List V → Heap → Option R) (n : Nat) (f : FuncId) (a : List V) (H : Heap) : Option R := (bif Nat.ble f 67 then d73 bd call n f a H else d80 bd call n f a H)
theorem d81_e (n : Nat) (f : FuncId) (a : List V) (H : Heap) : d81 @bdI (callA C n) n f a H = callA C (n + 1) f a H := by
  unfold d81
  exact (by
  cases h : Nat.ble f 67
  · exact d80_e n f a H
  · exact d73_e n f a H)
noncomputable def d82 (bd : B3) (call : FuncId → List V → Heap → Option R) (n : Nat) (f : FuncId) (a : List V) (H : Heap) : Option R := (bif Nat.beq f 85 then session_look.rf bd call n a H else bodyA C (fcall call) n f a H)
theorem d82_e (n : Nat) (f : FuncId) (a : List V) (H : Heap) : d82 @bdI (callA C n) n f a H = callA C (n + 1) f a H := by
  unfold d82
  exact (by
  cases h : Nat.beq f 85
  · exact bodyA_e
  · have h := Nat.eq_of_beq_eq_true h; subst h; exact session_look.rf_e n a H)
noncomputable def d83 (bd : B3) (call : FuncId → List V → Heap → Option R) (n : Nat) (f : FuncId) (a : List V) (H : Heap) : Option R := (bif Nat.beq f 86 then session_Session_told.rf bd call n a H else bodyA C (fcall call) n f a H)
theorem d83_e (n : Nat) (f : FuncId) (a : List V) (H : Heap) : d83 @bdI (callA C n) n f a H = callA C (n + 1) f a H := by
  unfold d83
  exact (by
  cases h : Nat.beq f 86
  · exact bodyA_e
  · have h := Nat.eq_of_beq_eq_true h; subst h; exact session_Session_told.rf_e n a H)
noncomputable def d84 (bd : B3) (call : FuncId → List V → Heap → Option R) (n : Nat) (f : FuncId) (a : List V) (H : Heap) : Option R := (bif Nat.ble f 85 then d82 bd call n f a H else d83 bd call n f a H)
theorem d84_e (n : Nat) (f : FuncId) (a : List V) (H : Heap) : d84 @bdI (callA C n) n f a H = callA C (n + 1) f a H := by
  unfold d84
  exact (by
  cases h : Nat.ble f 85
  · exact d83_e n f a H
  · exact d82_e n f a H)
noncomputable def d85 (bd : B3) (call : FuncId → List V → Heap → Option R) (n : Nat) (f : FuncId) (a : List V) (H : Heap) : Option R := (bif Nat.beq f 87 then internal_strconv_Itoa.rf bd call n a H else bodyA C (fcall call) n f a H)
theorem d85_e (n : Nat) (f : FuncId) (a : List V) (H : Heap) : d85 @bdI (callA C n) n f a H = callA C (n + 1) f a H := by
  unfold d85
  exact (by
  cases h : Nat.beq f 87
  · exact bodyA_e
  · have h := Nat.eq_of_beq_eq_true h; subst h; exact internal_strconv_Itoa.rf_e n a H)
noncomputable def d86 (bd : B3) (call : FuncId → List V → Heap → Option R) (n : Nat) (f : FuncId) (a : List V) (H : Heap) : Option R := (bif Nat.beq f 100 then pdt_Engine_clear.rf bd call n a H else bodyA C (fcall call) n f a H)
theorem d86_e (n : Nat) (f : FuncId) (a : List V) (H : Heap) : d86 @bdI (callA C n) n f a H = callA C (n + 1) f a H := by
  unfold d86
  exact (by
  cases h : Nat.beq f 100
  · exact bodyA_e
  · have h := Nat.eq_of_beq_eq_true h; subst h; exact pdt_Engine_clear.rf_e n a H)
noncomputable def d87 (bd : B3) (call : FuncId → List V → Heap → Option R) (n : Nat) (f : FuncId) (a : List V) (H : Heap) : Option R := (bif Nat.ble f 87 then d85 bd call n f a H else d86 bd call n f a H)
theorem d87_e (n : Nat) (f : FuncId) (a : List V) (H : Heap) : d87 @bdI (callA C n) n f a H = callA C (n + 1) f a H := by
  unfold d87
  exact (by
  cases h : Nat.ble f 87
  · exact d86_e n f a H
  · exact d85_e n f a H)
noncomputable def d88 (bd : B3) (call : FuncId → List V → Heap → Option R) (n : Nat) (f : FuncId) (a : List V) (H : Heap) : Option R := (bif Nat.ble f 86 then d84 bd call n f a H else d87 bd call n f a H)
theorem d88_e (n : Nat) (f : FuncId) (a : List V) (H : Heap) : d88 @bdI (callA C n) n f a H = callA C (n + 1) f a H := by
  unfold d88
  exact (by
  cases h : Nat.ble f 86
  · exact d87_e n f a H
  · exact d84_e n f a H)
noncomputable def d89 (bd : B3) (call : FuncId → List V → Heap → Option R) (n : Nat) (f : FuncId) (a : List V) (H : Heap) : Option R := (bif Nat.beq f 101 then session_point.rf bd call n a H else bodyA C (fcall call) n f a H)
theorem d89_e (n : Nat) (f : FuncId) (a : List V) (H : Heap) : d89 @bdI (callA C n) n f a H = callA C (n + 1) f a H := by
  unfold d89
  exact (by
  cases h : Nat.beq f 101
  · exact bodyA_e
  · have h := Nat.eq_of_beq_eq_true h; subst h; exact session_point.rf_e n a H)
noncomputable def d90 (bd : B3) (call : FuncId → List V → Heap → Option R) (n : Nat) (f : FuncId) (a : List V) (H : Heap) : Option R := (bif Nat.beq f 102 then pdt_Engine_Insert.rf bd call n a H else bodyA C (fcall call) n f a H)
theorem d90_e (n : Nat) (f : FuncId) (a : List V) (H : Heap) : d90 @bdI (callA C n) n f a H = callA C (n + 1) f a H := by
  unfold d90
  exact (by
  cases h : Nat.beq f 102
  · exact bodyA_e
  · have h := Nat.eq_of_beq_eq_true h; subst h; exact pdt_Engine_Insert.rf_e n a H)
noncomputable def d91 (bd : B3) (call : FuncId → List V → Heap → Option R) (n : Nat) (f : FuncId) (a : List V) (H : Heap) : Option R := (bif Nat.ble f 101 then d89 bd call n f a H else d90 bd call n f a H)
theorem d91_e (n : Nat) (f : FuncId) (a : List V) (H : Heap) : d91 @bdI (callA C n) n f a H = callA C (n + 1) f a H := by
  unfold d91
  exact (by
  cases h : Nat.ble f 101
  · exact d90_e n f a H
  · exact d89_e n f a H)
noncomputable def d92 (bd : B3) (call : FuncId → List V → Heap → Option R) (n : Nat) (f : FuncId) (a : List V) (H : Heap) : Option R := (bif Nat.beq f 111 then pdt_Engine_Sheets.rf bd call n a H else bodyA C (fcall call) n f a H)
theorem d92_e (n : Nat) (f : FuncId) (a : List V) (H : Heap) : d92 @bdI (callA C n) n f a H = callA C (n + 1) f a H := by
  unfold d92
  exact (by
  cases h : Nat.beq f 111
  · exact bodyA_e
  · have h := Nat.eq_of_beq_eq_true h; subst h; exact pdt_Engine_Sheets.rf_e n a H)
noncomputable def d93 (bd : B3) (call : FuncId → List V → Heap → Option R) (n : Nat) (f : FuncId) (a : List V) (H : Heap) : Option R := (bif Nat.beq f 120 then mesh_Mesh_Dump.rf bd call n a H else bodyA C (fcall call) n f a H)
theorem d93_e (n : Nat) (f : FuncId) (a : List V) (H : Heap) : d93 @bdI (callA C n) n f a H = callA C (n + 1) f a H := by
  unfold d93
  exact (by
  cases h : Nat.beq f 120
  · exact bodyA_e
  · have h := Nat.eq_of_beq_eq_true h; subst h; exact mesh_Mesh_Dump.rf_e n a H)
noncomputable def d94 (bd : B3) (call : FuncId → List V → Heap → Option R) (n : Nat) (f : FuncId) (a : List V) (H : Heap) : Option R := (bif Nat.beq f 121 then lift_Home.rf bd call n a H else bodyA C (fcall call) n f a H)
theorem d94_e (n : Nat) (f : FuncId) (a : List V) (H : Heap) : d94 @bdI (callA C n) n f a H = callA C (n + 1) f a H := by
  unfold d94
  exact (by
  cases h : Nat.beq f 121
  · exact bodyA_e
  · have h := Nat.eq_of_beq_eq_true h; subst h; exact lift_Home.rf_e n a H)
noncomputable def d95 (bd : B3) (call : FuncId → List V → Heap → Option R) (n : Nat) (f : FuncId) (a : List V) (H : Heap) : Option R := (bif Nat.ble f 120 then d93 bd call n f a H else d94 bd call n f a H)
theorem d95_e (n : Nat) (f : FuncId) (a : List V) (H : Heap) : d95 @bdI (callA C n) n f a H = callA C (n + 1) f a H := by
  unfold d95
  exact (by
  cases h : Nat.ble f 120
  · exact d94_e n f a H
  · exact d93_e n f a H)
noncomputable def d96 (bd : B3) (call : FuncId → List V → Heap → Option R) (n : Nat) (f : FuncId) (a : List V) (H : Heap) : Option R := (bif Nat.ble f 111 then d92 bd call n f a H else d95 bd call n f a H)
theorem d96_e (n : Nat) (f : FuncId) (a : List V) (H : Heap) : d96 @bdI (callA C n) n f a H = callA C (n + 1) f a H := by
  unfold d96
  exact (by
  cases h : Nat.ble f 111
  · exact d95_e n f a H
  · exact d92_e n f a H)
noncomputable def d97 (bd : B3) (call : FuncId → List V → Heap → Option R) (n : Nat) (f : FuncId) (a : List V) (H : Heap) : Option R := (bif Nat.ble f 102 then d91 bd call n f a H else d96 bd call n f a H)
theorem d97_e (n : Nat) (f : FuncId) (a : List V) (H : Heap) : d97 @bdI (callA C n) n f a H = callA C (n + 1) f a H := by
  unfold d97
  exact (by
  cases h : Nat.ble f 102
  · exact d96_e n f a H
  · exact d91_e n f a H)
noncomputable def d98 (bd : B3) (call : FuncId → List V → Heap → Option R) (n : Nat) (f : FuncId) (a : List V) (H : Heap) : Option R := (bif Nat.ble f 100 then d88 bd call n f a H else d97 bd call n f a H)
theorem d98_e (n : Nat) (f : FuncId) (a : List V) (H : Heap) : d98 @bdI (callA C n) n f a H = callA C (n + 1) f a H := by
  unfold d98
  exact (by
  cases h : Nat.ble f 100
  · exact d97_e n f a H
  · exact d88_e n f a H)
noncomputable def d99 (bd : B3) (call : FuncId → List V → Heap → Option R) (n : Nat) (f : FuncId) (a : List V) (H : Heap) : Option R := (bif Nat.ble f 84 then d81 bd call n f a H else d98 bd call n f a H)
theorem d99_e (n : Nat) (f : FuncId) (a : List V) (H : Heap) : d99 @bdI (callA C n) n f a H = callA C (n + 1) f a H := by
  unfold d99
  exact (by
  cases h : Nat.ble f 84
  · exact d98_e n f a H
  · exact d81_e n f a H)
noncomputable def d100 (bd : B3) (call : FuncId → List V → Heap → Option R) (n : Nat) (f : FuncId) (a : List V) (H : Heap) : Option R := (bif Nat.beq f 123 then pred_Dist2.rf bd call n a H else bodyA C (fcall call) n f a H)
theorem d100_e (n : Nat) (f : FuncId) (a : List V) (H : Heap) : d100 @bdI (callA C n) n f a H = callA C (n + 1) f a H := by
  unfold d100
  exact (by
  cases h : Nat.beq f 123
  · exact bodyA_e
  · have h := Nat.eq_of_beq_eq_true h; subst h; exact pred_Dist2.rf_e n a H)
noncomputable def d101 (bd : B3) (call : FuncId → List V → Heap → Option R) (n : Nat) (f : FuncId) (a : List V) (H : Heap) : Option R := (bif Nat.beq f 124 then wide_sub.rf bd call n a H else bodyA C (fcall call) n f a H)
theorem d101_e (n : Nat) (f : FuncId) (a : List V) (H : Heap) : d101 @bdI (callA C n) n f a H = callA C (n + 1) f a H := by
  unfold d101
  exact (by
  cases h : Nat.beq f 124
  · exact bodyA_e
  · have h := Nat.eq_of_beq_eq_true h; subst h; exact wide_sub.rf_e n a H)
noncomputable def d102 (bd : B3) (call : FuncId → List V → Heap → Option R) (n : Nat) (f : FuncId) (a : List V) (H : Heap) : Option R := (bif Nat.ble f 123 then d100 bd call n f a H else d101 bd call n f a H)
theorem d102_e (n : Nat) (f : FuncId) (a : List V) (H : Heap) : d102 @bdI (callA C n) n f a H = callA C (n + 1) f a H := by
  unfold d102
  exact (by
  cases h : Nat.ble f 123
  · exact d101_e n f a H
  · exact d100_e n f a H)
noncomputable def d103 (bd : B3) (call : FuncId → List V → Heap → Option R) (n : Nat) (f : FuncId) (a : List V) (H : Heap) : Option R := (bif Nat.beq f 133 then pdt_lay.rf bd call n a H else bodyA C (fcall call) n f a H)
theorem d103_e (n : Nat) (f : FuncId) (a : List V) (H : Heap) : d103 @bdI (callA C n) n f a H = callA C (n + 1) f a H := by
  unfold d103
  exact (by
  cases h : Nat.beq f 133
  · exact bodyA_e
  · have h := Nat.eq_of_beq_eq_true h; subst h; exact pdt_lay.rf_e n a H)
noncomputable def d104 (bd : B3) (call : FuncId → List V → Heap → Option R) (n : Nat) (f : FuncId) (a : List V) (H : Heap) : Option R := (bif Nat.beq f 134 then mesh_New.rf bd call n a H else bodyA C (fcall call) n f a H)
theorem d104_e (n : Nat) (f : FuncId) (a : List V) (H : Heap) : d104 @bdI (callA C n) n f a H = callA C (n + 1) f a H := by
  unfold d104
  exact (by
  cases h : Nat.beq f 134
  · exact bodyA_e
  · have h := Nat.eq_of_beq_eq_true h; subst h; exact mesh_New.rf_e n a H)
noncomputable def d105 (bd : B3) (call : FuncId → List V → Heap → Option R) (n : Nat) (f : FuncId) (a : List V) (H : Heap) : Option R := (bif Nat.ble f 133 then d103 bd call n f a H else d104 bd call n f a H)
theorem d105_e (n : Nat) (f : FuncId) (a : List V) (H : Heap) : d105 @bdI (callA C n) n f a H = callA C (n + 1) f a H := by
  unfold d105
  exact (by
  cases h : Nat.ble f 133
  · exact d104_e n f a H
  · exact d103_e n f a H)
noncomputable def d106 (bd : B3) (call : FuncId → List V → Heap → Option R) (n : Nat) (f : FuncId) (a : List V) (H : Heap) : Option R := (bif Nat.ble f 124 then d102 bd call n f a H else d105 bd call n f a H)
theorem d106_e (n : Nat) (f : FuncId) (a : List V) (H : Heap) : d106 @bdI (callA C n) n f a H = callA C (n + 1) f a H := by
  unfold d106
  exact (by
  cases h : Nat.ble f 124
  · exact d105_e n f a H
  · exact d102_e n f a H)
noncomputable def d107 (bd : B3) (call : FuncId → List V → Heap → Option R) (n : Nat) (f : FuncId) (a : List V) (H : Heap) : Option R := (bif Nat.beq f 135 then pdt_Engine_site.rf bd call n a H else bodyA C (fcall call) n f a H)
theorem d107_e (n : Nat) (f : FuncId) (a : List V) (H : Heap) : d107 @bdI (callA C n) n f a H = callA C (n + 1) f a H := by
  unfold d107
  exact (by
  cases h : Nat.beq f 135
  · exact bodyA_e
  · have h := Nat.eq_of_beq_eq_true h; subst h; exact pdt_Engine_site.rf_e n a H)
noncomputable def d108 (bd : B3) (call : FuncId → List V → Heap → Option R) (n : Nat) (f : FuncId) (a : List V) (H : Heap) : Option R := (bif Nat.beq f 147 then internal_strconv_small.rf bd call n a H else bodyA C (fcall call) n f a H)
theorem d108_e (n : Nat) (f : FuncId) (a : List V) (H : Heap) : d108 @bdI (callA C n) n f a H = callA C (n + 1) f a H := by
  unfold d108
  exact (by
  cases h : Nat.beq f 147
  · exact bodyA_e
  · have h := Nat.eq_of_beq_eq_true h; subst h; exact internal_strconv_small.rf_e n a H)
noncomputable def d109 (bd : B3) (call : FuncId → List V → Heap → Option R) (n : Nat) (f : FuncId) (a : List V) (H : Heap) : Option R := (bif Nat.ble f 135 then d107 bd call n f a H else d108 bd call n f a H)
theorem d109_e (n : Nat) (f : FuncId) (a : List V) (H : Heap) : d109 @bdI (callA C n) n f a H = callA C (n + 1) f a H := by
  unfold d109
  exact (by
  cases h : Nat.ble f 135
  · exact d108_e n f a H
  · exact d107_e n f a H)
noncomputable def d110 (bd : B3) (call : FuncId → List V → Heap → Option R) (n : Nat) (f : FuncId) (a : List V) (H : Heap) : Option R := (bif Nat.beq f 159 then math_bits_Len32.rf bd call n a H else bodyA C (fcall call) n f a H)
theorem d110_e (n : Nat) (f : FuncId) (a : List V) (H : Heap) : d110 @bdI (callA C n) n f a H = callA C (n + 1) f a H := by
  unfold d110
  exact (by
  cases h : Nat.beq f 159
  · exact bodyA_e
  · have h := Nat.eq_of_beq_eq_true h; subst h; exact math_bits_Len32.rf_e n a H)
noncomputable def d111 (bd : B3) (call : FuncId → List V → Heap → Option R) (n : Nat) (f : FuncId) (a : List V) (H : Heap) : Option R := (bif Nat.beq f 164 then arena_Arena_All.rf bd call n a H else bodyA C (fcall call) n f a H)
theorem d111_e (n : Nat) (f : FuncId) (a : List V) (H : Heap) : d111 @bdI (callA C n) n f a H = callA C (n + 1) f a H := by
  unfold d111
  exact (by
  cases h : Nat.beq f 164
  · exact bodyA_e
  · have h := Nat.eq_of_beq_eq_true h; subst h; exact arena_Arena_All.rf_e n a H)
noncomputable def d112 (bd : B3) (call : FuncId → List V → Heap → Option R) (n : Nat) (f : FuncId) (a : List V) (H : Heap) : Option R := (bif Nat.beq f 165 then lift_torus.rf bd call n a H else bodyA C (fcall call) n f a H)
theorem d112_e (n : Nat) (f : FuncId) (a : List V) (H : Heap) : d112 @bdI (callA C n) n f a H = callA C (n + 1) f a H := by
  unfold d112
  exact (by
  cases h : Nat.beq f 165
  · exact bodyA_e
  · have h := Nat.eq_of_beq_eq_true h; subst h; exact lift_torus.rf_e n a H)
noncomputable def d113 (bd : B3) (call : FuncId → List V → Heap → Option R) (n : Nat) (f : FuncId) (a : List V) (H : Heap) : Option R := (bif Nat.ble f 164 then d111 bd call n f a H else d112 bd call n f a H)
theorem d113_e (n : Nat) (f : FuncId) (a : List V) (H : Heap) : d113 @bdI (callA C n) n f a H = callA C (n + 1) f a H := by
  unfold d113
  exact (by
  cases h : Nat.ble f 164
  · exact d112_e n f a H
  · exact d111_e n f a H)
noncomputable def d114 (bd : B3) (call : FuncId → List V → Heap → Option R) (n : Nat) (f : FuncId) (a : List V) (H : Heap) : Option R := (bif Nat.ble f 159 then d110 bd call n f a H else d113 bd call n f a H)
theorem d114_e (n : Nat) (f : FuncId) (a : List V) (H : Heap) : d114 @bdI (callA C n) n f a H = callA C (n + 1) f a H := by
  unfold d114
  exact (by
  cases h : Nat.ble f 159
  · exact d113_e n f a H
  · exact d110_e n f a H)
noncomputable def d115 (bd : B3) (call : FuncId → List V → Heap → Option R) (n : Nat) (f : FuncId) (a : List V) (H : Heap) : Option R := (bif Nat.ble f 147 then d109 bd call n f a H else d114 bd call n f a H)
theorem d115_e (n : Nat) (f : FuncId) (a : List V) (H : Heap) : d115 @bdI (callA C n) n f a H = callA C (n + 1) f a H := by
  unfold d115
  exact (by
  cases h : Nat.ble f 147
  · exact d114_e n f a H
  · exact d109_e n f a H)
noncomputable def d116 (bd : B3) (call : FuncId → List V → Heap → Option R) (n : Nat) (f : FuncId) (a : List V) (H : Heap) : Option R := (bif Nat.ble f 134 then d106 bd call n f a H else d115 bd call n f a H)
theorem d116_e (n : Nat) (f : FuncId) (a : List V) (H : Heap) : d116 @bdI (callA C n) n f a H = callA C (n + 1) f a H := by
  unfold d116
  exact (by
  cases h : Nat.ble f 134
  · exact d115_e n f a H
  · exact d106_e n f a H)
noncomputable def d117 (bd : B3) (call : FuncId → List V → Heap → Option R) (n : Nat) (f : FuncId) (a : List V) (H : Heap) : Option R := (bif Nat.beq f 166 then lift_can.rf bd call n a H else bodyA C (fcall call) n f a H)
theorem d117_e (n : Nat) (f : FuncId) (a : List V) (H : Heap) : d117 @bdI (callA C n) n f a H = callA C (n + 1) f a H := by
  unfold d117
  exact (by
  cases h : Nat.beq f 166
  · exact bodyA_e
  · have h := Nat.eq_of_beq_eq_true h; subst h; exact lift_can.rf_e n a H)
noncomputable def d118 (bd : B3) (call : FuncId → List V → Heap → Option R) (n : Nat) (f : FuncId) (a : List V) (H : Heap) : Option R := (bif Nat.beq f 167 then lift_part.rf bd call n a H else bodyA C (fcall call) n f a H)
theorem d118_e (n : Nat) (f : FuncId) (a : List V) (H : Heap) : d118 @bdI (callA C n) n f a H = callA C (n + 1) f a H := by
  unfold d118
  exact (by
  cases h : Nat.beq f 167
  · exact bodyA_e
  · have h := Nat.eq_of_beq_eq_true h; subst h; exact lift_part.rf_e n a H)
noncomputable def d119 (bd : B3) (call : FuncId → List V → Heap → Option R) (n : Nat) (f : FuncId) (a : List V) (H : Heap) : Option R := (bif Nat.ble f 166 then d117 bd call n f a H else d118 bd call n f a H)
theorem d119_e (n : Nat) (f : FuncId) (a : List V) (H : Heap) : d119 @bdI (callA C n) n f a H = callA C (n + 1) f a H := by
  unfold d119
  exact (by
  cases h : Nat.ble f 166
  · exact d118_e n f a H
  · exact d117_e n f a H)
noncomputable def d120 (bd : B3) (call : FuncId → List V → Heap → Option R) (n : Nat) (f : FuncId) (a : List V) (H : Heap) : Option R := (bif Nat.beq f 168 then lift_at.rf bd call n a H else bodyA C (fcall call) n f a H)
theorem d120_e (n : Nat) (f : FuncId) (a : List V) (H : Heap) : d120 @bdI (callA C n) n f a H = callA C (n + 1) f a H := by
  unfold d120
  exact (by
  cases h : Nat.beq f 168
  · exact bodyA_e
  · have h := Nat.eq_of_beq_eq_true h; subst h; exact lift_at.rf_e n a H)
noncomputable def d121 (bd : B3) (call : FuncId → List V → Heap → Option R) (n : Nat) (f : FuncId) (a : List V) (H : Heap) : Option R := (bif Nat.beq f 169 then pred_can.rf bd call n a H else bodyA C (fcall call) n f a H)
theorem d121_e (n : Nat) (f : FuncId) (a : List V) (H : Heap) : d121 @bdI (callA C n) n f a H = callA C (n + 1) f a H := by
  unfold d121
  exact (by
  cases h : Nat.beq f 169
  · exact bodyA_e
  · have h := Nat.eq_of_beq_eq_true h; subst h; exact pred_can.rf_e n a H)
noncomputable def d122 (bd : B3) (call : FuncId → List V → Heap → Option R) (n : Nat) (f : FuncId) (a : List V) (H : Heap) : Option R := (bif Nat.ble f 168 then d120 bd call n f a H else d121 bd call n f a H)
theorem d122_e (n : Nat) (f : FuncId) (a : List V) (H : Heap) : d122 @bdI (callA C n) n f a H = callA C (n + 1) f a H := by
  unfold d122
  exact (by
  cases h : Nat.ble f 168
  · exact d121_e n f a H
  · exact d120_e n f a H)
noncomputable def d123 (bd : B3) (call : FuncId → List V → Heap → Option R) (n : Nat) (f : FuncId) (a : List V) (H : Heap) : Option R := (bif Nat.ble f 167 then d119 bd call n f a H else d122 bd call n f a H)
theorem d123_e (n : Nat) (f : FuncId) (a : List V) (H : Heap) : d123 @bdI (callA C n) n f a H = callA C (n + 1) f a H := by
  unfold d123
  exact (by
  cases h : Nat.ble f 167
  · exact d122_e n f a H
  · exact d119_e n f a H)
noncomputable def d124 (bd : B3) (call : FuncId → List V → Heap → Option R) (n : Nat) (f : FuncId) (a : List V) (H : Heap) : Option R := (bif Nat.beq f 170 then pred_square.rf bd call n a H else bodyA C (fcall call) n f a H)
theorem d124_e (n : Nat) (f : FuncId) (a : List V) (H : Heap) : d124 @bdI (callA C n) n f a H = callA C (n + 1) f a H := by
  unfold d124
  exact (by
  cases h : Nat.beq f 170
  · exact bodyA_e
  · have h := Nat.eq_of_beq_eq_true h; subst h; exact pred_square.rf_e n a H)
noncomputable def d125 (bd : B3) (call : FuncId → List V → Heap → Option R) (n : Nat) (f : FuncId) (a : List V) (H : Heap) : Option R := (bif Nat.beq f 171 then pred_way.rf bd call n a H else bodyA C (fcall call) n f a H)
theorem d125_e (n : Nat) (f : FuncId) (a : List V) (H : Heap) : d125 @bdI (callA C n) n f a H = callA C (n + 1) f a H := by
  unfold d125
  exact (by
  cases h : Nat.beq f 171
  · exact bodyA_e
  · have h := Nat.eq_of_beq_eq_true h; subst h; exact pred_way.rf_e n a H)
noncomputable def d126 (bd : B3) (call : FuncId → List V → Heap → Option R) (n : Nat) (f : FuncId) (a : List V) (H : Heap) : Option R := (bif Nat.ble f 170 then d124 bd call n f a H else d125 bd call n f a H)
theorem d126_e (n : Nat) (f : FuncId) (a : List V) (H : Heap) : d126 @bdI (callA C n) n f a H = callA C (n + 1) f a H := by
  unfold d126
  exact (by
  cases h : Nat.ble f 170
  · exact d125_e n f a H
  · exact d124_e n f a H)
noncomputable def d127 (bd : B3) (call : FuncId → List V → Heap → Option R) (n : Nat) (f : FuncId) (a : List V) (H : Heap) : Option R := (bif Nat.beq f 184 then lift_At.rf bd call n a H else bodyA C (fcall call) n f a H)
theorem d127_e (n : Nat) (f : FuncId) (a : List V) (H : Heap) : d127 @bdI (callA C n) n f a H = callA C (n + 1) f a H := by
  unfold d127
  exact (by
  cases h : Nat.beq f 184
  · exact bodyA_e
  · have h := Nat.eq_of_beq_eq_true h; subst h; exact lift_At.rf_e n a H)
noncomputable def d128 (bd : B3) (call : FuncId → List V → Heap → Option R) (n : Nat) (f : FuncId) (a : List V) (H : Heap) : Option R := (bif Nat.beq f 189 then nat_Cmp.rf bd call n a H else bodyA C (fcall call) n f a H)
theorem d128_e (n : Nat) (f : FuncId) (a : List V) (H : Heap) : d128 @bdI (callA C n) n f a H = callA C (n + 1) f a H := by
  unfold d128
  exact (by
  cases h : Nat.beq f 189
  · exact bodyA_e
  · have h := Nat.eq_of_beq_eq_true h; subst h; exact nat_Cmp.rf_e n a H)
noncomputable def d129 (bd : B3) (call : FuncId → List V → Heap → Option R) (n : Nat) (f : FuncId) (a : List V) (H : Heap) : Option R := (bif Nat.beq f 192 then bucket_New.rf bd call n a H else bodyA C (fcall call) n f a H)
theorem d129_e (n : Nat) (f : FuncId) (a : List V) (H : Heap) : d129 @bdI (callA C n) n f a H = callA C (n + 1) f a H := by
  unfold d129
  exact (by
  cases h : Nat.beq f 192
  · exact bodyA_e
  · have h := Nat.eq_of_beq_eq_true h; subst h; exact bucket_New.rf_e n a H)
noncomputable def d130 (bd : B3) (call : FuncId → List V → Heap → Option R) (n : Nat) (f : FuncId) (a : List V) (H : Heap) : Option R := (bif Nat.ble f 189 then d128 bd call n f a H else d129 bd call n f a H)
theorem d130_e (n : Nat) (f : FuncId) (a : List V) (H : Heap) : d130 @bdI (callA C n) n f a H = callA C (n + 1) f a H := by
  unfold d130
  exact (by
  cases h : Nat.ble f 189
  · exact d129_e n f a H
  · exact d128_e n f a H)
noncomputable def d131 (bd : B3) (call : FuncId → List V → Heap → Option R) (n : Nat) (f : FuncId) (a : List V) (H : Heap) : Option R := (bif Nat.ble f 184 then d127 bd call n f a H else d130 bd call n f a H)
theorem d131_e (n : Nat) (f : FuncId) (a : List V) (H : Heap) : d131 @bdI (callA C n) n f a H = callA C (n + 1) f a H := by
  unfold d131
  exact (by
  cases h : Nat.ble f 184
  · exact d130_e n f a H
  · exact d127_e n f a H)
noncomputable def d132 (bd : B3) (call : FuncId → List V → Heap → Option R) (n : Nat) (f : FuncId) (a : List V) (H : Heap) : Option R := (bif Nat.ble f 171 then d126 bd call n f a H else d131 bd call n f a H)
theorem d132_e (n : Nat) (f : FuncId) (a : List V) (H : Heap) : d132 @bdI (callA C n) n f a H = callA C (n + 1) f a H := by
  unfold d132
  exact (by
  cases h : Nat.ble f 171
  · exact d131_e n f a H
  · exact d126_e n f a H)
noncomputable def d133 (bd : B3) (call : FuncId → List V → Heap → Option R) (n : Nat) (f : FuncId) (a : List V) (H : Heap) : Option R := (bif Nat.ble f 169 then d123 bd call n f a H else d132 bd call n f a H)
theorem d133_e (n : Nat) (f : FuncId) (a : List V) (H : Heap) : d133 @bdI (callA C n) n f a H = callA C (n + 1) f a H := by
  unfold d133
  exact (by
  cases h : Nat.ble f 169
  · exact d132_e n f a H
  · exact d123_e n f a H)
noncomputable def d134 (bd : B3) (call : FuncId → List V → Heap → Option R) (n : Nat) (f : FuncId) (a : List V) (H : Heap) : Option R := (bif Nat.ble f 165 then d116 bd call n f a H else d133 bd call n f a H)
theorem d134_e (n : Nat) (f : FuncId) (a : List V) (H : Heap) : d134 @bdI (callA C n) n f a H = callA C (n + 1) f a H := by
  unfold d134
  exact (by
  cases h : Nat.ble f 165
  · exact d133_e n f a H
  · exact d116_e n f a H)
noncomputable def d135 (bd : B3) (call : FuncId → List V → Heap → Option R) (n : Nat) (f : FuncId) (a : List V) (H : Heap) : Option R := (bif Nat.ble f 121 then d99 bd call n f a H else d134 bd call n f a H)
theorem d135_e (n : Nat) (f : FuncId) (a : List V) (H : Heap) : d135 @bdI (callA C n) n f a H = callA C (n + 1) f a H := by
  unfold d135
  exact (by
  cases h : Nat.ble f 121
  · exact d134_e n f a H
  · exact d99_e n f a H)
noncomputable def d136 (bd : B3) (call : FuncId → List V → Heap → Option R) (n : Nat) (f : FuncId) (a : List V) (H : Heap) : Option R := (bif Nat.ble f 51 then d66 bd call n f a H else d135 bd call n f a H)
theorem d136_e (n : Nat) (f : FuncId) (a : List V) (H : Heap) : d136 @bdI (callA C n) n f a H = callA C (n + 1) f a H := by
  unfold d136
  exact (by
  cases h : Nat.ble f 51
  · exact d135_e n f a H
  · exact d66_e n f a H)
noncomputable def d137 (bd : B3) (call : FuncId → List V → Heap → Option R) (n : Nat) (f : FuncId) (a : List V) (H : Heap) : Option R := (bif Nat.beq f 193 then mesh_Mesh_Side.rf bd call n a H else bodyA C (fcall call) n f a H)
theorem d137_e (n : Nat) (f : FuncId) (a : List V) (H : Heap) : d137 @bdI (callA C n) n f a H = callA C (n + 1) f a H := by
  unfold d137
  exact (by
  cases h : Nat.beq f 193
  · exact bodyA_e
  · have h := Nat.eq_of_beq_eq_true h; subst h; exact mesh_Mesh_Side.rf_e n a H)
noncomputable def d138 (bd : B3) (call : FuncId → List V → Heap → Option R) (n : Nat) (f : FuncId) (a : List V) (H : Heap) : Option R := (bif Nat.beq f 194 then bucket_Grid_Put.rf bd call n a H else bodyA C (fcall call) n f a H)
theorem d138_e (n : Nat) (f : FuncId) (a : List V) (H : Heap) : d138 @bdI (callA C n) n f a H = callA C (n + 1) f a H := by
  unfold d138
  exact (by
  cases h : Nat.beq f 194
  · exact bodyA_e
  · have h := Nat.eq_of_beq_eq_true h; subst h; exact bucket_Grid_Put.rf_e n a H)
noncomputable def d139 (bd : B3) (call : FuncId → List V → Heap → Option R) (n : Nat) (f : FuncId) (a : List V) (H : Heap) : Option R := (bif Nat.ble f 193 then d137 bd call n f a H else d138 bd call n f a H)
theorem d139_e (n : Nat) (f : FuncId) (a : List V) (H : Heap) : d139 @bdI (callA C n) n f a H = callA C (n + 1) f a H := by
  unfold d139
  exact (by
  cases h : Nat.ble f 193
  · exact d138_e n f a H
  · exact d137_e n f a H)
noncomputable def d140 (bd : B3) (call : FuncId → List V → Heap → Option R) (n : Nat) (f : FuncId) (a : List V) (H : Heap) : Option R := (bif Nat.beq f 195 then pdt_sheet_count.rf bd call n a H else bodyA C (fcall call) n f a H)
theorem d140_e (n : Nat) (f : FuncId) (a : List V) (H : Heap) : d140 @bdI (callA C n) n f a H = callA C (n + 1) f a H := by
  unfold d140
  exact (by
  cases h : Nat.beq f 195
  · exact bodyA_e
  · have h := Nat.eq_of_beq_eq_true h; subst h; exact pdt_sheet_count.rf_e n a H)
noncomputable def d141 (bd : B3) (call : FuncId → List V → Heap → Option R) (n : Nat) (f : FuncId) (a : List V) (H : Heap) : Option R := (bif Nat.beq f 196 then arena_New.rf bd call n a H else bodyA C (fcall call) n f a H)
theorem d141_e (n : Nat) (f : FuncId) (a : List V) (H : Heap) : d141 @bdI (callA C n) n f a H = callA C (n + 1) f a H := by
  unfold d141
  exact (by
  cases h : Nat.beq f 196
  · exact bodyA_e
  · have h := Nat.eq_of_beq_eq_true h; subst h; exact arena_New.rf_e n a H)
noncomputable def d142 (bd : B3) (call : FuncId → List V → Heap → Option R) (n : Nat) (f : FuncId) (a : List V) (H : Heap) : Option R := (bif Nat.ble f 195 then d140 bd call n f a H else d141 bd call n f a H)
theorem d142_e (n : Nat) (f : FuncId) (a : List V) (H : Heap) : d142 @bdI (callA C n) n f a H = callA C (n + 1) f a H := by
  unfold d142
  exact (by
  cases h : Nat.ble f 195
  · exact d141_e n f a H
  · exact d140_e n f a H)
noncomputable def d143 (bd : B3) (call : FuncId → List V → Heap → Option R) (n : Nat) (f : FuncId) (a : List V) (H : Heap) : Option R := (bif Nat.ble f 194 then d139 bd call n f a H else d142 bd call n f a H)
theorem d143_e (n : Nat) (f : FuncId) (a : List V) (H : Heap) : d143 @bdI (callA C n) n f a H = callA C (n + 1) f a H := by
  unfold d143
  exact (by
  cases h : Nat.ble f 194
  · exact d142_e n f a H
  · exact d139_e n f a H)
noncomputable def d144 (bd : B3) (call : FuncId → List V → Heap → Option R) (n : Nat) (f : FuncId) (a : List V) (H : Heap) : Option R := (bif Nat.beq f 197 then pdt_Engine_first.rf bd call n a H else bodyA C (fcall call) n f a H)
theorem d144_e (n : Nat) (f : FuncId) (a : List V) (H : Heap) : d144 @bdI (callA C n) n f a H = callA C (n + 1) f a H := by
  unfold d144
  exact (by
  cases h : Nat.beq f 197
  · exact bodyA_e
  · have h := Nat.eq_of_beq_eq_true h; subst h; exact pdt_Engine_first.rf_e n a H)
noncomputable def d145 (bd : B3) (call : FuncId → List V → Heap → Option R) (n : Nat) (f : FuncId) (a : List V) (H : Heap) : Option R := (bif Nat.beq f 199 then pdt_Engine_fewer.rf bd call n a H else bodyA C (fcall call) n f a H)
theorem d145_e (n : Nat) (f : FuncId) (a : List V) (H : Heap) : d145 @bdI (callA C n) n f a H = callA C (n + 1) f a H := by
  unfold d145
  exact (by
  cases h : Nat.beq f 199
  · exact bodyA_e
  · have h := Nat.eq_of_beq_eq_true h; subst h; exact pdt_Engine_fewer.rf_e n a H)
noncomputable def d146 (bd : B3) (call : FuncId → List V → Heap → Option R) (n : Nat) (f : FuncId) (a : List V) (H : Heap) : Option R := (bif Nat.ble f 197 then d144 bd call n f a H else d145 bd call n f a H)
theorem d146_e (n : Nat) (f : FuncId) (a : List V) (H : Heap) : d146 @bdI (callA C n) n f a H = callA C (n + 1) f a H := by
  unfold d146
  exact (by
  cases h : Nat.ble f 197
  · exact d145_e n f a H
  · exact d144_e n f a H)
noncomputable def d147 (bd : B3) (call : FuncId → List V → Heap → Option R) (n : Nat) (f : FuncId) (a : List V) (H : Heap) : Option R := (bif Nat.beq f 237 then arena_Arena_live.rf bd call n a H else bodyA C (fcall call) n f a H)
theorem d147_e (n : Nat) (f : FuncId) (a : List V) (H : Heap) : d147 @bdI (callA C n) n f a H = callA C (n + 1) f a H := by
  unfold d147
  exact (by
  cases h : Nat.beq f 237
  · exact bodyA_e
  · have h := Nat.eq_of_beq_eq_true h; subst h; exact arena_Arena_live.rf_e n a H)
noncomputable def d148 (bd : B3) (call : FuncId → List V → Heap → Option R) (n : Nat) (f : FuncId) (a : List V) (H : Heap) : Option R := (bif Nat.beq f 238 then lift_within.rf bd call n a H else bodyA C (fcall call) n f a H)
theorem d148_e (n : Nat) (f : FuncId) (a : List V) (H : Heap) : d148 @bdI (callA C n) n f a H = callA C (n + 1) f a H := by
  unfold d148
  exact (by
  cases h : Nat.beq f 238
  · exact bodyA_e
  · have h := Nat.eq_of_beq_eq_true h; subst h; exact lift_within.rf_e n a H)
noncomputable def d149 (bd : B3) (call : FuncId → List V → Heap → Option R) (n : Nat) (f : FuncId) (a : List V) (H : Heap) : Option R := (bif Nat.ble f 237 then d147 bd call n f a H else d148 bd call n f a H)
theorem d149_e (n : Nat) (f : FuncId) (a : List V) (H : Heap) : d149 @bdI (callA C n) n f a H = callA C (n + 1) f a H := by
  unfold d149
  exact (by
  cases h : Nat.ble f 237
  · exact d148_e n f a H
  · exact d147_e n f a H)
noncomputable def d150 (bd : B3) (call : FuncId → List V → Heap → Option R) (n : Nat) (f : FuncId) (a : List V) (H : Heap) : Option R := (bif Nat.ble f 199 then d146 bd call n f a H else d149 bd call n f a H)
theorem d150_e (n : Nat) (f : FuncId) (a : List V) (H : Heap) : d150 @bdI (callA C n) n f a H = callA C (n + 1) f a H := by
  unfold d150
  exact (by
  cases h : Nat.ble f 199
  · exact d149_e n f a H
  · exact d146_e n f a H)
noncomputable def d151 (bd : B3) (call : FuncId → List V → Heap → Option R) (n : Nat) (f : FuncId) (a : List V) (H : Heap) : Option R := (bif Nat.ble f 196 then d143 bd call n f a H else d150 bd call n f a H)
theorem d151_e (n : Nat) (f : FuncId) (a : List V) (H : Heap) : d151 @bdI (callA C n) n f a H = callA C (n + 1) f a H := by
  unfold d151
  exact (by
  cases h : Nat.ble f 196
  · exact d150_e n f a H
  · exact d143_e n f a H)
noncomputable def d152 (bd : B3) (call : FuncId → List V → Heap → Option R) (n : Nat) (f : FuncId) (a : List V) (H : Heap) : Option R := (bif Nat.beq f 239 then lift_move.rf bd call n a H else bodyA C (fcall call) n f a H)
theorem d152_e (n : Nat) (f : FuncId) (a : List V) (H : Heap) : d152 @bdI (callA C n) n f a H = callA C (n + 1) f a H := by
  unfold d152
  exact (by
  cases h : Nat.beq f 239
  · exact bodyA_e
  · have h := Nat.eq_of_beq_eq_true h; subst h; exact lift_move.rf_e n a H)
noncomputable def d153 (bd : B3) (call : FuncId → List V → Heap → Option R) (n : Nat) (f : FuncId) (a : List V) (H : Heap) : Option R := (bif Nat.beq f 240 then lift_Can.rf bd call n a H else bodyA C (fcall call) n f a H)
theorem d153_e (n : Nat) (f : FuncId) (a : List V) (H : Heap) : d153 @bdI (callA C n) n f a H = callA C (n + 1) f a H := by
  unfold d153
  exact (by
  cases h : Nat.beq f 240
  · exact bodyA_e
  · have h := Nat.eq_of_beq_eq_true h; subst h; exact lift_Can.rf_e n a H)
noncomputable def d154 (bd : B3) (call : FuncId → List V → Heap → Option R) (n : Nat) (f : FuncId) (a : List V) (H : Heap) : Option R := (bif Nat.ble f 239 then d152 bd call n f a H else d153 bd call n f a H)
theorem d154_e (n : Nat) (f : FuncId) (a : List V) (H : Heap) : d154 @bdI (callA C n) n f a H = callA C (n + 1) f a H := by
  unfold d154
  exact (by
  cases h : Nat.ble f 239
  · exact d153_e n f a H
  · exact d152_e n f a H)
noncomputable def d155 (bd : B3) (call : FuncId → List V → Heap → Option R) (n : Nat) (f : FuncId) (a : List V) (H : Heap) : Option R := (bif Nat.beq f 241 then wide_Add.rf bd call n a H else bodyA C (fcall call) n f a H)
theorem d155_e (n : Nat) (f : FuncId) (a : List V) (H : Heap) : d155 @bdI (callA C n) n f a H = callA C (n + 1) f a H := by
  unfold d155
  exact (by
  cases h : Nat.beq f 241
  · exact bodyA_e
  · have h := Nat.eq_of_beq_eq_true h; subst h; exact wide_Add.rf_e n a H)
noncomputable def d156 (bd : B3) (call : FuncId → List V → Heap → Option R) (n : Nat) (f : FuncId) (a : List V) (H : Heap) : Option R := (bif Nat.beq f 242 then wide_Mul.rf bd call n a H else bodyA C (fcall call) n f a H)
theorem d156_e (n : Nat) (f : FuncId) (a : List V) (H : Heap) : d156 @bdI (callA C n) n f a H = callA C (n + 1) f a H := by
  unfold d156
  exact (by
  cases h : Nat.beq f 242
  · exact bodyA_e
  · have h := Nat.eq_of_beq_eq_true h; subst h; exact wide_Mul.rf_e n a H)
noncomputable def d157 (bd : B3) (call : FuncId → List V → Heap → Option R) (n : Nat) (f : FuncId) (a : List V) (H : Heap) : Option R := (bif Nat.ble f 241 then d155 bd call n f a H else d156 bd call n f a H)
theorem d157_e (n : Nat) (f : FuncId) (a : List V) (H : Heap) : d157 @bdI (callA C n) n f a H = callA C (n + 1) f a H := by
  unfold d157
  exact (by
  cases h : Nat.ble f 241
  · exact d156_e n f a H
  · exact d155_e n f a H)
noncomputable def d158 (bd : B3) (call : FuncId → List V → Heap → Option R) (n : Nat) (f : FuncId) (a : List V) (H : Heap) : Option R := (bif Nat.ble f 240 then d154 bd call n f a H else d157 bd call n f a H)
theorem d158_e (n : Nat) (f : FuncId) (a : List V) (H : Heap) : d158 @bdI (callA C n) n f a H = callA C (n + 1) f a H := by
  unfold d158
  exact (by
  cases h : Nat.ble f 240
  · exact d157_e n f a H
  · exact d154_e n f a H)
noncomputable def d159 (bd : B3) (call : FuncId → List V → Heap → Option R) (n : Nat) (f : FuncId) (a : List V) (H : Heap) : Option R := (bif Nat.beq f 250 then circum_circle.rf bd call n a H else bodyA C (fcall call) n f a H)
theorem d159_e (n : Nat) (f : FuncId) (a : List V) (H : Heap) : d159 @bdI (callA C n) n f a H = callA C (n + 1) f a H := by
  unfold d159
  exact (by
  cases h : Nat.beq f 250
  · exact bodyA_e
  · have h := Nat.eq_of_beq_eq_true h; subst h; exact circum_circle.rf_e n a H)
noncomputable def d160 (bd : B3) (call : FuncId → List V → Heap → Option R) (n : Nat) (f : FuncId) (a : List V) (H : Heap) : Option R := (bif Nat.beq f 252 then circum_long.rf bd call n a H else bodyA C (fcall call) n f a H)
theorem d160_e (n : Nat) (f : FuncId) (a : List V) (H : Heap) : d160 @bdI (callA C n) n f a H = callA C (n + 1) f a H := by
  unfold d160
  exact (by
  cases h : Nat.beq f 252
  · exact bodyA_e
  · have h := Nat.eq_of_beq_eq_true h; subst h; exact circum_long.rf_e n a H)
noncomputable def d161 (bd : B3) (call : FuncId → List V → Heap → Option R) (n : Nat) (f : FuncId) (a : List V) (H : Heap) : Option R := (bif Nat.ble f 250 then d159 bd call n f a H else d160 bd call n f a H)
theorem d161_e (n : Nat) (f : FuncId) (a : List V) (H : Heap) : d161 @bdI (callA C n) n f a H = callA C (n + 1) f a H := by
  unfold d161
  exact (by
  cases h : Nat.ble f 250
  · exact d160_e n f a H
  · exact d159_e n f a H)
noncomputable def d162 (bd : B3) (call : FuncId → List V → Heap → Option R) (n : Nat) (f : FuncId) (a : List V) (H : Heap) : Option R := (bif Nat.beq f 253 then pred_Area2.rf bd call n a H else bodyA C (fcall call) n f a H)
theorem d162_e (n : Nat) (f : FuncId) (a : List V) (H : Heap) : d162 @bdI (callA C n) n f a H = callA C (n + 1) f a H := by
  unfold d162
  exact (by
  cases h : Nat.beq f 253
  · exact bodyA_e
  · have h := Nat.eq_of_beq_eq_true h; subst h; exact pred_Area2.rf_e n a H)
noncomputable def d163 (bd : B3) (call : FuncId → List V → Heap → Option R) (n : Nat) (f : FuncId) (a : List V) (H : Heap) : Option R := (bif Nat.beq f 262 then whole_sign.rf bd call n a H else bodyA C (fcall call) n f a H)
theorem d163_e (n : Nat) (f : FuncId) (a : List V) (H : Heap) : d163 @bdI (callA C n) n f a H = callA C (n + 1) f a H := by
  unfold d163
  exact (by
  cases h : Nat.beq f 262
  · exact bodyA_e
  · have h := Nat.eq_of_beq_eq_true h; subst h; exact whole_sign.rf_e n a H)
noncomputable def d164 (bd : B3) (call : FuncId → List V → Heap → Option R) (n : Nat) (f : FuncId) (a : List V) (H : Heap) : Option R := (bif Nat.beq f 263 then nat_cmp.rf bd call n a H else bodyA C (fcall call) n f a H)
theorem d164_e (n : Nat) (f : FuncId) (a : List V) (H : Heap) : d164 @bdI (callA C n) n f a H = callA C (n + 1) f a H := by
  unfold d164
  exact (by
  cases h : Nat.beq f 263
  · exact bodyA_e
  · have h := Nat.eq_of_beq_eq_true h; subst h; exact nat_cmp.rf_e n a H)
noncomputable def d165 (bd : B3) (call : FuncId → List V → Heap → Option R) (n : Nat) (f : FuncId) (a : List V) (H : Heap) : Option R := (bif Nat.ble f 262 then d163 bd call n f a H else d164 bd call n f a H)
theorem d165_e (n : Nat) (f : FuncId) (a : List V) (H : Heap) : d165 @bdI (callA C n) n f a H = callA C (n + 1) f a H := by
  unfold d165
  exact (by
  cases h : Nat.ble f 262
  · exact d164_e n f a H
  · exact d163_e n f a H)
noncomputable def d166 (bd : B3) (call : FuncId → List V → Heap → Option R) (n : Nat) (f : FuncId) (a : List V) (H : Heap) : Option R := (bif Nat.ble f 253 then d162 bd call n f a H else d165 bd call n f a H)
theorem d166_e (n : Nat) (f : FuncId) (a : List V) (H : Heap) : d166 @bdI (callA C n) n f a H = callA C (n + 1) f a H := by
  unfold d166
  exact (by
  cases h : Nat.ble f 253
  · exact d165_e n f a H
  · exact d162_e n f a H)
noncomputable def d167 (bd : B3) (call : FuncId → List V → Heap → Option R) (n : Nat) (f : FuncId) (a : List V) (H : Heap) : Option R := (bif Nat.ble f 252 then d161 bd call n f a H else d166 bd call n f a H)
theorem d167_e (n : Nat) (f : FuncId) (a : List V) (H : Heap) : d167 @bdI (callA C n) n f a H = callA C (n + 1) f a H := by
  unfold d167
  exact (by
  cases h : Nat.ble f 252
  · exact d166_e n f a H
  · exact d161_e n f a H)
noncomputable def d168 (bd : B3) (call : FuncId → List V → Heap → Option R) (n : Nat) (f : FuncId) (a : List V) (H : Heap) : Option R := (bif Nat.ble f 242 then d158 bd call n f a H else d167 bd call n f a H)
theorem d168_e (n : Nat) (f : FuncId) (a : List V) (H : Heap) : d168 @bdI (callA C n) n f a H = callA C (n + 1) f a H := by
  unfold d168
  exact (by
  cases h : Nat.ble f 242
  · exact d167_e n f a H
  · exact d158_e n f a H)
noncomputable def d169 (bd : B3) (call : FuncId → List V → Heap → Option R) (n : Nat) (f : FuncId) (a : List V) (H : Heap) : Option R := (bif Nat.ble f 238 then d151 bd call n f a H else d168 bd call n f a H)
theorem d169_e (n : Nat) (f : FuncId) (a : List V) (H : Heap) : d169 @bdI (callA C n) n f a H = callA C (n + 1) f a H := by
  unfold d169
  exact (by
  cases h : Nat.ble f 238
  · exact d168_e n f a H
  · exact d151_e n f a H)
noncomputable def d170 (bd : B3) (call : FuncId → List V → Heap → Option R) (n : Nat) (f : FuncId) (a : List V) (H : Heap) : Option R := (bif Nat.beq f 266 then nat_Trim.rf bd call n a H else bodyA C (fcall call) n f a H)
theorem d170_e (n : Nat) (f : FuncId) (a : List V) (H : Heap) : d170 @bdI (callA C n) n f a H = callA C (n + 1) f a H := by
  unfold d170
  exact (by
  cases h : Nat.beq f 266
  · exact bodyA_e
  · have h := Nat.eq_of_beq_eq_true h; subst h; exact nat_Trim.rf_e n a H)
noncomputable def d171 (bd : B3) (call : FuncId → List V → Heap → Option R) (n : Nat) (f : FuncId) (a : List V) (H : Heap) : Option R := (bif Nat.beq f 269 then bucket_Grid_cell.rf bd call n a H else bodyA C (fcall call) n f a H)
theorem d171_e (n : Nat) (f : FuncId) (a : List V) (H : Heap) : d171 @bdI (callA C n) n f a H = callA C (n + 1) f a H := by
  unfold d171
  exact (by
  cases h : Nat.beq f 269
  · exact bodyA_e
  · have h := Nat.eq_of_beq_eq_true h; subst h; exact bucket_Grid_cell.rf_e n a H)
noncomputable def d172 (bd : B3) (call : FuncId → List V → Heap → Option R) (n : Nat) (f : FuncId) (a : List V) (H : Heap) : Option R := (bif Nat.ble f 266 then d170 bd call n f a H else d171 bd call n f a H)
theorem d172_e (n : Nat) (f : FuncId) (a : List V) (H : Heap) : d172 @bdI (callA C n) n f a H = callA C (n + 1) f a H := by
  unfold d172
  exact (by
  cases h : Nat.ble f 266
  · exact d171_e n f a H
  · exact d170_e n f a H)
noncomputable def d173 (bd : B3) (call : FuncId → List V → Heap → Option R) (n : Nat) (f : FuncId) (a : List V) (H : Heap) : Option R := (bif Nat.beq f 270 then bucket_Grid_at.rf bd call n a H else bodyA C (fcall call) n f a H)
theorem d173_e (n : Nat) (f : FuncId) (a : List V) (H : Heap) : d173 @bdI (callA C n) n f a H = callA C (n + 1) f a H := by
  unfold d173
  exact (by
  cases h : Nat.beq f 270
  · exact bodyA_e
  · have h := Nat.eq_of_beq_eq_true h; subst h; exact bucket_Grid_at.rf_e n a H)
noncomputable def d174 (bd : B3) (call : FuncId → List V → Heap → Option R) (n : Nat) (f : FuncId) (a : List V) (H : Heap) : Option R := (bif Nat.beq f 271 then pdt_sheet_isBig.rf bd call n a H else bodyA C (fcall call) n f a H)
theorem d174_e (n : Nat) (f : FuncId) (a : List V) (H : Heap) : d174 @bdI (callA C n) n f a H = callA C (n + 1) f a H := by
  unfold d174
  exact (by
  cases h : Nat.beq f 271
  · exact bodyA_e
  · have h := Nat.eq_of_beq_eq_true h; subst h; exact pdt_sheet_isBig.rf_e n a H)
noncomputable def d175 (bd : B3) (call : FuncId → List V → Heap → Option R) (n : Nat) (f : FuncId) (a : List V) (H : Heap) : Option R := (bif Nat.ble f 270 then d173 bd call n f a H else d174 bd call n f a H)
theorem d175_e (n : Nat) (f : FuncId) (a : List V) (H : Heap) : d175 @bdI (callA C n) n f a H = callA C (n + 1) f a H := by
  unfold d175
  exact (by
  cases h : Nat.ble f 270
  · exact d174_e n f a H
  · exact d173_e n f a H)
noncomputable def d176 (bd : B3) (call : FuncId → List V → Heap → Option R) (n : Nat) (f : FuncId) (a : List V) (H : Heap) : Option R := (bif Nat.ble f 269 then d172 bd call n f a H else d175 bd call n f a H)
theorem d176_e (n : Nat) (f : FuncId) (a : List V) (H : Heap) : d176 @bdI (callA C n) n f a H = callA C (n + 1) f a H := by
  unfold d176
  exact (by
  cases h : Nat.ble f 269
  · exact d175_e n f a H
  · exact d172_e n f a H)
noncomputable def d177 (bd : B3) (call : FuncId → List V → Heap → Option R) (n : Nat) (f : FuncId) (a : List V) (H : Heap) : Option R := (bif Nat.beq f 272 then mesh_Mesh_AddVert.rf bd call n a H else bodyA C (fcall call) n f a H)
theorem d177_e (n : Nat) (f : FuncId) (a : List V) (H : Heap) : d177 @bdI (callA C n) n f a H = callA C (n + 1) f a H := by
  unfold d177
  exact (by
  cases h : Nat.beq f 272
  · exact bodyA_e
  · have h := Nat.eq_of_beq_eq_true h; subst h; exact mesh_Mesh_AddVert.rf_e n a H)
noncomputable def d178 (bd : B3) (call : FuncId → List V → Heap → Option R) (n : Nat) (f : FuncId) (a : List V) (H : Heap) : Option R := (bif Nat.beq f 273 then mesh_Mesh_AddFace.rf bd call n a H else bodyA C (fcall call) n f a H)
theorem d178_e (n : Nat) (f : FuncId) (a : List V) (H : Heap) : d178 @bdI (callA C n) n f a H = callA C (n + 1) f a H := by
  unfold d178
  exact (by
  cases h : Nat.beq f 273
  · exact bodyA_e
  · have h := Nat.eq_of_beq_eq_true h; subst h; exact mesh_Mesh_AddFace.rf_e n a H)
noncomputable def d179 (bd : B3) (call : FuncId → List V → Heap → Option R) (n : Nat) (f : FuncId) (a : List V) (H : Heap) : Option R := (bif Nat.ble f 272 then d177 bd call n f a H else d178 bd call n f a H)
theorem d179_e (n : Nat) (f : FuncId) (a : List V) (H : Heap) : d179 @bdI (callA C n) n f a H = callA C (n + 1) f a H := by
  unfold d179
  exact (by
  cases h : Nat.ble f 272
  · exact d178_e n f a H
  · exact d177_e n f a H)
noncomputable def d180 (bd : B3) (call : FuncId → List V → Heap → Option R) (n : Nat) (f : FuncId) (a : List V) (H : Heap) : Option R := (bif Nat.beq f 282 then circum_Small.rf bd call n a H else bodyA C (fcall call) n f a H)
theorem d180_e (n : Nat) (f : FuncId) (a : List V) (H : Heap) : d180 @bdI (callA C n) n f a H = callA C (n + 1) f a H := by
  unfold d180
  exact (by
  cases h : Nat.beq f 282
  · exact bodyA_e
  · have h := Nat.eq_of_beq_eq_true h; subst h; exact circum_Small.rf_e n a H)
noncomputable def d181 (bd : B3) (call : FuncId → List V → Heap → Option R) (n : Nat) (f : FuncId) (a : List V) (H : Heap) : Option R := (bif Nat.beq f 283 then cover_sheets.rf bd call n a H else bodyA C (fcall call) n f a H)
theorem d181_e (n : Nat) (f : FuncId) (a : List V) (H : Heap) : d181 @bdI (callA C n) n f a H = callA C (n + 1) f a H := by
  unfold d181
  exact (by
  cases h : Nat.beq f 283
  · exact bodyA_e
  · have h := Nat.eq_of_beq_eq_true h; subst h; exact cover_sheets.rf_e n a H)
noncomputable def d182 (bd : B3) (call : FuncId → List V → Heap → Option R) (n : Nat) (f : FuncId) (a : List V) (H : Heap) : Option R := (bif Nat.ble f 282 then d180 bd call n f a H else d181 bd call n f a H)
theorem d182_e (n : Nat) (f : FuncId) (a : List V) (H : Heap) : d182 @bdI (callA C n) n f a H = callA C (n + 1) f a H := by
  unfold d182
  exact (by
  cases h : Nat.ble f 282
  · exact d181_e n f a H
  · exact d180_e n f a H)
noncomputable def d183 (bd : B3) (call : FuncId → List V → Heap → Option R) (n : Nat) (f : FuncId) (a : List V) (H : Heap) : Option R := (bif Nat.ble f 273 then d179 bd call n f a H else d182 bd call n f a H)
theorem d183_e (n : Nat) (f : FuncId) (a : List V) (H : Heap) : d183 @bdI (callA C n) n f a H = callA C (n + 1) f a H := by
  unfold d183
  exact (by
  cases h : Nat.ble f 273
  · exact d182_e n f a H
  · exact d179_e n f a H)
noncomputable def d184 (bd : B3) (call : FuncId → List V → Heap → Option R) (n : Nat) (f : FuncId) (a : List V) (H : Heap) : Option R := (bif Nat.ble f 271 then d176 bd call n f a H else d183 bd call n f a H)
theorem d184_e (n : Nat) (f : FuncId) (a : List V) (H : Heap) : d184 @bdI (callA C n) n f a H = callA C (n + 1) f a H := by
  unfold d184
  exact (by
  cases h : Nat.ble f 271
  · exact d183_e n f a H
  · exact d176_e n f a H)
noncomputable def d185 (bd : B3) (call : FuncId → List V → Heap → Option R) (n : Nat) (f : FuncId) (a : List V) (H : Heap) : Option R := (bif Nat.beq f 284 then cover_corner.rf bd call n a H else bodyA C (fcall call) n f a H)
theorem d185_e (n : Nat) (f : FuncId) (a : List V) (H : Heap) : d185 @bdI (callA C n) n f a H = callA C (n + 1) f a H := by
  unfold d185
  exact (by
  cases h : Nat.beq f 284
  · exact bodyA_e
  · have h := Nat.eq_of_beq_eq_true h; subst h; exact cover_corner.rf_e n a H)
noncomputable def d186 (bd : B3) (call : FuncId → List V → Heap → Option R) (n : Nat) (f : FuncId) (a : List V) (H : Heap) : Option R := (bif Nat.beq f 285 then lift_Sum.rf bd call n a H else bodyA C (fcall call) n f a H)
theorem d186_e (n : Nat) (f : FuncId) (a : List V) (H : Heap) : d186 @bdI (callA C n) n f a H = callA C (n + 1) f a H := by
  unfold d186
  exact (by
  cases h : Nat.beq f 285
  · exact bodyA_e
  · have h := Nat.eq_of_beq_eq_true h; subst h; exact lift_Sum.rf_e n a H)
noncomputable def d187 (bd : B3) (call : FuncId → List V → Heap → Option R) (n : Nat) (f : FuncId) (a : List V) (H : Heap) : Option R := (bif Nat.ble f 284 then d185 bd call n f a H else d186 bd call n f a H)
theorem d187_e (n : Nat) (f : FuncId) (a : List V) (H : Heap) : d187 @bdI (callA C n) n f a H = callA C (n + 1) f a H := by
  unfold d187
  exact (by
  cases h : Nat.ble f 284
  · exact d186_e n f a H
  · exact d185_e n f a H)
noncomputable def d188 (bd : B3) (call : FuncId → List V → Heap → Option R) (n : Nat) (f : FuncId) (a : List V) (H : Heap) : Option R := (bif Nat.beq f 296 then pred_Orient.rf bd call n a H else bodyA C (fcall call) n f a H)
theorem d188_e (n : Nat) (f : FuncId) (a : List V) (H : Heap) : d188 @bdI (callA C n) n f a H = callA C (n + 1) f a H := by
  unfold d188
  exact (by
  cases h : Nat.beq f 296
  · exact bodyA_e
  · have h := Nat.eq_of_beq_eq_true h; subst h; exact pred_Orient.rf_e n a H)
noncomputable def d189 (bd : B3) (call : FuncId → List V → Heap → Option R) (n : Nat) (f : FuncId) (a : List V) (H : Heap) : Option R := (bif Nat.beq f 303 then lift_Less.rf bd call n a H else bodyA C (fcall call) n f a H)
theorem d189_e (n : Nat) (f : FuncId) (a : List V) (H : Heap) : d189 @bdI (callA C n) n f a H = callA C (n + 1) f a H := by
  unfold d189
  exact (by
  cases h : Nat.beq f 303
  · exact bodyA_e
  · have h := Nat.eq_of_beq_eq_true h; subst h; exact lift_Less.rf_e n a H)
noncomputable def d190 (bd : B3) (call : FuncId → List V → Heap → Option R) (n : Nat) (f : FuncId) (a : List V) (H : Heap) : Option R := (bif Nat.ble f 296 then d188 bd call n f a H else d189 bd call n f a H)
theorem d190_e (n : Nat) (f : FuncId) (a : List V) (H : Heap) : d190 @bdI (callA C n) n f a H = callA C (n + 1) f a H := by
  unfold d190
  exact (by
  cases h : Nat.ble f 296
  · exact d189_e n f a H
  · exact d188_e n f a H)
noncomputable def d191 (bd : B3) (call : FuncId → List V → Heap → Option R) (n : Nat) (f : FuncId) (a : List V) (H : Heap) : Option R := (bif Nat.ble f 285 then d187 bd call n f a H else d190 bd call n f a H)
theorem d191_e (n : Nat) (f : FuncId) (a : List V) (H : Heap) : d191 @bdI (callA C n) n f a H = callA C (n + 1) f a H := by
  unfold d191
  exact (by
  cases h : Nat.ble f 285
  · exact d190_e n f a H
  · exact d187_e n f a H)
noncomputable def d192 (bd : B3) (call : FuncId → List V → Heap → Option R) (n : Nat) (f : FuncId) (a : List V) (H : Heap) : Option R := (bif Nat.beq f 307 then wide_add.rf bd call n a H else bodyA C (fcall call) n f a H)
theorem d192_e (n : Nat) (f : FuncId) (a : List V) (H : Heap) : d192 @bdI (callA C n) n f a H = callA C (n + 1) f a H := by
  unfold d192
  exact (by
  cases h : Nat.beq f 307
  · exact bodyA_e
  · have h := Nat.eq_of_beq_eq_true h; subst h; exact wide_add.rf_e n a H)
noncomputable def d193 (bd : B3) (call : FuncId → List V → Heap → Option R) (n : Nat) (f : FuncId) (a : List V) (H : Heap) : Option R := (bif Nat.beq f 308 then math_bits_Mul64.rf bd call n a H else bodyA C (fcall call) n f a H)
theorem d193_e (n : Nat) (f : FuncId) (a : List V) (H : Heap) : d193 @bdI (callA C n) n f a H = callA C (n + 1) f a H := by
  unfold d193
  exact (by
  cases h : Nat.beq f 308
  · exact bodyA_e
  · have h := Nat.eq_of_beq_eq_true h; subst h; exact math_bits_Mul64.rf_e n a H)
noncomputable def d194 (bd : B3) (call : FuncId → List V → Heap → Option R) (n : Nat) (f : FuncId) (a : List V) (H : Heap) : Option R := (bif Nat.ble f 307 then d192 bd call n f a H else d193 bd call n f a H)
theorem d194_e (n : Nat) (f : FuncId) (a : List V) (H : Heap) : d194 @bdI (callA C n) n f a H = callA C (n + 1) f a H := by
  unfold d194
  exact (by
  cases h : Nat.ble f 307
  · exact d193_e n f a H
  · exact d192_e n f a H)
noncomputable def d195 (bd : B3) (call : FuncId → List V → Heap → Option R) (n : Nat) (f : FuncId) (a : List V) (H : Heap) : Option R := (bif Nat.beq f 310 then whole_Of.rf bd call n a H else bodyA C (fcall call) n f a H)
theorem d195_e (n : Nat) (f : FuncId) (a : List V) (H : Heap) : d195 @bdI (callA C n) n f a H = callA C (n + 1) f a H := by
  unfold d195
  exact (by
  cases h : Nat.beq f 310
  · exact bodyA_e
  · have h := Nat.eq_of_beq_eq_true h; subst h; exact whole_Of.rf_e n a H)
noncomputable def d196 (bd : B3) (call : FuncId → List V → Heap → Option R) (n : Nat) (f : FuncId) (a : List V) (H : Heap) : Option R := (bif Nat.beq f 311 then whole_OfQuad.rf bd call n a H else bodyA C (fcall call) n f a H)
theorem d196_e (n : Nat) (f : FuncId) (a : List V) (H : Heap) : d196 @bdI (callA C n) n f a H = callA C (n + 1) f a H := by
  unfold d196
  exact (by
  cases h : Nat.beq f 311
  · exact bodyA_e
  · have h := Nat.eq_of_beq_eq_true h; subst h; exact whole_OfQuad.rf_e n a H)
noncomputable def d197 (bd : B3) (call : FuncId → List V → Heap → Option R) (n : Nat) (f : FuncId) (a : List V) (H : Heap) : Option R := (bif Nat.beq f 312 then quad_Of.rf bd call n a H else bodyA C (fcall call) n f a H)
theorem d197_e (n : Nat) (f : FuncId) (a : List V) (H : Heap) : d197 @bdI (callA C n) n f a H = callA C (n + 1) f a H := by
  unfold d197
  exact (by
  cases h : Nat.beq f 312
  · exact bodyA_e
  · have h := Nat.eq_of_beq_eq_true h; subst h; exact quad_Of.rf_e n a H)
noncomputable def d198 (bd : B3) (call : FuncId → List V → Heap → Option R) (n : Nat) (f : FuncId) (a : List V) (H : Heap) : Option R := (bif Nat.ble f 311 then d196 bd call n f a H else d197 bd call n f a H)
theorem d198_e (n : Nat) (f : FuncId) (a : List V) (H : Heap) : d198 @bdI (callA C n) n f a H = callA C (n + 1) f a H := by
  unfold d198
  exact (by
  cases h : Nat.ble f 311
  · exact d197_e n f a H
  · exact d196_e n f a H)
noncomputable def d199 (bd : B3) (call : FuncId → List V → Heap → Option R) (n : Nat) (f : FuncId) (a : List V) (H : Heap) : Option R := (bif Nat.ble f 310 then d195 bd call n f a H else d198 bd call n f a H)
theorem d199_e (n : Nat) (f : FuncId) (a : List V) (H : Heap) : d199 @bdI (callA C n) n f a H = callA C (n + 1) f a H := by
  unfold d199
  exact (by
  cases h : Nat.ble f 310
  · exact d198_e n f a H
  · exact d195_e n f a H)
noncomputable def d200 (bd : B3) (call : FuncId → List V → Heap → Option R) (n : Nat) (f : FuncId) (a : List V) (H : Heap) : Option R := (bif Nat.ble f 308 then d194 bd call n f a H else d199 bd call n f a H)
theorem d200_e (n : Nat) (f : FuncId) (a : List V) (H : Heap) : d200 @bdI (callA C n) n f a H = callA C (n + 1) f a H := by
  unfold d200
  exact (by
  cases h : Nat.ble f 308
  · exact d199_e n f a H
  · exact d194_e n f a H)
noncomputable def d201 (bd : B3) (call : FuncId → List V → Heap → Option R) (n : Nat) (f : FuncId) (a : List V) (H : Heap) : Option R := (bif Nat.ble f 303 then d191 bd call n f a H else d200 bd call n f a H)
theorem d201_e (n : Nat) (f : FuncId) (a : List V) (H : Heap) : d201 @bdI (callA C n) n f a H = callA C (n + 1) f a H := by
  unfold d201
  exact (by
  cases h : Nat.ble f 303
  · exact d200_e n f a H
  · exact d191_e n f a H)
noncomputable def d202 (bd : B3) (call : FuncId → List V → Heap → Option R) (n : Nat) (f : FuncId) (a : List V) (H : Heap) : Option R := (bif Nat.ble f 283 then d184 bd call n f a H else d201 bd call n f a H)
theorem d202_e (n : Nat) (f : FuncId) (a : List V) (H : Heap) : d202 @bdI (callA C n) n f a H = callA C (n + 1) f a H := by
  unfold d202
  exact (by
  cases h : Nat.ble f 283
  · exact d201_e n f a H
  · exact d184_e n f a H)
noncomputable def d203 (bd : B3) (call : FuncId → List V → Heap → Option R) (n : Nat) (f : FuncId) (a : List V) (H : Heap) : Option R := (bif Nat.ble f 263 then d169 bd call n f a H else d202 bd call n f a H)
theorem d203_e (n : Nat) (f : FuncId) (a : List V) (H : Heap) : d203 @bdI (callA C n) n f a H = callA C (n + 1) f a H := by
  unfold d203
  exact (by
  cases h : Nat.ble f 263
  · exact d202_e n f a H
  · exact d169_e n f a H)
noncomputable def d204 (bd : B3) (call : FuncId → List V → Heap → Option R) (n : Nat) (f : FuncId) (a : List V) (H : Heap) : Option R := (bif Nat.beq f 313 then pred_across.rf bd call n a H else bodyA C (fcall call) n f a H)
theorem d204_e (n : Nat) (f : FuncId) (a : List V) (H : Heap) : d204 @bdI (callA C n) n f a H = callA C (n + 1) f a H := by
  unfold d204
  exact (by
  cases h : Nat.beq f 313
  · exact bodyA_e
  · have h := Nat.eq_of_beq_eq_true h; subst h; exact pred_across.rf_e n a H)
noncomputable def d205 (bd : B3) (call : FuncId → List V → Heap → Option R) (n : Nat) (f : FuncId) (a : List V) (H : Heap) : Option R := (bif Nat.beq f 316 then whole_Mul.rf bd call n a H else bodyA C (fcall call) n f a H)
theorem d205_e (n : Nat) (f : FuncId) (a : List V) (H : Heap) : d205 @bdI (callA C n) n f a H = callA C (n + 1) f a H := by
  unfold d205
  exact (by
  cases h : Nat.beq f 316
  · exact bodyA_e
  · have h := Nat.eq_of_beq_eq_true h; subst h; exact whole_Mul.rf_e n a H)
noncomputable def d206 (bd : B3) (call : FuncId → List V → Heap → Option R) (n : Nat) (f : FuncId) (a : List V) (H : Heap) : Option R := (bif Nat.ble f 313 then d204 bd call n f a H else d205 bd call n f a H)
theorem d206_e (n : Nat) (f : FuncId) (a : List V) (H : Heap) : d206 @bdI (callA C n) n f a H = callA C (n + 1) f a H := by
  unfold d206
  exact (by
  cases h : Nat.ble f 313
  · exact d205_e n f a H
  · exact d204_e n f a H)
noncomputable def d207 (bd : B3) (call : FuncId → List V → Heap → Option R) (n : Nat) (f : FuncId) (a : List V) (H : Heap) : Option R := (bif Nat.beq f 322 then nat_Bits.rf bd call n a H else bodyA C (fcall call) n f a H)
theorem d207_e (n : Nat) (f : FuncId) (a : List V) (H : Heap) : d207 @bdI (callA C n) n f a H = callA C (n + 1) f a H := by
  unfold d207
  exact (by
  cases h : Nat.beq f 322
  · exact bodyA_e
  · have h := Nat.eq_of_beq_eq_true h; subst h; exact nat_Bits.rf_e n a H)
noncomputable def d208 (bd : B3) (call : FuncId → List V → Heap → Option R) (n : Nat) (f : FuncId) (a : List V) (H : Heap) : Option R := (bif Nat.beq f 323 then nat_trim.rf bd call n a H else bodyA C (fcall call) n f a H)
theorem d208_e (n : Nat) (f : FuncId) (a : List V) (H : Heap) : d208 @bdI (callA C n) n f a H = callA C (n + 1) f a H := by
  unfold d208
  exact (by
  cases h : Nat.beq f 323
  · exact bodyA_e
  · have h := Nat.eq_of_beq_eq_true h; subst h; exact nat_trim.rf_e n a H)
noncomputable def d209 (bd : B3) (call : FuncId → List V → Heap → Option R) (n : Nat) (f : FuncId) (a : List V) (H : Heap) : Option R := (bif Nat.ble f 322 then d207 bd call n f a H else d208 bd call n f a H)
theorem d209_e (n : Nat) (f : FuncId) (a : List V) (H : Heap) : d209 @bdI (callA C n) n f a H = callA C (n + 1) f a H := by
  unfold d209
  exact (by
  cases h : Nat.ble f 322
  · exact d208_e n f a H
  · exact d207_e n f a H)
noncomputable def d210 (bd : B3) (call : FuncId → List V → Heap → Option R) (n : Nat) (f : FuncId) (a : List V) (H : Heap) : Option R := (bif Nat.ble f 316 then d206 bd call n f a H else d209 bd call n f a H)
theorem d210_e (n : Nat) (f : FuncId) (a : List V) (H : Heap) : d210 @bdI (callA C n) n f a H = callA C (n + 1) f a H := by
  unfold d210
  exact (by
  cases h : Nat.ble f 316
  · exact d209_e n f a H
  · exact d206_e n f a H)
noncomputable def d211 (bd : B3) (call : FuncId → List V → Heap → Option R) (n : Nat) (f : FuncId) (a : List V) (H : Heap) : Option R := (bif Nat.beq f 324 then slices_Clone_api_Nat_uint32.rf bd call n a H else bodyA C (fcall call) n f a H)
theorem d211_e (n : Nat) (f : FuncId) (a : List V) (H : Heap) : d211 @bdI (callA C n) n f a H = callA C (n + 1) f a H := by
  unfold d211
  exact (by
  cases h : Nat.beq f 324
  · exact bodyA_e
  · have h := Nat.eq_of_beq_eq_true h; subst h; exact slices_Clone_api_Nat_uint32.rf_e n a H)
noncomputable def d212 (bd : B3) (call : FuncId → List V → Heap → Option R) (n : Nat) (f : FuncId) (a : List V) (H : Heap) : Option R := (bif Nat.beq f 327 then whole_norm.rf bd call n a H else bodyA C (fcall call) n f a H)
theorem d212_e (n : Nat) (f : FuncId) (a : List V) (H : Heap) : d212 @bdI (callA C n) n f a H = callA C (n + 1) f a H := by
  unfold d212
  exact (by
  cases h : Nat.beq f 327
  · exact bodyA_e
  · have h := Nat.eq_of_beq_eq_true h; subst h; exact whole_norm.rf_e n a H)
noncomputable def d213 (bd : B3) (call : FuncId → List V → Heap → Option R) (n : Nat) (f : FuncId) (a : List V) (H : Heap) : Option R := (bif Nat.ble f 324 then d211 bd call n f a H else d212 bd call n f a H)
theorem d213_e (n : Nat) (f : FuncId) (a : List V) (H : Heap) : d213 @bdI (callA C n) n f a H = callA C (n + 1) f a H := by
  unfold d213
  exact (by
  cases h : Nat.ble f 324
  · exact d212_e n f a H
  · exact d211_e n f a H)
noncomputable def d214 (bd : B3) (call : FuncId → List V → Heap → Option R) (n : Nat) (f : FuncId) (a : List V) (H : Heap) : Option R := (bif Nat.beq f 329 then mesh_Mesh_Corner.rf bd call n a H else bodyA C (fcall call) n f a H)
theorem d214_e (n : Nat) (f : FuncId) (a : List V) (H : Heap) : d214 @bdI (callA C n) n f a H = callA C (n + 1) f a H := by
  unfold d214
  exact (by
  cases h : Nat.beq f 329
  · exact bodyA_e
  · have h := Nat.eq_of_beq_eq_true h; subst h; exact mesh_Mesh_Corner.rf_e n a H)
noncomputable def d215 (bd : B3) (call : FuncId → List V → Heap → Option R) (n : Nat) (f : FuncId) (a : List V) (H : Heap) : Option R := (bif Nat.beq f 330 then arena_Arena_Take.rf bd call n a H else bodyA C (fcall call) n f a H)
theorem d215_e (n : Nat) (f : FuncId) (a : List V) (H : Heap) : d215 @bdI (callA C n) n f a H = callA C (n + 1) f a H := by
  unfold d215
  exact (by
  cases h : Nat.beq f 330
  · exact bodyA_e
  · have h := Nat.eq_of_beq_eq_true h; subst h; exact arena_Arena_Take.rf_e n a H)
noncomputable def d216 (bd : B3) (call : FuncId → List V → Heap → Option R) (n : Nat) (f : FuncId) (a : List V) (H : Heap) : Option R := (bif Nat.ble f 329 then d214 bd call n f a H else d215 bd call n f a H)
theorem d216_e (n : Nat) (f : FuncId) (a : List V) (H : Heap) : d216 @bdI (callA C n) n f a H = callA C (n + 1) f a H := by
  unfold d216
  exact (by
  cases h : Nat.ble f 329
  · exact d215_e n f a H
  · exact d214_e n f a H)
noncomputable def d217 (bd : B3) (call : FuncId → List V → Heap → Option R) (n : Nat) (f : FuncId) (a : List V) (H : Heap) : Option R := (bif Nat.ble f 327 then d213 bd call n f a H else d216 bd call n f a H)
theorem d217_e (n : Nat) (f : FuncId) (a : List V) (H : Heap) : d217 @bdI (callA C n) n f a H = callA C (n + 1) f a H := by
  unfold d217
  exact (by
  cases h : Nat.ble f 327
  · exact d216_e n f a H
  · exact d213_e n f a H)
noncomputable def d218 (bd : B3) (call : FuncId → List V → Heap → Option R) (n : Nat) (f : FuncId) (a : List V) (H : Heap) : Option R := (bif Nat.ble f 323 then d210 bd call n f a H else d217 bd call n f a H)
theorem d218_e (n : Nat) (f : FuncId) (a : List V) (H : Heap) : d218 @bdI (callA C n) n f a H = callA C (n + 1) f a H := by
  unfold d218
  exact (by
  cases h : Nat.ble f 323
  · exact d217_e n f a H
  · exact d210_e n f a H)
noncomputable def d219 (bd : B3) (call : FuncId → List V → Heap → Option R) (n : Nat) (f : FuncId) (a : List V) (H : Heap) : Option R := (bif Nat.beq f 331 then mesh_put_api_Vert.rf bd call n a H else bodyA C (fcall call) n f a H)
theorem d219_e (n : Nat) (f : FuncId) (a : List V) (H : Heap) : d219 @bdI (callA C n) n f a H = callA C (n + 1) f a H := by
  unfold d219
  exact (by
  cases h : Nat.beq f 331
  · exact bodyA_e
  · have h := Nat.eq_of_beq_eq_true h; subst h; exact mesh_put_api_Vert.rf_e n a H)
noncomputable def d220 (bd : B3) (call : FuncId → List V → Heap → Option R) (n : Nat) (f : FuncId) (a : List V) (H : Heap) : Option R := (bif Nat.beq f 332 then mesh_Mesh_vert.rf bd call n a H else bodyA C (fcall call) n f a H)
theorem d220_e (n : Nat) (f : FuncId) (a : List V) (H : Heap) : d220 @bdI (callA C n) n f a H = callA C (n + 1) f a H := by
  unfold d220
  exact (by
  cases h : Nat.beq f 332
  · exact bodyA_e
  · have h := Nat.eq_of_beq_eq_true h; subst h; exact mesh_Mesh_vert.rf_e n a H)
noncomputable def d221 (bd : B3) (call : FuncId → List V → Heap → Option R) (n : Nat) (f : FuncId) (a : List V) (H : Heap) : Option R := (bif Nat.ble f 331 then d219 bd call n f a H else d220 bd call n f a H)
theorem d221_e (n : Nat) (f : FuncId) (a : List V) (H : Heap) : d221 @bdI (callA C n) n f a H = callA C (n + 1) f a H := by
  unfold d221
  exact (by
  cases h : Nat.ble f 331
  · exact d220_e n f a H
  · exact d219_e n f a H)
noncomputable def d222 (bd : B3) (call : FuncId → List V → Heap → Option R) (n : Nat) (f : FuncId) (a : List V) (H : Heap) : Option R := (bif Nat.beq f 333 then mesh_Mesh_turns.rf bd call n a H else bodyA C (fcall call) n f a H)
theorem d222_e (n : Nat) (f : FuncId) (a : List V) (H : Heap) : d222 @bdI (callA C n) n f a H = callA C (n + 1) f a H := by
  unfold d222
  exact (by
  cases h : Nat.beq f 333
  · exact bodyA_e
  · have h := Nat.eq_of_beq_eq_true h; subst h; exact mesh_Mesh_turns.rf_e n a H)
noncomputable def d223 (bd : B3) (call : FuncId → List V → Heap → Option R) (n : Nat) (f : FuncId) (a : List V) (H : Heap) : Option R := (bif Nat.beq f 334 then mesh_side.rf bd call n a H else bodyA C (fcall call) n f a H)
theorem d223_e (n : Nat) (f : FuncId) (a : List V) (H : Heap) : d223 @bdI (callA C n) n f a H = callA C (n + 1) f a H := by
  unfold d223
  exact (by
  cases h : Nat.beq f 334
  · exact bodyA_e
  · have h := Nat.eq_of_beq_eq_true h; subst h; exact mesh_side.rf_e n a H)
noncomputable def d224 (bd : B3) (call : FuncId → List V → Heap → Option R) (n : Nat) (f : FuncId) (a : List V) (H : Heap) : Option R := (bif Nat.ble f 333 then d222 bd call n f a H else d223 bd call n f a H)
theorem d224_e (n : Nat) (f : FuncId) (a : List V) (H : Heap) : d224 @bdI (callA C n) n f a H = callA C (n + 1) f a H := by
  unfold d224
  exact (by
  cases h : Nat.ble f 333
  · exact d223_e n f a H
  · exact d222_e n f a H)
noncomputable def d225 (bd : B3) (call : FuncId → List V → Heap → Option R) (n : Nat) (f : FuncId) (a : List V) (H : Heap) : Option R := (bif Nat.ble f 332 then d221 bd call n f a H else d224 bd call n f a H)
theorem d225_e (n : Nat) (f : FuncId) (a : List V) (H : Heap) : d225 @bdI (callA C n) n f a H = callA C (n + 1) f a H := by
  unfold d225
  exact (by
  cases h : Nat.ble f 332
  · exact d224_e n f a H
  · exact d221_e n f a H)
noncomputable def d226 (bd : B3) (call : FuncId → List V → Heap → Option R) (n : Nat) (f : FuncId) (a : List V) (H : Heap) : Option R := (bif Nat.beq f 335 then mesh_put_api_Tri.rf bd call n a H else bodyA C (fcall call) n f a H)
theorem d226_e (n : Nat) (f : FuncId) (a : List V) (H : Heap) : d226 @bdI (callA C n) n f a H = callA C (n + 1) f a H := by
  unfold d226
  exact (by
  cases h : Nat.beq f 335
  · exact bodyA_e
  · have h := Nat.eq_of_beq_eq_true h; subst h; exact mesh_put_api_Tri.rf_e n a H)
noncomputable def d227 (bd : B3) (call : FuncId → List V → Heap → Option R) (n : Nat) (f : FuncId) (a : List V) (H : Heap) : Option R := (bif Nat.beq f 336 then slices_Contains_int_int.rf bd call n a H else bodyA C (fcall call) n f a H)
theorem d227_e (n : Nat) (f : FuncId) (a : List V) (H : Heap) : d227 @bdI (callA C n) n f a H = callA C (n + 1) f a H := by
  unfold d227
  exact (by
  cases h : Nat.beq f 336
  · exact bodyA_e
  · have h := Nat.eq_of_beq_eq_true h; subst h; exact slices_Contains_int_int.rf_e n a H)
noncomputable def d228 (bd : B3) (call : FuncId → List V → Heap → Option R) (n : Nat) (f : FuncId) (a : List V) (H : Heap) : Option R := (bif Nat.ble f 335 then d226 bd call n f a H else d227 bd call n f a H)
theorem d228_e (n : Nat) (f : FuncId) (a : List V) (H : Heap) : d228 @bdI (callA C n) n f a H = callA C (n + 1) f a H := by
  unfold d228
  exact (by
  cases h : Nat.ble f 335
  · exact d227_e n f a H
  · exact d226_e n f a H)
noncomputable def d229 (bd : B3) (call : FuncId → List V → Heap → Option R) (n : Nat) (f : FuncId) (a : List V) (H : Heap) : Option R := (bif Nat.beq f 352 then circum_sides.rf bd call n a H else bodyA C (fcall call) n f a H)
theorem d229_e (n : Nat) (f : FuncId) (a : List V) (H : Heap) : d229 @bdI (callA C n) n f a H = callA C (n + 1) f a H := by
  unfold d229
  exact (by
  cases h : Nat.beq f 352
  · exact bodyA_e
  · have h := Nat.eq_of_beq_eq_true h; subst h; exact circum_sides.rf_e n a H)
noncomputable def d230 (bd : B3) (call : FuncId → List V → Heap → Option R) (n : Nat) (f : FuncId) (a : List V) (H : Heap) : Option R := (bif Nat.beq f 353 then whole_Cmp.rf bd call n a H else bodyA C (fcall call) n f a H)
theorem d230_e (n : Nat) (f : FuncId) (a : List V) (H : Heap) : d230 @bdI (callA C n) n f a H = callA C (n + 1) f a H := by
  unfold d230
  exact (by
  cases h : Nat.beq f 353
  · exact bodyA_e
  · have h := Nat.eq_of_beq_eq_true h; subst h; exact whole_Cmp.rf_e n a H)
noncomputable def d231 (bd : B3) (call : FuncId → List V → Heap → Option R) (n : Nat) (f : FuncId) (a : List V) (H : Heap) : Option R := (bif Nat.beq f 354 then circum_square.rf bd call n a H else bodyA C (fcall call) n f a H)
theorem d231_e (n : Nat) (f : FuncId) (a : List V) (H : Heap) : d231 @bdI (callA C n) n f a H = callA C (n + 1) f a H := by
  unfold d231
  exact (by
  cases h : Nat.beq f 354
  · exact bodyA_e
  · have h := Nat.eq_of_beq_eq_true h; subst h; exact circum_square.rf_e n a H)
noncomputable def d232 (bd : B3) (call : FuncId → List V → Heap → Option R) (n : Nat) (f : FuncId) (a : List V) (H : Heap) : Option R := (bif Nat.ble f 353 then d230 bd call n f a H else d231 bd call n f a H)
theorem d232_e (n : Nat) (f : FuncId) (a : List V) (H : Heap) : d232 @bdI (callA C n) n f a H = callA C (n + 1) f a H := by
  unfold d232
  exact (by
  cases h : Nat.ble f 353
  · exact d231_e n f a H
  · exact d230_e n f a H)
noncomputable def d233 (bd : B3) (call : FuncId → List V → Heap → Option R) (n : Nat) (f : FuncId) (a : List V) (H : Heap) : Option R := (bif Nat.ble f 352 then d229 bd call n f a H else d232 bd call n f a H)
theorem d233_e (n : Nat) (f : FuncId) (a : List V) (H : Heap) : d233 @bdI (callA C n) n f a H = callA C (n + 1) f a H := by
  unfold d233
  exact (by
  cases h : Nat.ble f 352
  · exact d232_e n f a H
  · exact d229_e n f a H)
noncomputable def d234 (bd : B3) (call : FuncId → List V → Heap → Option R) (n : Nat) (f : FuncId) (a : List V) (H : Heap) : Option R := (bif Nat.ble f 336 then d228 bd call n f a H else d233 bd call n f a H)
theorem d234_e (n : Nat) (f : FuncId) (a : List V) (H : Heap) : d234 @bdI (callA C n) n f a H = callA C (n + 1) f a H := by
  unfold d234
  exact (by
  cases h : Nat.ble f 336
  · exact d233_e n f a H
  · exact d228_e n f a H)
noncomputable def d235 (bd : B3) (call : FuncId → List V → Heap → Option R) (n : Nat) (f : FuncId) (a : List V) (H : Heap) : Option R := (bif Nat.ble f 334 then d225 bd call n f a H else d234 bd call n f a H)
theorem d235_e (n : Nat) (f : FuncId) (a : List V) (H : Heap) : d235 @bdI (callA C n) n f a H = callA C (n + 1) f a H := by
  unfold d235
  exact (by
  cases h : Nat.ble f 334
  · exact d234_e n f a H
  · exact d225_e n f a H)
noncomputable def d236 (bd : B3) (call : FuncId → List V → Heap → Option R) (n : Nat) (f : FuncId) (a : List V) (H : Heap) : Option R := (bif Nat.ble f 330 then d218 bd call n f a H else d235 bd call n f a H)
theorem d236_e (n : Nat) (f : FuncId) (a : List V) (H : Heap) : d236 @bdI (callA C n) n f a H = callA C (n + 1) f a H := by
  unfold d236
  exact (by
  cases h : Nat.ble f 330
  · exact d235_e n f a H
  · exact d218_e n f a H)
noncomputable def d237 (bd : B3) (call : FuncId → List V → Heap → Option R) (n : Nat) (f : FuncId) (a : List V) (H : Heap) : Option R := (bif Nat.beq f 355 then cover_part.rf bd call n a H else bodyA C (fcall call) n f a H)
theorem d237_e (n : Nat) (f : FuncId) (a : List V) (H : Heap) : d237 @bdI (callA C n) n f a H = callA C (n + 1) f a H := by
  unfold d237
  exact (by
  cases h : Nat.beq f 355
  · exact bodyA_e
  · have h := Nat.eq_of_beq_eq_true h; subst h; exact cover_part.rf_e n a H)
noncomputable def d238 (bd : B3) (call : FuncId → List V → Heap → Option R) (n : Nat) (f : FuncId) (a : List V) (H : Heap) : Option R := (bif Nat.beq f 358 then slices_Index_int_int.rf bd call n a H else bodyA C (fcall call) n f a H)
theorem d238_e (n : Nat) (f : FuncId) (a : List V) (H : Heap) : d238 @bdI (callA C n) n f a H = callA C (n + 1) f a H := by
  unfold d238
  exact (by
  cases h : Nat.beq f 358
  · exact bodyA_e
  · have h := Nat.eq_of_beq_eq_true h; subst h; exact slices_Index_int_int.rf_e n a H)
noncomputable def d239 (bd : B3) (call : FuncId → List V → Heap → Option R) (n : Nat) (f : FuncId) (a : List V) (H : Heap) : Option R := (bif Nat.ble f 355 then d237 bd call n f a H else d238 bd call n f a H)
theorem d239_e (n : Nat) (f : FuncId) (a : List V) (H : Heap) : d239 @bdI (callA C n) n f a H = callA C (n + 1) f a H := by
  unfold d239
  exact (by
  cases h : Nat.ble f 355
  · exact d238_e n f a H
  · exact d237_e n f a H)
noncomputable def d240 (bd : B3) (call : FuncId → List V → Heap → Option R) (n : Nat) (f : FuncId) (a : List V) (H : Heap) : Option R := (bif Nat.beq f 366 then pred_orient.rf bd call n a H else bodyA C (fcall call) n f a H)
theorem d240_e (n : Nat) (f : FuncId) (a : List V) (H : Heap) : d240 @bdI (callA C n) n f a H = callA C (n + 1) f a H := by
  unfold d240
  exact (by
  cases h : Nat.beq f 366
  · exact bodyA_e
  · have h := Nat.eq_of_beq_eq_true h; subst h; exact pred_orient.rf_e n a H)
noncomputable def d241 (bd : B3) (call : FuncId → List V → Heap → Option R) (n : Nat) (f : FuncId) (a : List V) (H : Heap) : Option R := (bif Nat.beq f 371 then nat_Of.rf bd call n a H else bodyA C (fcall call) n f a H)
theorem d241_e (n : Nat) (f : FuncId) (a : List V) (H : Heap) : d241 @bdI (callA C n) n f a H = callA C (n + 1) f a H := by
  unfold d241
  exact (by
  cases h : Nat.beq f 371
  · exact bodyA_e
  · have h := Nat.eq_of_beq_eq_true h; subst h; exact nat_Of.rf_e n a H)
noncomputable def d242 (bd : B3) (call : FuncId → List V → Heap → Option R) (n : Nat) (f : FuncId) (a : List V) (H : Heap) : Option R := (bif Nat.ble f 366 then d240 bd call n f a H else d241 bd call n f a H)
theorem d242_e (n : Nat) (f : FuncId) (a : List V) (H : Heap) : d242 @bdI (callA C n) n f a H = callA C (n + 1) f a H := by
  unfold d242
  exact (by
  cases h : Nat.ble f 366
  · exact d241_e n f a H
  · exact d240_e n f a H)
noncomputable def d243 (bd : B3) (call : FuncId → List V → Heap → Option R) (n : Nat) (f : FuncId) (a : List V) (H : Heap) : Option R := (bif Nat.ble f 358 then d239 bd call n f a H else d242 bd call n f a H)
theorem d243_e (n : Nat) (f : FuncId) (a : List V) (H : Heap) : d243 @bdI (callA C n) n f a H = callA C (n + 1) f a H := by
  unfold d243
  exact (by
  cases h : Nat.ble f 358
  · exact d242_e n f a H
  · exact d239_e n f a H)
noncomputable def d244 (bd : B3) (call : FuncId → List V → Heap → Option R) (n : Nat) (f : FuncId) (a : List V) (H : Heap) : Option R := (bif Nat.beq f 372 then quad_Sign.rf bd call n a H else bodyA C (fcall call) n f a H)
theorem d244_e (n : Nat) (f : FuncId) (a : List V) (H : Heap) : d244 @bdI (callA C n) n f a H = callA C (n + 1) f a H := by
  unfold d244
  exact (by
  cases h : Nat.beq f 372
  · exact bodyA_e
  · have h := Nat.eq_of_beq_eq_true h; subst h; exact quad_Sign.rf_e n a H)
noncomputable def d245 (bd : B3) (call : FuncId → List V → Heap → Option R) (n : Nat) (f : FuncId) (a : List V) (H : Heap) : Option R := (bif Nat.beq f 374 then quad_of.rf bd call n a H else bodyA C (fcall call) n f a H)
theorem d245_e (n : Nat) (f : FuncId) (a : List V) (H : Heap) : d245 @bdI (callA C n) n f a H = callA C (n + 1) f a H := by
  unfold d245
  exact (by
  cases h : Nat.beq f 374
  · exact bodyA_e
  · have h := Nat.eq_of_beq_eq_true h; subst h; exact quad_of.rf_e n a H)
noncomputable def d246 (bd : B3) (call : FuncId → List V → Heap → Option R) (n : Nat) (f : FuncId) (a : List V) (H : Heap) : Option R := (bif Nat.ble f 372 then d244 bd call n f a H else d245 bd call n f a H)
theorem d246_e (n : Nat) (f : FuncId) (a : List V) (H : Heap) : d246 @bdI (callA C n) n f a H = callA C (n + 1) f a H := by
  unfold d246
  exact (by
  cases h : Nat.ble f 372
  · exact d245_e n f a H
  · exact d244_e n f a H)
noncomputable def d247 (bd : B3) (call : FuncId → List V → Heap → Option R) (n : Nat) (f : FuncId) (a : List V) (H : Heap) : Option R := (bif Nat.beq f 375 then wide_Sub.rf bd call n a H else bodyA C (fcall call) n f a H)
theorem d247_e (n : Nat) (f : FuncId) (a : List V) (H : Heap) : d247 @bdI (callA C n) n f a H = callA C (n + 1) f a H := by
  unfold d247
  exact (by
  cases h : Nat.beq f 375
  · exact bodyA_e
  · have h := Nat.eq_of_beq_eq_true h; subst h; exact wide_Sub.rf_e n a H)
noncomputable def d248 (bd : B3) (call : FuncId → List V → Heap → Option R) (n : Nat) (f : FuncId) (a : List V) (H : Heap) : Option R := (bif Nat.beq f 379 then nat_Mul.rf bd call n a H else bodyA C (fcall call) n f a H)
theorem d248_e (n : Nat) (f : FuncId) (a : List V) (H : Heap) : d248 @bdI (callA C n) n f a H = callA C (n + 1) f a H := by
  unfold d248
  exact (by
  cases h : Nat.beq f 379
  · exact bodyA_e
  · have h := Nat.eq_of_beq_eq_true h; subst h; exact nat_Mul.rf_e n a H)
noncomputable def d249 (bd : B3) (call : FuncId → List V → Heap → Option R) (n : Nat) (f : FuncId) (a : List V) (H : Heap) : Option R := (bif Nat.beq f 384 then nat_size.rf bd call n a H else bodyA C (fcall call) n f a H)
theorem d249_e (n : Nat) (f : FuncId) (a : List V) (H : Heap) : d249 @bdI (callA C n) n f a H = callA C (n + 1) f a H := by
  unfold d249
  exact (by
  cases h : Nat.beq f 384
  · exact bodyA_e
  · have h := Nat.eq_of_beq_eq_true h; subst h; exact nat_size.rf_e n a H)
noncomputable def d250 (bd : B3) (call : FuncId → List V → Heap → Option R) (n : Nat) (f : FuncId) (a : List V) (H : Heap) : Option R := (bif Nat.ble f 379 then d248 bd call n f a H else d249 bd call n f a H)
theorem d250_e (n : Nat) (f : FuncId) (a : List V) (H : Heap) : d250 @bdI (callA C n) n f a H = callA C (n + 1) f a H := by
  unfold d250
  exact (by
  cases h : Nat.ble f 379
  · exact d249_e n f a H
  · exact d248_e n f a H)
noncomputable def d251 (bd : B3) (call : FuncId → List V → Heap → Option R) (n : Nat) (f : FuncId) (a : List V) (H : Heap) : Option R := (bif Nat.ble f 375 then d247 bd call n f a H else d250 bd call n f a H)
theorem d251_e (n : Nat) (f : FuncId) (a : List V) (H : Heap) : d251 @bdI (callA C n) n f a H = callA C (n + 1) f a H := by
  unfold d251
  exact (by
  cases h : Nat.ble f 375
  · exact d250_e n f a H
  · exact d247_e n f a H)
noncomputable def d252 (bd : B3) (call : FuncId → List V → Heap → Option R) (n : Nat) (f : FuncId) (a : List V) (H : Heap) : Option R := (bif Nat.ble f 374 then d246 bd call n f a H else d251 bd call n f a H)
theorem d252_e (n : Nat) (f : FuncId) (a : List V) (H : Heap) : d252 @bdI (callA C n) n f a H = callA C (n + 1) f a H := by
  unfold d252
  exact (by
  cases h : Nat.ble f 374
  · exact d251_e n f a H
  · exact d246_e n f a H)
noncomputable def d253 (bd : B3) (call : FuncId → List V → Heap → Option R) (n : Nat) (f : FuncId) (a : List V) (H : Heap) : Option R := (bif Nat.ble f 371 then d243 bd call n f a H else d252 bd call n f a H)
theorem d253_e (n : Nat) (f : FuncId) (a : List V) (H : Heap) : d253 @bdI (callA C n) n f a H = callA C (n + 1) f a H := by
  unfold d253
  exact (by
  cases h : Nat.ble f 371
  · exact d252_e n f a H
  · exact d243_e n f a H)
noncomputable def d254 (bd : B3) (call : FuncId → List V → Heap → Option R) (n : Nat) (f : FuncId) (a : List V) (H : Heap) : Option R := (bif Nat.beq f 386 then mesh_Mesh_face.rf bd call n a H else bodyA C (fcall call) n f a H)
theorem d254_e (n : Nat) (f : FuncId) (a : List V) (H : Heap) : d254 @bdI (callA C n) n f a H = callA C (n + 1) f a H := by
  unfold d254
  exact (by
  cases h : Nat.beq f 386
  · exact bodyA_e
  · have h := Nat.eq_of_beq_eq_true h; subst h; exact mesh_Mesh_face.rf_e n a H)
noncomputable def d255 (bd : B3) (call : FuncId → List V → Heap → Option R) (n : Nat) (f : FuncId) (a : List V) (H : Heap) : Option R := (bif Nat.beq f 387 then mesh_Mesh_place.rf bd call n a H else bodyA C (fcall call) n f a H)
theorem d255_e (n : Nat) (f : FuncId) (a : List V) (H : Heap) : d255 @bdI (callA C n) n f a H = callA C (n + 1) f a H := by
  unfold d255
  exact (by
  cases h : Nat.beq f 387
  · exact bodyA_e
  · have h := Nat.eq_of_beq_eq_true h; subst h; exact mesh_Mesh_place.rf_e n a H)
noncomputable def d256 (bd : B3) (call : FuncId → List V → Heap → Option R) (n : Nat) (f : FuncId) (a : List V) (H : Heap) : Option R := (bif Nat.ble f 386 then d254 bd call n f a H else d255 bd call n f a H)
theorem d256_e (n : Nat) (f : FuncId) (a : List V) (H : Heap) : d256 @bdI (callA C n) n f a H = callA C (n + 1) f a H := by
  unfold d256
  exact (by
  cases h : Nat.ble f 386
  · exact d255_e n f a H
  · exact d254_e n f a H)
noncomputable def d257 (bd : B3) (call : FuncId → List V → Heap → Option R) (n : Nat) (f : FuncId) (a : List V) (H : Heap) : Option R := (bif Nat.beq f 388 then mesh_third.rf bd call n a H else bodyA C (fcall call) n f a H)
theorem d257_e (n : Nat) (f : FuncId) (a : List V) (H : Heap) : d257 @bdI (callA C n) n f a H = callA C (n + 1) f a H := by
  unfold d257
  exact (by
  cases h : Nat.beq f 388
  · exact bodyA_e
  · have h := Nat.eq_of_beq_eq_true h; subst h; exact mesh_third.rf_e n a H)
noncomputable def d258 (bd : B3) (call : FuncId → List V → Heap → Option R) (n : Nat) (f : FuncId) (a : List V) (H : Heap) : Option R := (bif Nat.beq f 390 then arena_Arena_Live.rf bd call n a H else bodyA C (fcall call) n f a H)
theorem d258_e (n : Nat) (f : FuncId) (a : List V) (H : Heap) : d258 @bdI (callA C n) n f a H = callA C (n + 1) f a H := by
  unfold d258
  exact (by
  cases h : Nat.beq f 390
  · exact bodyA_e
  · have h := Nat.eq_of_beq_eq_true h; subst h; exact arena_Arena_Live.rf_e n a H)
noncomputable def d259 (bd : B3) (call : FuncId → List V → Heap → Option R) (n : Nat) (f : FuncId) (a : List V) (H : Heap) : Option R := (bif Nat.ble f 388 then d257 bd call n f a H else d258 bd call n f a H)
theorem d259_e (n : Nat) (f : FuncId) (a : List V) (H : Heap) : d259 @bdI (callA C n) n f a H = callA C (n + 1) f a H := by
  unfold d259
  exact (by
  cases h : Nat.ble f 388
  · exact d258_e n f a H
  · exact d257_e n f a H)
noncomputable def d260 (bd : B3) (call : FuncId → List V → Heap → Option R) (n : Nat) (f : FuncId) (a : List V) (H : Heap) : Option R := (bif Nat.ble f 387 then d256 bd call n f a H else d259 bd call n f a H)
theorem d260_e (n : Nat) (f : FuncId) (a : List V) (H : Heap) : d260 @bdI (callA C n) n f a H = callA C (n + 1) f a H := by
  unfold d260
  exact (by
  cases h : Nat.ble f 387
  · exact d259_e n f a H
  · exact d256_e n f a H)
noncomputable def d261 (bd : B3) (call : FuncId → List V → Heap → Option R) (n : Nat) (f : FuncId) (a : List V) (H : Heap) : Option R := (bif Nat.beq f 407 then quad_Mul.rf bd call n a H else bodyA C (fcall call) n f a H)
theorem d261_e (n : Nat) (f : FuncId) (a : List V) (H : Heap) : d261 @bdI (callA C n) n f a H = callA C (n + 1) f a H := by
  unfold d261
  exact (by
  cases h : Nat.beq f 407
  · exact bodyA_e
  · have h := Nat.eq_of_beq_eq_true h; subst h; exact quad_Mul.rf_e n a H)
noncomputable def d262 (bd : B3) (call : FuncId → List V → Heap → Option R) (n : Nat) (f : FuncId) (a : List V) (H : Heap) : Option R := (bif Nat.beq f 415 then wide_Sign.rf bd call n a H else bodyA C (fcall call) n f a H)
theorem d262_e (n : Nat) (f : FuncId) (a : List V) (H : Heap) : d262 @bdI (callA C n) n f a H = callA C (n + 1) f a H := by
  unfold d262
  exact (by
  cases h : Nat.beq f 415
  · exact bodyA_e
  · have h := Nat.eq_of_beq_eq_true h; subst h; exact wide_Sign.rf_e n a H)
noncomputable def d263 (bd : B3) (call : FuncId → List V → Heap → Option R) (n : Nat) (f : FuncId) (a : List V) (H : Heap) : Option R := (bif Nat.ble f 407 then d261 bd call n f a H else d262 bd call n f a H)
theorem d263_e (n : Nat) (f : FuncId) (a : List V) (H : Heap) : d263 @bdI (callA C n) n f a H = callA C (n + 1) f a H := by
  unfold d263
  exact (by
  cases h : Nat.ble f 407
  · exact d262_e n f a H
  · exact d261_e n f a H)
noncomputable def d264 (bd : B3) (call : FuncId → List V → Heap → Option R) (n : Nat) (f : FuncId) (a : List V) (H : Heap) : Option R := (bif Nat.beq f 418 then quad_below.rf bd call n a H else bodyA C (fcall call) n f a H)
theorem d264_e (n : Nat) (f : FuncId) (a : List V) (H : Heap) : d264 @bdI (callA C n) n f a H = callA C (n + 1) f a H := by
  unfold d264
  exact (by
  cases h : Nat.beq f 418
  · exact bodyA_e
  · have h := Nat.eq_of_beq_eq_true h; subst h; exact quad_below.rf_e n a H)
noncomputable def d265 (bd : B3) (call : FuncId → List V → Heap → Option R) (n : Nat) (f : FuncId) (a : List V) (H : Heap) : Option R := (bif Nat.beq f 434 then quad_apart.rf bd call n a H else bodyA C (fcall call) n f a H)
theorem d265_e (n : Nat) (f : FuncId) (a : List V) (H : Heap) : d265 @bdI (callA C n) n f a H = callA C (n + 1) f a H := by
  unfold d265
  exact (by
  cases h : Nat.beq f 434
  · exact bodyA_e
  · have h := Nat.eq_of_beq_eq_true h; subst h; exact quad_apart.rf_e n a H)
noncomputable def d266 (bd : B3) (call : FuncId → List V → Heap → Option R) (n : Nat) (f : FuncId) (a : List V) (H : Heap) : Option R := (bif Nat.beq f 436 then wide_sign.rf bd call n a H else bodyA C (fcall call) n f a H)
theorem d266_e (n : Nat) (f : FuncId) (a : List V) (H : Heap) : d266 @bdI (callA C n) n f a H = callA C (n + 1) f a H := by
  unfold d266
  exact (by
  cases h : Nat.beq f 436
  · exact bodyA_e
  · have h := Nat.eq_of_beq_eq_true h; subst h; exact wide_sign.rf_e n a H)
noncomputable def d267 (bd : B3) (call : FuncId → List V → Heap → Option R) (n : Nat) (f : FuncId) (a : List V) (H : Heap) : Option R := (bif Nat.ble f 434 then d265 bd call n f a H else d266 bd call n f a H)
theorem d267_e (n : Nat) (f : FuncId) (a : List V) (H : Heap) : d267 @bdI (callA C n) n f a H = callA C (n + 1) f a H := by
  unfold d267
  exact (by
  cases h : Nat.ble f 434
  · exact d266_e n f a H
  · exact d265_e n f a H)
noncomputable def d268 (bd : B3) (call : FuncId → List V → Heap → Option R) (n : Nat) (f : FuncId) (a : List V) (H : Heap) : Option R := (bif Nat.ble f 418 then d264 bd call n f a H else d267 bd call n f a H)
theorem d268_e (n : Nat) (f : FuncId) (a : List V) (H : Heap) : d268 @bdI (callA C n) n f a H = callA C (n + 1) f a H := by
  unfold d268
  exact (by
  cases h : Nat.ble f 418
  · exact d267_e n f a H
  · exact d264_e n f a H)
noncomputable def d269 (bd : B3) (call : FuncId → List V → Heap → Option R) (n : Nat) (f : FuncId) (a : List V) (H : Heap) : Option R := (bif Nat.ble f 415 then d263 bd call n f a H else d268 bd call n f a H)
theorem d269_e (n : Nat) (f : FuncId) (a : List V) (H : Heap) : d269 @bdI (callA C n) n f a H = callA C (n + 1) f a H := by
  unfold d269
  exact (by
  cases h : Nat.ble f 415
  · exact d268_e n f a H
  · exact d263_e n f a H)
noncomputable def d270 (bd : B3) (call : FuncId → List V → Heap → Option R) (n : Nat) (f : FuncId) (a : List V) (H : Heap) : Option R := (bif Nat.ble f 390 then d260 bd call n f a H else d269 bd call n f a H)
theorem d270_e (n : Nat) (f : FuncId) (a : List V) (H : Heap) : d270 @bdI (callA C n) n f a H = callA C (n + 1) f a H := by
  unfold d270
  exact (by
  cases h : Nat.ble f 390
  · exact d269_e n f a H
  · exact d260_e n f a H)
noncomputable def d271 (bd : B3) (call : FuncId → List V → Heap → Option R) (n : Nat) (f : FuncId) (a : List V) (H : Heap) : Option R := (bif Nat.ble f 384 then d253 bd call n f a H else d270 bd call n f a H)
theorem d271_e (n : Nat) (f : FuncId) (a : List V) (H : Heap) : d271 @bdI (callA C n) n f a H = callA C (n + 1) f a H := by
  unfold d271
  exact (by
  cases h : Nat.ble f 384
  · exact d270_e n f a H
  · exact d253_e n f a H)
noncomputable def d272 (bd : B3) (call : FuncId → List V → Heap → Option R) (n : Nat) (f : FuncId) (a : List V) (H : Heap) : Option R := (bif Nat.ble f 354 then d236 bd call n f a H else d271 bd call n f a H)
theorem d272_e (n : Nat) (f : FuncId) (a : List V) (H : Heap) : d272 @bdI (callA C n) n f a H = callA C (n + 1) f a H := by
  unfold d272
  exact (by
  cases h : Nat.ble f 354
  · exact d271_e n f a H
  · exact d236_e n f a H)
noncomputable def d273 (bd : B3) (call : FuncId → List V → Heap → Option R) (n : Nat) (f : FuncId) (a : List V) (H : Heap) : Option R := (bif Nat.ble f 312 then d203 bd call n f a H else d272 bd call n f a H)
theorem d273_e (n : Nat) (f : FuncId) (a : List V) (H : Heap) : d273 @bdI (callA C n) n f a H = callA C (n + 1) f a H := by
  unfold d273
  exact (by
  cases h : Nat.ble f 312
  · exact d272_e n f a H
  · exact d203_e n f a H)
noncomputable def d274 (bd : B3) (call : FuncId → List V → Heap → Option R) (n : Nat) (f : FuncId) (a : List V) (H : Heap) : Option R := (bif Nat.ble f 192 then d136 bd call n f a H else d273 bd call n f a H)
theorem d274_e (n : Nat) (f : FuncId) (a : List V) (H : Heap) : d274 @bdI (callA C n) n f a H = callA C (n + 1) f a H := by
  unfold d274
  exact (by
  cases h : Nat.ble f 192
  · exact d273_e n f a H
  · exact d136_e n f a H)
noncomputable def ev (bd : B3) (n : Nat) : FuncId → List V → Heap → Option R := Nat.rec (motive := fun _ => FuncId → List V → Heap → Option R) (fun _ _ _ => none) (fun n ih => d274 bd ih n) n
theorem ev_e (n : Nat) : ev @bf n = callA C n := by
  rw [bf_is]
  induction n with
  | zero => funext f a H; unfold callA; rfl
  | succ n ih => funext f a H; exact (congrArg (fun c => d274 @bdI c n f a H) ih).trans (d274_e n f a H)
end Go.AM.L
end
