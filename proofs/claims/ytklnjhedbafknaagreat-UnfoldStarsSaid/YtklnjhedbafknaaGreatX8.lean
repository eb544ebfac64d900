/- Merged by program from: UvLE. -/
import Derived.Test.YtklnjhedbafknaaGreatX7
section
set_option linter.unusedVariables false
set_option linter.unusedSimpArgs false
set_option maxRecDepth 1000000
namespace Go.AM.L
noncomputable def d0 (bd : B3) (call : FuncId → List V → Heap → Option R) (n : Nat) (f : FuncId) (a : List V) (H : Heap) : Option R := (bif Nat.beq f 5 then law18_lives.rf bd call n a H else bodyA C (fcall call) n f a H)
theorem d0_e (n : Nat) (f : FuncId) (a : List V) (H : Heap) : d0 @bdI (callA C n) n f a H = callA C (n + 1) f a H := by
  unfold d0
  exact (by
  cases h : Nat.beq f 5
  · exact bodyA_e
  · have h := Nat.eq_of_beq_eq_true h; subst h; exact law18_lives.rf_e n a H)
noncomputable def d1 (bd : B3) (call : FuncId → List V → Heap → Option R) (n : Nat) (f : FuncId) (a : List V) (H : Heap) : Option R := (bif Nat.beq f 6 then unfold_Star.rf bd call n a H else bodyA C (fcall call) n f a H)
theorem d1_e (n : Nat) (f : FuncId) (a : List V) (H : Heap) : d1 @bdI (callA C n) n f a H = callA C (n + 1) f a H := by
  unfold d1
  exact (by
  cases h : Nat.beq f 6
  · exact bodyA_e
  · have h := Nat.eq_of_beq_eq_true h; subst h; exact unfold_Star.rf_e n a H)
noncomputable def d2 (bd : B3) (call : FuncId → List V → Heap → Option R) (n : Nat) (f : FuncId) (a : List V) (H : Heap) : Option R := (bif Nat.ble f 5 then d0 bd call n f a H else d1 bd call n f a H)
theorem d2_e (n : Nat) (f : FuncId) (a : List V) (H : Heap) : d2 @bdI (callA C n) n f a H = callA C (n + 1) f a H := by
  unfold d2
  exact (by
  cases h : Nat.ble f 5
  · exact d1_e n f a H
  · exact d0_e n f a H)
noncomputable def d3 (bd : B3) (call : FuncId → List V → Heap → Option R) (n : Nat) (f : FuncId) (a : List V) (H : Heap) : Option R := (bif Nat.beq f 9 then law17_Plays.rf bd call n a H else bodyA C (fcall call) n f a H)
theorem d3_e (n : Nat) (f : FuncId) (a : List V) (H : Heap) : d3 @bdI (callA C n) n f a H = callA C (n + 1) f a H := by
  unfold d3
  exact (by
  cases h : Nat.beq f 9
  · exact bodyA_e
  · have h := Nat.eq_of_beq_eq_true h; subst h; exact law17_Plays.rf_e n a H)
noncomputable def d4 (bd : B3) (call : FuncId → List V → Heap → Option R) (n : Nat) (f : FuncId) (a : List V) (H : Heap) : Option R := (bif Nat.beq f 10 then unfold_Faces.rf bd call n a H else bodyA C (fcall call) n f a H)
theorem d4_e (n : Nat) (f : FuncId) (a : List V) (H : Heap) : d4 @bdI (callA C n) n f a H = callA C (n + 1) f a H := by
  unfold d4
  exact (by
  cases h : Nat.beq f 10
  · exact bodyA_e
  · have h := Nat.eq_of_beq_eq_true h; subst h; exact unfold_Faces.rf_e n a H)
noncomputable def d5 (bd : B3) (call : FuncId → List V → Heap → Option R) (n : Nat) (f : FuncId) (a : List V) (H : Heap) : Option R := (bif Nat.ble f 9 then d3 bd call n f a H else d4 bd call n f a H)
theorem d5_e (n : Nat) (f : FuncId) (a : List V) (H : Heap) : d5 @bdI (callA C n) n f a H = callA C (n + 1) f a H := by
  unfold d5
  exact (by
  cases h : Nat.ble f 9
  · exact d4_e n f a H
  · exact d3_e n f a H)
noncomputable def d6 (bd : B3) (call : FuncId → List V → Heap → Option R) (n : Nat) (f : FuncId) (a : List V) (H : Heap) : Option R := (bif Nat.ble f 6 then d2 bd call n f a H else d5 bd call n f a H)
theorem d6_e (n : Nat) (f : FuncId) (a : List V) (H : Heap) : d6 @bdI (callA C n) n f a H = callA C (n + 1) f a H := by
  unfold d6
  exact (by
  cases h : Nat.ble f 6
  · exact d5_e n f a H
  · exact d2_e n f a H)
noncomputable def d7 (bd : B3) (call : FuncId → List V → Heap → Option R) (n : Nat) (f : FuncId) (a : List V) (H : Heap) : Option R := (bif Nat.beq f 11 then pdt_Engine_Dump.rf bd call n a H else bodyA C (fcall call) n f a H)
theorem d7_e (n : Nat) (f : FuncId) (a : List V) (H : Heap) : d7 @bdI (callA C n) n f a H = callA C (n + 1) f a H := by
  unfold d7
  exact (by
  cases h : Nat.beq f 11
  · exact bodyA_e
  · have h := Nat.eq_of_beq_eq_true h; subst h; exact pdt_Engine_Dump.rf_e n a H)
noncomputable def d8 (bd : B3) (call : FuncId → List V → Heap → Option R) (n : Nat) (f : FuncId) (a : List V) (H : Heap) : Option R := (bif Nat.beq f 12 then unfold_Holds.rf bd call n a H else bodyA C (fcall call) n f a H)
theorem d8_e (n : Nat) (f : FuncId) (a : List V) (H : Heap) : d8 @bdI (callA C n) n f a H = callA C (n + 1) f a H := by
  unfold d8
  exact (by
  cases h : Nat.beq f 12
  · exact bodyA_e
  · have h := Nat.eq_of_beq_eq_true h; subst h; exact unfold_Holds.rf_e n a H)
noncomputable def d9 (bd : B3) (call : FuncId → List V → Heap → Option R) (n : Nat) (f : FuncId) (a : List V) (H : Heap) : Option R := (bif Nat.ble f 11 then d7 bd call n f a H else d8 bd call n f a H)
theorem d9_e (n : Nat) (f : FuncId) (a : List V) (H : Heap) : d9 @bdI (callA C n) n f a H = callA C (n + 1) f a H := by
  unfold d9
  exact (by
  cases h : Nat.ble f 11
  · exact d8_e n f a H
  · exact d7_e n f a H)
noncomputable def d10 (bd : B3) (call : FuncId → List V → Heap → Option R) (n : Nat) (f : FuncId) (a : List V) (H : Heap) : Option R := (bif Nat.beq f 13 then pdt_Engine_Sites.rf bd call n a H else bodyA C (fcall call) n f a H)
theorem d10_e (n : Nat) (f : FuncId) (a : List V) (H : Heap) : d10 @bdI (callA C n) n f a H = callA C (n + 1) f a H := by
  unfold d10
  exact (by
  cases h : Nat.beq f 13
  · exact bodyA_e
  · have h := Nat.eq_of_beq_eq_true h; subst h; exact pdt_Engine_Sites.rf_e n a H)
noncomputable def d11 (bd : B3) (call : FuncId → List V → Heap → Option R) (n : Nat) (f : FuncId) (a : List V) (H : Heap) : Option R := (bif Nat.beq f 14 then unfold_star.rf bd call n a H else bodyA C (fcall call) n f a H)
theorem d11_e (n : Nat) (f : FuncId) (a : List V) (H : Heap) : d11 @bdI (callA C n) n f a H = callA C (n + 1) f a H := by
  unfold d11
  exact (by
  cases h : Nat.beq f 14
  · exact bodyA_e
  · have h := Nat.eq_of_beq_eq_true h; subst h; exact unfold_star.rf_e n a H)
noncomputable def d12 (bd : B3) (call : FuncId → List V → Heap → Option R) (n : Nat) (f : FuncId) (a : List V) (H : Heap) : Option R := (bif Nat.beq f 17 then law17_Side.rf bd call n a H else bodyA C (fcall call) n f a H)
theorem d12_e (n : Nat) (f : FuncId) (a : List V) (H : Heap) : d12 @bdI (callA C n) n f a H = callA C (n + 1) f a H := by
  unfold d12
  exact (by
  cases h : Nat.beq f 17
  · exact bodyA_e
  · have h := Nat.eq_of_beq_eq_true h; subst h; exact law17_Side.rf_e n a H)
noncomputable def d13 (bd : B3) (call : FuncId → List V → Heap → Option R) (n : Nat) (f : FuncId) (a : List V) (H : Heap) : Option R := (bif Nat.ble f 14 then d11 bd call n f a H else d12 bd call n f a H)
theorem d13_e (n : Nat) (f : FuncId) (a : List V) (H : Heap) : d13 @bdI (callA C n) n f a H = callA C (n + 1) f a H := by
  unfold d13
  exact (by
  cases h : Nat.ble f 14
  · exact d12_e n f a H
  · exact d11_e n f a H)
noncomputable def d14 (bd : B3) (call : FuncId → List V → Heap → Option R) (n : Nat) (f : FuncId) (a : List V) (H : Heap) : Option R := (bif Nat.ble f 13 then d10 bd call n f a H else d13 bd call n f a H)
theorem d14_e (n : Nat) (f : FuncId) (a : List V) (H : Heap) : d14 @bdI (callA C n) n f a H = callA C (n + 1) f a H := by
  unfold d14
  exact (by
  cases h : Nat.ble f 13
  · exact d13_e n f a H
  · exact d10_e n f a H)
noncomputable def d15 (bd : B3) (call : FuncId → List V → Heap → Option R) (n : Nat) (f : FuncId) (a : List V) (H : Heap) : Option R := (bif Nat.ble f 12 then d9 bd call n f a H else d14 bd call n f a H)
theorem d15_e (n : Nat) (f : FuncId) (a : List V) (H : Heap) : d15 @bdI (callA C n) n f a H = callA C (n + 1) f a H := by
  unfold d15
  exact (by
  cases h : Nat.ble f 12
  · exact d14_e n f a H
  · exact d9_e n f a H)
noncomputable def d16 (bd : B3) (call : FuncId → List V → Heap → Option R) (n : Nat) (f : FuncId) (a : List V) (H : Heap) : Option R := (bif Nat.ble f 10 then d6 bd call n f a H else d15 bd call n f a H)
theorem d16_e (n : Nat) (f : FuncId) (a : List V) (H : Heap) : d16 @bdI (callA C n) n f a H = callA C (n + 1) f a H := by
  unfold d16
  exact (by
  cases h : Nat.ble f 10
  · exact d15_e n f a H
  · exact d6_e n f a H)
noncomputable def d17 (bd : B3) (call : FuncId → List V → Heap → Option R) (n : Nat) (f : FuncId) (a : List V) (H : Heap) : Option R := (bif Nat.beq f 18 then law17_Room.rf bd call n a H else bodyA C (fcall call) n f a H)
theorem d17_e (n : Nat) (f : FuncId) (a : List V) (H : Heap) : d17 @bdI (callA C n) n f a H = callA C (n + 1) f a H := by
  unfold d17
  exact (by
  cases h : Nat.beq f 18
  · exact bodyA_e
  · have h := Nat.eq_of_beq_eq_true h; subst h; exact law17_Room.rf_e n a H)
noncomputable def d18 (bd : B3) (call : FuncId → List V → Heap → Option R) (n : Nat) (f : FuncId) (a : List V) (H : Heap) : Option R := (bif Nat.beq f 19 then pdt_Open.rf bd call n a H else bodyA C (fcall call) n f a H)
theorem d18_e (n : Nat) (f : FuncId) (a : List V) (H : Heap) : d18 @bdI (callA C n) n f a H = callA C (n + 1) f a H := by
  unfold d18
  exact (by
  cases h : Nat.beq f 19
  · exact bodyA_e
  · have h := Nat.eq_of_beq_eq_true h; subst h; exact pdt_Open.rf_e n a H)
noncomputable def d19 (bd : B3) (call : FuncId → List V → Heap → Option R) (n : Nat) (f : FuncId) (a : List V) (H : Heap) : Option R := (bif Nat.ble f 18 then d17 bd call n f a H else d18 bd call n f a H)
theorem d19_e (n : Nat) (f : FuncId) (a : List V) (H : Heap) : d19 @bdI (callA C n) n f a H = callA C (n + 1) f a H := by
  unfold d19
  exact (by
  cases h : Nat.ble f 18
  · exact d18_e n f a H
  · exact d17_e n f a H)
noncomputable def d20 (bd : B3) (call : FuncId → List V → Heap → Option R) (n : Nat) (f : FuncId) (a : List V) (H : Heap) : Option R := (bif Nat.beq f 20 then law17_Does.rf bd call n a H else bodyA C (fcall call) n f a H)
theorem d20_e (n : Nat) (f : FuncId) (a : List V) (H : Heap) : d20 @bdI (callA C n) n f a H = callA C (n + 1) f a H := by
  unfold d20
  exact (by
  cases h : Nat.beq f 20
  · exact bodyA_e
  · have h := Nat.eq_of_beq_eq_true h; subst h; exact law17_Does.rf_e n a H)
noncomputable def d21 (bd : B3) (call : FuncId → List V → Heap → Option R) (n : Nat) (f : FuncId) (a : List V) (H : Heap) : Option R := (bif Nat.beq f 21 then unfold_knot.rf bd call n a H else bodyA C (fcall call) n f a H)
theorem d21_e (n : Nat) (f : FuncId) (a : List V) (H : Heap) : d21 @bdI (callA C n) n f a H = callA C (n + 1) f a H := by
  unfold d21
  exact (by
  cases h : Nat.beq f 21
  · exact bodyA_e
  · have h := Nat.eq_of_beq_eq_true h; subst h; exact unfold_knot.rf_e n a H)
noncomputable def d22 (bd : B3) (call : FuncId → List V → Heap → Option R) (n : Nat) (f : FuncId) (a : List V) (H : Heap) : Option R := (bif Nat.ble f 20 then d20 bd call n f a H else d21 bd call n f a H)
theorem d22_e (n : Nat) (f : FuncId) (a : List V) (H : Heap) : d22 @bdI (callA C n) n f a H = callA C (n + 1) f a H := by
  unfold d22
  exact (by
  cases h : Nat.ble f 20
  · exact d21_e n f a H
  · exact d20_e n f a H)
noncomputable def d23 (bd : B3) (call : FuncId → List V → Heap → Option R) (n : Nat) (f : FuncId) (a : List V) (H : Heap) : Option R := (bif Nat.ble f 19 then d19 bd call n f a H else d22 bd call n f a H)
theorem d23_e (n : Nat) (f : FuncId) (a : List V) (H : Heap) : d23 @bdI (callA C n) n f a H = callA C (n + 1) f a H := by
  unfold d23
  exact (by
  cases h : Nat.ble f 19
  · exact d22_e n f a H
  · exact d19_e n f a H)
noncomputable def d24 (bd : B3) (call : FuncId → List V → Heap → Option R) (n : Nat) (f : FuncId) (a : List V) (H : Heap) : Option R := (bif Nat.beq f 22 then cover_Normal.rf bd call n a H else bodyA C (fcall call) n f a H)
theorem d24_e (n : Nat) (f : FuncId) (a : List V) (H : Heap) : d24 @bdI (callA C n) n f a H = callA C (n + 1) f a H := by
  unfold d24
  exact (by
  cases h : Nat.beq f 22
  · exact bodyA_e
  · have h := Nat.eq_of_beq_eq_true h; subst h; exact cover_Normal.rf_e n a H)
noncomputable def d25 (bd : B3) (call : FuncId → List V → Heap → Option R) (n : Nat) (f : FuncId) (a : List V) (H : Heap) : Option R := (bif Nat.beq f 23 then slices_SortFunc_api_Tri_api_Tri.rf bd call n a H else bodyA C (fcall call) n f a H)
theorem d25_e (n : Nat) (f : FuncId) (a : List V) (H : Heap) : d25 @bdI (callA C n) n f a H = callA C (n + 1) f a H := by
  unfold d25
  exact (by
  cases h : Nat.beq f 23
  · exact bodyA_e
  · have h := Nat.eq_of_beq_eq_true h; subst h; exact slices_SortFunc_api_Tri_api_Tri.rf_e n a H)
noncomputable def d26 (bd : B3) (call : FuncId → List V → Heap → Option R) (n : Nat) (f : FuncId) (a : List V) (H : Heap) : Option R := (bif Nat.ble f 22 then d24 bd call n f a H else d25 bd call n f a H)
theorem d26_e (n : Nat) (f : FuncId) (a : List V) (H : Heap) : d26 @bdI (callA C n) n f a H = callA C (n + 1) f a H := by
  unfold d26
  exact (by
  cases h : Nat.ble f 22
  · exact d25_e n f a H
  · exact d24_e n f a H)
noncomputable def d27 (bd : B3) (call : FuncId → List V → Heap → Option R) (n : Nat) (f : FuncId) (a : List V) (H : Heap) : Option R := (bif Nat.beq f 24 then cover_Cmp.rf bd call n a H else bodyA C (fcall call) n f a H)
theorem d27_e (n : Nat) (f : FuncId) (a : List V) (H : Heap) : d27 @bdI (callA C n) n f a H = callA C (n + 1) f a H := by
  unfold d27
  exact (by
  cases h : Nat.beq f 24
  · exact bodyA_e
  · have h := Nat.eq_of_beq_eq_true h; subst h; exact cover_Cmp.rf_e n a H)
noncomputable def d28 (bd : B3) (call : FuncId → List V → Heap → Option R) (n : Nat) (f : FuncId) (a : List V) (H : Heap) : Option R := (bif Nat.beq f 25 then slices_Compact_api_Tri_api_Tri.rf bd call n a H else bodyA C (fcall call) n f a H)
theorem d28_e (n : Nat) (f : FuncId) (a : List V) (H : Heap) : d28 @bdI (callA C n) n f a H = callA C (n + 1) f a H := by
  unfold d28
  exact (by
  cases h : Nat.beq f 25
  · exact bodyA_e
  · have h := Nat.eq_of_beq_eq_true h; subst h; exact slices_Compact_api_Tri_api_Tri.rf_e n a H)
noncomputable def d29 (bd : B3) (call : FuncId → List V → Heap → Option R) (n : Nat) (f : FuncId) (a : List V) (H : Heap) : Option R := (bif Nat.beq f 26 then mesh_Mesh_Dump.rf bd call n a H else bodyA C (fcall call) n f a H)
theorem d29_e (n : Nat) (f : FuncId) (a : List V) (H : Heap) : d29 @bdI (callA C n) n f a H = callA C (n + 1) f a H := by
  unfold d29
  exact (by
  cases h : Nat.beq f 26
  · exact bodyA_e
  · have h := Nat.eq_of_beq_eq_true h; subst h; exact mesh_Mesh_Dump.rf_e n a H)
noncomputable def d30 (bd : B3) (call : FuncId → List V → Heap → Option R) (n : Nat) (f : FuncId) (a : List V) (H : Heap) : Option R := (bif Nat.ble f 25 then d28 bd call n f a H else d29 bd call n f a H)
theorem d30_e (n : Nat) (f : FuncId) (a : List V) (H : Heap) : d30 @bdI (callA C n) n f a H = callA C (n + 1) f a H := by
  unfold d30
  exact (by
  cases h : Nat.ble f 25
  · exact d29_e n f a H
  · exact d28_e n f a H)
noncomputable def d31 (bd : B3) (call : FuncId → List V → Heap → Option R) (n : Nat) (f : FuncId) (a : List V) (H : Heap) : Option R := (bif Nat.ble f 24 then d27 bd call n f a H else d30 bd call n f a H)
theorem d31_e (n : Nat) (f : FuncId) (a : List V) (H : Heap) : d31 @bdI (callA C n) n f a H = callA C (n + 1) f a H := by
  unfold d31
  exact (by
  cases h : Nat.ble f 24
  · exact d30_e n f a H
  · exact d27_e n f a H)
noncomputable def d32 (bd : B3) (call : FuncId → List V → Heap → Option R) (n : Nat) (f : FuncId) (a : List V) (H : Heap) : Option R := (bif Nat.ble f 23 then d26 bd call n f a H else d31 bd call n f a H)
theorem d32_e (n : Nat) (f : FuncId) (a : List V) (H : Heap) : d32 @bdI (callA C n) n f a H = callA C (n + 1) f a H := by
  unfold d32
  exact (by
  cases h : Nat.ble f 23
  · exact d31_e n f a H
  · exact d26_e n f a H)
noncomputable def d33 (bd : B3) (call : FuncId → List V → Heap → Option R) (n : Nat) (f : FuncId) (a : List V) (H : Heap) : Option R := (bif Nat.ble f 21 then d23 bd call n f a H else d32 bd call n f a H)
theorem d33_e (n : Nat) (f : FuncId) (a : List V) (H : Heap) : d33 @bdI (callA C n) n f a H = callA C (n + 1) f a H := by
  unfold d33
  exact (by
  cases h : Nat.ble f 21
  · exact d32_e n f a H
  · exact d23_e n f a H)
noncomputable def d34 (bd : B3) (call : FuncId → List V → Heap → Option R) (n : Nat) (f : FuncId) (a : List V) (H : Heap) : Option R := (bif Nat.ble f 17 then d16 bd call n f a H else d33 bd call n f a H)
theorem d34_e (n : Nat) (f : FuncId) (a : List V) (H : Heap) : d34 @bdI (callA C n) n f a H = callA C (n + 1) f a H := by
  unfold d34
  exact (by
  cases h : Nat.ble f 17
  · exact d33_e n f a H
  · exact d16_e n f a H)
noncomputable def d35 (bd : B3) (call : FuncId → List V → Heap → Option R) (n : Nat) (f : FuncId) (a : List V) (H : Heap) : Option R := (bif Nat.beq f 28 then unfold_judge_add.rf bd call n a H else bodyA C (fcall call) n f a H)
theorem d35_e (n : Nat) (f : FuncId) (a : List V) (H : Heap) : d35 @bdI (callA C n) n f a H = callA C (n + 1) f a H := by
  unfold d35
  exact (by
  cases h : Nat.beq f 28
  · exact bodyA_e
  · have h := Nat.eq_of_beq_eq_true h; subst h; exact unfold_judge_add.rf_e n a H)
noncomputable def d36 (bd : B3) (call : FuncId → List V → Heap → Option R) (n : Nat) (f : FuncId) (a : List V) (H : Heap) : Option R := (bif Nat.beq f 29 then wide_Mul.rf bd call n a H else bodyA C (fcall call) n f a H)
theorem d36_e (n : Nat) (f : FuncId) (a : List V) (H : Heap) : d36 @bdI (callA C n) n f a H = callA C (n + 1) f a H := by
  unfold d36
  exact (by
  cases h : Nat.beq f 29
  · exact bodyA_e
  · have h := Nat.eq_of_beq_eq_true h; subst h; exact wide_Mul.rf_e n a H)
noncomputable def d37 (bd : B3) (call : FuncId → List V → Heap → Option R) (n : Nat) (f : FuncId) (a : List V) (H : Heap) : Option R := (bif Nat.ble f 28 then d35 bd call n f a H else d36 bd call n f a H)
theorem d37_e (n : Nat) (f : FuncId) (a : List V) (H : Heap) : d37 @bdI (callA C n) n f a H = callA C (n + 1) f a H := by
  unfold d37
  exact (by
  cases h : Nat.ble f 28
  · exact d36_e n f a H
  · exact d35_e n f a H)
noncomputable def d38 (bd : B3) (call : FuncId → List V → Heap → Option R) (n : Nat) (f : FuncId) (a : List V) (H : Heap) : Option R := (bif Nat.beq f 30 then unfold_judge_fine.rf bd call n a H else bodyA C (fcall call) n f a H)
theorem d38_e (n : Nat) (f : FuncId) (a : List V) (H : Heap) : d38 @bdI (callA C n) n f a H = callA C (n + 1) f a H := by
  unfold d38
  exact (by
  cases h : Nat.beq f 30
  · exact bodyA_e
  · have h := Nat.eq_of_beq_eq_true h; subst h; exact unfold_judge_fine.rf_e n a H)
noncomputable def d39 (bd : B3) (call : FuncId → List V → Heap → Option R) (n : Nat) (f : FuncId) (a : List V) (H : Heap) : Option R := (bif Nat.beq f 31 then slices_SortFunc_api_Place_api_Place.rf bd call n a H else bodyA C (fcall call) n f a H)
theorem d39_e (n : Nat) (f : FuncId) (a : List V) (H : Heap) : d39 @bdI (callA C n) n f a H = callA C (n + 1) f a H := by
  unfold d39
  exact (by
  cases h : Nat.beq f 31
  · exact bodyA_e
  · have h := Nat.eq_of_beq_eq_true h; subst h; exact slices_SortFunc_api_Place_api_Place.rf_e n a H)
noncomputable def d40 (bd : B3) (call : FuncId → List V → Heap → Option R) (n : Nat) (f : FuncId) (a : List V) (H : Heap) : Option R := (bif Nat.ble f 30 then d38 bd call n f a H else d39 bd call n f a H)
theorem d40_e (n : Nat) (f : FuncId) (a : List V) (H : Heap) : d40 @bdI (callA C n) n f a H = callA C (n + 1) f a H := by
  unfold d40
  exact (by
  cases h : Nat.ble f 30
  · exact d39_e n f a H
  · exact d38_e n f a H)
noncomputable def d41 (bd : B3) (call : FuncId → List V → Heap → Option R) (n : Nat) (f : FuncId) (a : List V) (H : Heap) : Option R := (bif Nat.ble f 29 then d37 bd call n f a H else d40 bd call n f a H)
theorem d41_e (n : Nat) (f : FuncId) (a : List V) (H : Heap) : d41 @bdI (callA C n) n f a H = callA C (n + 1) f a H := by
  unfold d41
  exact (by
  cases h : Nat.ble f 29
  · exact d40_e n f a H
  · exact d37_e n f a H)
noncomputable def d42 (bd : B3) (call : FuncId → List V → Heap → Option R) (n : Nat) (f : FuncId) (a : List V) (H : Heap) : Option R := (bif Nat.beq f 33 then unfold_from.rf bd call n a H else bodyA C (fcall call) n f a H)
theorem d42_e (n : Nat) (f : FuncId) (a : List V) (H : Heap) : d42 @bdI (callA C n) n f a H = callA C (n + 1) f a H := by
  unfold d42
  exact (by
  cases h : Nat.beq f 33
  · exact bodyA_e
  · have h := Nat.eq_of_beq_eq_true h; subst h; exact unfold_from.rf_e n a H)
noncomputable def d43 (bd : B3) (call : FuncId → List V → Heap → Option R) (n : Nat) (f : FuncId) (a : List V) (H : Heap) : Option R := (bif Nat.beq f 34 then slices_Index_api_Tri_api_Tri.rf bd call n a H else bodyA C (fcall call) n f a H)
theorem d43_e (n : Nat) (f : FuncId) (a : List V) (H : Heap) : d43 @bdI (callA C n) n f a H = callA C (n + 1) f a H := by
  unfold d43
  exact (by
  cases h : Nat.beq f 34
  · exact bodyA_e
  · have h := Nat.eq_of_beq_eq_true h; subst h; exact slices_Index_api_Tri_api_Tri.rf_e n a H)
noncomputable def d44 (bd : B3) (call : FuncId → List V → Heap → Option R) (n : Nat) (f : FuncId) (a : List V) (H : Heap) : Option R := (bif Nat.ble f 33 then d42 bd call n f a H else d43 bd call n f a H)
theorem d44_e (n : Nat) (f : FuncId) (a : List V) (H : Heap) : d44 @bdI (callA C n) n f a H = callA C (n + 1) f a H := by
  unfold d44
  exact (by
  cases h : Nat.ble f 33
  · exact d43_e n f a H
  · exact d42_e n f a H)
noncomputable def d45 (bd : B3) (call : FuncId → List V → Heap → Option R) (n : Nat) (f : FuncId) (a : List V) (H : Heap) : Option R := (bif Nat.beq f 35 then slices_MinFunc_api_Tri_api_Tri.rf bd call n a H else bodyA C (fcall call) n f a H)
theorem d45_e (n : Nat) (f : FuncId) (a : List V) (H : Heap) : d45 @bdI (callA C n) n f a H = callA C (n + 1) f a H := by
  unfold d45
  exact (by
  cases h : Nat.beq f 35
  · exact bodyA_e
  · have h := Nat.eq_of_beq_eq_true h; subst h; exact slices_MinFunc_api_Tri_api_Tri.rf_e n a H)
noncomputable def d46 (bd : B3) (call : FuncId → List V → Heap → Option R) (n : Nat) (f : FuncId) (a : List V) (H : Heap) : Option R := (bif Nat.beq f 37 then pdt_Engine_clear.rf bd call n a H else bodyA C (fcall call) n f a H)
theorem d46_e (n : Nat) (f : FuncId) (a : List V) (H : Heap) : d46 @bdI (callA C n) n f a H = callA C (n + 1) f a H := by
  unfold d46
  exact (by
  cases h : Nat.beq f 37
  · exact bodyA_e
  · have h := Nat.eq_of_beq_eq_true h; subst h; exact pdt_Engine_clear.rf_e n a H)
noncomputable def d47 (bd : B3) (call : FuncId → List V → Heap → Option R) (n : Nat) (f : FuncId) (a : List V) (H : Heap) : Option R := (bif Nat.beq f 46 then pdt_Engine_Insert.rf bd call n a H else bodyA C (fcall call) n f a H)
theorem d47_e (n : Nat) (f : FuncId) (a : List V) (H : Heap) : d47 @bdI (callA C n) n f a H = callA C (n + 1) f a H := by
  unfold d47
  exact (by
  cases h : Nat.beq f 46
  · exact bodyA_e
  · have h := Nat.eq_of_beq_eq_true h; subst h; exact pdt_Engine_Insert.rf_e n a H)
noncomputable def d48 (bd : B3) (call : FuncId → List V → Heap → Option R) (n : Nat) (f : FuncId) (a : List V) (H : Heap) : Option R := (bif Nat.ble f 37 then d46 bd call n f a H else d47 bd call n f a H)
theorem d48_e (n : Nat) (f : FuncId) (a : List V) (H : Heap) : d48 @bdI (callA C n) n f a H = callA C (n + 1) f a H := by
  unfold d48
  exact (by
  cases h : Nat.ble f 37
  · exact d47_e n f a H
  · exact d46_e n f a H)
noncomputable def d49 (bd : B3) (call : FuncId → List V → Heap → Option R) (n : Nat) (f : FuncId) (a : List V) (H : Heap) : Option R := (bif Nat.ble f 35 then d45 bd call n f a H else d48 bd call n f a H)
theorem d49_e (n : Nat) (f : FuncId) (a : List V) (H : Heap) : d49 @bdI (callA C n) n f a H = callA C (n + 1) f a H := by
  unfold d49
  exact (by
  cases h : Nat.ble f 35
  · exact d48_e n f a H
  · exact d45_e n f a H)
noncomputable def d50 (bd : B3) (call : FuncId → List V → Heap → Option R) (n : Nat) (f : FuncId) (a : List V) (H : Heap) : Option R := (bif Nat.ble f 34 then d44 bd call n f a H else d49 bd call n f a H)
theorem d50_e (n : Nat) (f : FuncId) (a : List V) (H : Heap) : d50 @bdI (callA C n) n f a H = callA C (n + 1) f a H := by
  unfold d50
  exact (by
  cases h : Nat.ble f 34
  · exact d49_e n f a H
  · exact d44_e n f a H)
noncomputable def d51 (bd : B3) (call : FuncId → List V → Heap → Option R) (n : Nat) (f : FuncId) (a : List V) (H : Heap) : Option R := (bif Nat.ble f 31 then d41 bd call n f a H else d50 bd call n f a H)
theorem d51_e (n : Nat) (f : FuncId) (a : List V) (H : Heap) : d51 @bdI (callA C n) n f a H = callA C (n + 1) f a H := by
  unfold d51
  exact (by
  cases h : Nat.ble f 31
  · exact d50_e n f a H
  · exact d41_e n f a H)
noncomputable def d52 (bd : B3) (call : FuncId → List V → Heap → Option R) (n : Nat) (f : FuncId) (a : List V) (H : Heap) : Option R := (bif Nat.beq f 47 then ref17_Engine_Insert.rf bd call n a H else bodyA C (fcall call) n f a H)
theorem d52_e (n : Nat) (f : FuncId) (a : List V) (H : Heap) : d52 @bdI (callA C n) n f a H = callA C (n + 1) f a H := by
  unfold d52
  exact (by
  cases h : Nat.beq f 47
  · exact bodyA_e
  · have h := Nat.eq_of_beq_eq_true h; subst h; exact ref17_Engine_Insert.rf_e n a H)
noncomputable def d53 (bd : B3) (call : FuncId → List V → Heap → Option R) (n : Nat) (f : FuncId) (a : List V) (H : Heap) : Option R := (bif Nat.beq f 48 then cover_normal.rf bd call n a H else bodyA C (fcall call) n f a H)
theorem d53_e (n : Nat) (f : FuncId) (a : List V) (H : Heap) : d53 @bdI (callA C n) n f a H = callA C (n + 1) f a H := by
  unfold d53
  exact (by
  cases h : Nat.beq f 48
  · exact bodyA_e
  · have h := Nat.eq_of_beq_eq_true h; subst h; exact cover_normal.rf_e n a H)
noncomputable def d54 (bd : B3) (call : FuncId → List V → Heap → Option R) (n : Nat) (f : FuncId) (a : List V) (H : Heap) : Option R := (bif Nat.ble f 47 then d52 bd call n f a H else d53 bd call n f a H)
theorem d54_e (n : Nat) (f : FuncId) (a : List V) (H : Heap) : d54 @bdI (callA C n) n f a H = callA C (n + 1) f a H := by
  unfold d54
  exact (by
  cases h : Nat.ble f 47
  · exact d53_e n f a H
  · exact d52_e n f a H)
noncomputable def d55 (bd : B3) (call : FuncId → List V → Heap → Option R) (n : Nat) (f : FuncId) (a : List V) (H : Heap) : Option R := (bif Nat.beq f 50 then math_bits_Len.rf bd call n a H else bodyA C (fcall call) n f a H)
theorem d55_e (n : Nat) (f : FuncId) (a : List V) (H : Heap) : d55 @bdI (callA C n) n f a H = callA C (n + 1) f a H := by
  unfold d55
  exact (by
  cases h : Nat.beq f 50
  · exact bodyA_e
  · have h := Nat.eq_of_beq_eq_true h; subst h; exact math_bits_Len.rf_e n a H)
noncomputable def d56 (bd : B3) (call : FuncId → List V → Heap → Option R) (n : Nat) (f : FuncId) (a : List V) (H : Heap) : Option R := (bif Nat.beq f 51 then cover_order.rf bd call n a H else bodyA C (fcall call) n f a H)
theorem d56_e (n : Nat) (f : FuncId) (a : List V) (H : Heap) : d56 @bdI (callA C n) n f a H = callA C (n + 1) f a H := by
  unfold d56
  exact (by
  cases h : Nat.beq f 51
  · exact bodyA_e
  · have h := Nat.eq_of_beq_eq_true h; subst h; exact cover_order.rf_e n a H)
noncomputable def d57 (bd : B3) (call : FuncId → List V → Heap → Option R) (n : Nat) (f : FuncId) (a : List V) (H : Heap) : Option R := (bif Nat.ble f 50 then d55 bd call n f a H else d56 bd call n f a H)
theorem d57_e (n : Nat) (f : FuncId) (a : List V) (H : Heap) : d57 @bdI (callA C n) n f a H = callA C (n + 1) f a H := by
  unfold d57
  exact (by
  cases h : Nat.ble f 50
  · exact d56_e n f a H
  · exact d55_e n f a H)
noncomputable def d58 (bd : B3) (call : FuncId → List V → Heap → Option R) (n : Nat) (f : FuncId) (a : List V) (H : Heap) : Option R := (bif Nat.ble f 48 then d54 bd call n f a H else d57 bd call n f a H)
theorem d58_e (n : Nat) (f : FuncId) (a : List V) (H : Heap) : d58 @bdI (callA C n) n f a H = callA C (n + 1) f a H := by
  unfold d58
  exact (by
  cases h : Nat.ble f 48
  · exact d57_e n f a H
  · exact d54_e n f a H)
noncomputable def d59 (bd : B3) (call : FuncId → List V → Heap → Option R) (n : Nat) (f : FuncId) (a : List V) (H : Heap) : Option R := (bif Nat.beq f 52 then arena_Arena_All.rf bd call n a H else bodyA C (fcall call) n f a H)
theorem d59_e (n : Nat) (f : FuncId) (a : List V) (H : Heap) : d59 @bdI (callA C n) n f a H = callA C (n + 1) f a H := by
  unfold d59
  exact (by
  cases h : Nat.beq f 52
  · exact bodyA_e
  · have h := Nat.eq_of_beq_eq_true h; subst h; exact arena_Arena_All.rf_e n a H)
noncomputable def d60 (bd : B3) (call : FuncId → List V → Heap → Option R) (n : Nat) (f : FuncId) (a : List V) (H : Heap) : Option R := (bif Nat.beq f 53 then unfold_judge_at.rf bd call n a H else bodyA C (fcall call) n f a H)
theorem d60_e (n : Nat) (f : FuncId) (a : List V) (H : Heap) : d60 @bdI (callA C n) n f a H = callA C (n + 1) f a H := by
  unfold d60
  exact (by
  cases h : Nat.beq f 53
  · exact bodyA_e
  · have h := Nat.eq_of_beq_eq_true h; subst h; exact unfold_judge_at.rf_e n a H)
noncomputable def d61 (bd : B3) (call : FuncId → List V → Heap → Option R) (n : Nat) (f : FuncId) (a : List V) (H : Heap) : Option R := (bif Nat.ble f 52 then d59 bd call n f a H else d60 bd call n f a H)
theorem d61_e (n : Nat) (f : FuncId) (a : List V) (H : Heap) : d61 @bdI (callA C n) n f a H = callA C (n + 1) f a H := by
  unfold d61
  exact (by
  cases h : Nat.ble f 52
  · exact d60_e n f a H
  · exact d59_e n f a H)
noncomputable def d62 (bd : B3) (call : FuncId → List V → Heap → Option R) (n : Nat) (f : FuncId) (a : List V) (H : Heap) : Option R := (bif Nat.beq f 54 then pred_Orient.rf bd call n a H else bodyA C (fcall call) n f a H)
theorem d62_e (n : Nat) (f : FuncId) (a : List V) (H : Heap) : d62 @bdI (callA C n) n f a H = callA C (n + 1) f a H := by
  unfold d62
  exact (by
  cases h : Nat.beq f 54
  · exact bodyA_e
  · have h := Nat.eq_of_beq_eq_true h; subst h; exact pred_Orient.rf_e n a H)
noncomputable def d63 (bd : B3) (call : FuncId → List V → Heap → Option R) (n : Nat) (f : FuncId) (a : List V) (H : Heap) : Option R := (bif Nat.beq f 55 then wide_Add.rf bd call n a H else bodyA C (fcall call) n f a H)
theorem d63_e (n : Nat) (f : FuncId) (a : List V) (H : Heap) : d63 @bdI (callA C n) n f a H = callA C (n + 1) f a H := by
  unfold d63
  exact (by
  cases h : Nat.beq f 55
  · exact bodyA_e
  · have h := Nat.eq_of_beq_eq_true h; subst h; exact wide_Add.rf_e n a H)
noncomputable def d64 (bd : B3) (call : FuncId → List V → Heap → Option R) (n : Nat) (f : FuncId) (a : List V) (H : Heap) : Option R := (bif Nat.beq f 56 then pred_Area2.rf bd call n a H else bodyA C (fcall call) n f a H)
theorem d64_e (n : Nat) (f : FuncId) (a : List V) (H : Heap) : d64 @bdI (callA C n) n f a H = callA C (n + 1) f a H := by
  unfold d64
  exact (by
  cases h : Nat.beq f 56
  · exact bodyA_e
  · have h := Nat.eq_of_beq_eq_true h; subst h; exact pred_Area2.rf_e n a H)
noncomputable def d65 (bd : B3) (call : FuncId → List V → Heap → Option R) (n : Nat) (f : FuncId) (a : List V) (H : Heap) : Option R := (bif Nat.ble f 55 then d63 bd call n f a H else d64 bd call n f a H)
theorem d65_e (n : Nat) (f : FuncId) (a : List V) (H : Heap) : d65 @bdI (callA C n) n f a H = callA C (n + 1) f a H := by
  unfold d65
  exact (by
  cases h : Nat.ble f 55
  · exact d64_e n f a H
  · exact d63_e n f a H)
noncomputable def d66 (bd : B3) (call : FuncId → List V → Heap → Option R) (n : Nat) (f : FuncId) (a : List V) (H : Heap) : Option R := (bif Nat.ble f 54 then d62 bd call n f a H else d65 bd call n f a H)
theorem d66_e (n : Nat) (f : FuncId) (a : List V) (H : Heap) : d66 @bdI (callA C n) n f a H = callA C (n + 1) f a H := by
  unfold d66
  exact (by
  cases h : Nat.ble f 54
  · exact d65_e n f a H
  · exact d62_e n f a H)
noncomputable def d67 (bd : B3) (call : FuncId → List V → Heap → Option R) (n : Nat) (f : FuncId) (a : List V) (H : Heap) : Option R := (bif Nat.ble f 53 then d61 bd call n f a H else d66 bd call n f a H)
theorem d67_e (n : Nat) (f : FuncId) (a : List V) (H : Heap) : d67 @bdI (callA C n) n f a H = callA C (n + 1) f a H := by
  unfold d67
  exact (by
  cases h : Nat.ble f 53
  · exact d66_e n f a H
  · exact d61_e n f a H)
noncomputable def d68 (bd : B3) (call : FuncId → List V → Heap → Option R) (n : Nat) (f : FuncId) (a : List V) (H : Heap) : Option R := (bif Nat.ble f 51 then d58 bd call n f a H else d67 bd call n f a H)
theorem d68_e (n : Nat) (f : FuncId) (a : List V) (H : Heap) : d68 @bdI (callA C n) n f a H = callA C (n + 1) f a H := by
  unfold d68
  exact (by
  cases h : Nat.ble f 51
  · exact d67_e n f a H
  · exact d58_e n f a H)
noncomputable def d69 (bd : B3) (call : FuncId → List V → Heap → Option R) (n : Nat) (f : FuncId) (a : List V) (H : Heap) : Option R := (bif Nat.ble f 46 then d51 bd call n f a H else d68 bd call n f a H)
theorem d69_e (n : Nat) (f : FuncId) (a : List V) (H : Heap) : d69 @bdI (callA C n) n f a H = callA C (n + 1) f a H := by
  unfold d69
  exact (by
  cases h : Nat.ble f 46
  · exact d68_e n f a H
  · exact d51_e n f a H)
noncomputable def d70 (bd : B3) (call : FuncId → List V → Heap → Option R) (n : Nat) (f : FuncId) (a : List V) (H : Heap) : Option R := (bif Nat.ble f 26 then d34 bd call n f a H else d69 bd call n f a H)
theorem d70_e (n : Nat) (f : FuncId) (a : List V) (H : Heap) : d70 @bdI (callA C n) n f a H = callA C (n + 1) f a H := by
  unfold d70
  exact (by
  cases h : Nat.ble f 26
  · exact d69_e n f a H
  · exact d34_e n f a H)
noncomputable def d71 (bd : B3) (call : FuncId → List V → Heap → Option R) (n : Nat) (f : FuncId) (a : List V) (H : Heap) : Option R := (bif Nat.beq f 57 then unfold_side.rf bd call n a H else bodyA C (fcall call) n f a H)
theorem d71_e (n : Nat) (f : FuncId) (a : List V) (H : Heap) : d71 @bdI (callA C n) n f a H = callA C (n + 1) f a H := by
  unfold d71
  exact (by
  cases h : Nat.beq f 57
  · exact bodyA_e
  · have h := Nat.eq_of_beq_eq_true h; subst h; exact unfold_side.rf_e n a H)
noncomputable def d72 (bd : B3) (call : FuncId → List V → Heap → Option R) (n : Nat) (f : FuncId) (a : List V) (H : Heap) : Option R := (bif Nat.beq f 58 then lift_Less.rf bd call n a H else bodyA C (fcall call) n f a H)
theorem d72_e (n : Nat) (f : FuncId) (a : List V) (H : Heap) : d72 @bdI (callA C n) n f a H = callA C (n + 1) f a H := by
  unfold d72
  exact (by
  cases h : Nat.beq f 58
  · exact bodyA_e
  · have h := Nat.eq_of_beq_eq_true h; subst h; exact lift_Less.rf_e n a H)
noncomputable def d73 (bd : B3) (call : FuncId → List V → Heap → Option R) (n : Nat) (f : FuncId) (a : List V) (H : Heap) : Option R := (bif Nat.ble f 57 then d71 bd call n f a H else d72 bd call n f a H)
theorem d73_e (n : Nat) (f : FuncId) (a : List V) (H : Heap) : d73 @bdI (callA C n) n f a H = callA C (n + 1) f a H := by
  unfold d73
  exact (by
  cases h : Nat.ble f 57
  · exact d72_e n f a H
  · exact d71_e n f a H)
noncomputable def d74 (bd : B3) (call : FuncId → List V → Heap → Option R) (n : Nat) (f : FuncId) (a : List V) (H : Heap) : Option R := (bif Nat.beq f 59 then math_bits_Mul64.rf bd call n a H else bodyA C (fcall call) n f a H)
theorem d74_e (n : Nat) (f : FuncId) (a : List V) (H : Heap) : d74 @bdI (callA C n) n f a H = callA C (n + 1) f a H := by
  unfold d74
  exact (by
  cases h : Nat.beq f 59
  · exact bodyA_e
  · have h := Nat.eq_of_beq_eq_true h; subst h; exact math_bits_Mul64.rf_e n a H)
noncomputable def d75 (bd : B3) (call : FuncId → List V → Heap → Option R) (n : Nat) (f : FuncId) (a : List V) (H : Heap) : Option R := (bif Nat.beq f 60 then lift_Sum.rf bd call n a H else bodyA C (fcall call) n f a H)
theorem d75_e (n : Nat) (f : FuncId) (a : List V) (H : Heap) : d75 @bdI (callA C n) n f a H = callA C (n + 1) f a H := by
  unfold d75
  exact (by
  cases h : Nat.beq f 60
  · exact bodyA_e
  · have h := Nat.eq_of_beq_eq_true h; subst h; exact lift_Sum.rf_e n a H)
noncomputable def d76 (bd : B3) (call : FuncId → List V → Heap → Option R) (n : Nat) (f : FuncId) (a : List V) (H : Heap) : Option R := (bif Nat.ble f 59 then d74 bd call n f a H else d75 bd call n f a H)
theorem d76_e (n : Nat) (f : FuncId) (a : List V) (H : Heap) : d76 @bdI (callA C n) n f a H = callA C (n + 1) f a H := by
  unfold d76
  exact (by
  cases h : Nat.ble f 59
  · exact d75_e n f a H
  · exact d74_e n f a H)
noncomputable def d77 (bd : B3) (call : FuncId → List V → Heap → Option R) (n : Nat) (f : FuncId) (a : List V) (H : Heap) : Option R := (bif Nat.ble f 58 then d73 bd call n f a H else d76 bd call n f a H)
theorem d77_e (n : Nat) (f : FuncId) (a : List V) (H : Heap) : d77 @bdI (callA C n) n f a H = callA C (n + 1) f a H := by
  unfold d77
  exact (by
  cases h : Nat.ble f 58
  · exact d76_e n f a H
  · exact d73_e n f a H)
noncomputable def d78 (bd : B3) (call : FuncId → List V → Heap → Option R) (n : Nat) (f : FuncId) (a : List V) (H : Heap) : Option R := (bif Nat.beq f 61 then tie_Conflict.rf bd call n a H else bodyA C (fcall call) n f a H)
theorem d78_e (n : Nat) (f : FuncId) (a : List V) (H : Heap) : d78 @bdI (callA C n) n f a H = callA C (n + 1) f a H := by
  unfold d78
  exact (by
  cases h : Nat.beq f 61
  · exact bodyA_e
  · have h := Nat.eq_of_beq_eq_true h; subst h; exact tie_Conflict.rf_e n a H)
noncomputable def d79 (bd : B3) (call : FuncId → List V → Heap → Option R) (n : Nat) (f : FuncId) (a : List V) (H : Heap) : Option R := (bif Nat.beq f 63 then pdt_lay.rf bd call n a H else bodyA C (fcall call) n f a H)
theorem d79_e (n : Nat) (f : FuncId) (a : List V) (H : Heap) : d79 @bdI (callA C n) n f a H = callA C (n + 1) f a H := by
  unfold d79
  exact (by
  cases h : Nat.beq f 63
  · exact bodyA_e
  · have h := Nat.eq_of_beq_eq_true h; subst h; exact pdt_lay.rf_e n a H)
noncomputable def d80 (bd : B3) (call : FuncId → List V → Heap → Option R) (n : Nat) (f : FuncId) (a : List V) (H : Heap) : Option R := (bif Nat.ble f 61 then d78 bd call n f a H else d79 bd call n f a H)
theorem d80_e (n : Nat) (f : FuncId) (a : List V) (H : Heap) : d80 @bdI (callA C n) n f a H = callA C (n + 1) f a H := by
  unfold d80
  exact (by
  cases h : Nat.ble f 61
  · exact d79_e n f a H
  · exact d78_e n f a H)
noncomputable def d81 (bd : B3) (call : FuncId → List V → Heap → Option R) (n : Nat) (f : FuncId) (a : List V) (H : Heap) : Option R := (bif Nat.beq f 64 then mesh_New.rf bd call n a H else bodyA C (fcall call) n f a H)
theorem d81_e (n : Nat) (f : FuncId) (a : List V) (H : Heap) : d81 @bdI (callA C n) n f a H = callA C (n + 1) f a H := by
  unfold d81
  exact (by
  cases h : Nat.beq f 64
  · exact bodyA_e
  · have h := Nat.eq_of_beq_eq_true h; subst h; exact mesh_New.rf_e n a H)
noncomputable def d82 (bd : B3) (call : FuncId → List V → Heap → Option R) (n : Nat) (f : FuncId) (a : List V) (H : Heap) : Option R := (bif Nat.beq f 66 then ref17_Engine_At.rf bd call n a H else bodyA C (fcall call) n f a H)
theorem d82_e (n : Nat) (f : FuncId) (a : List V) (H : Heap) : d82 @bdI (callA C n) n f a H = callA C (n + 1) f a H := by
  unfold d82
  exact (by
  cases h : Nat.beq f 66
  · exact bodyA_e
  · have h := Nat.eq_of_beq_eq_true h; subst h; exact ref17_Engine_At.rf_e n a H)
noncomputable def d83 (bd : B3) (call : FuncId → List V → Heap → Option R) (n : Nat) (f : FuncId) (a : List V) (H : Heap) : Option R := (bif Nat.beq f 67 then pdt_Engine_site.rf bd call n a H else bodyA C (fcall call) n f a H)
theorem d83_e (n : Nat) (f : FuncId) (a : List V) (H : Heap) : d83 @bdI (callA C n) n f a H = callA C (n + 1) f a H := by
  unfold d83
  exact (by
  cases h : Nat.beq f 67
  · exact bodyA_e
  · have h := Nat.eq_of_beq_eq_true h; subst h; exact pdt_Engine_site.rf_e n a H)
noncomputable def d84 (bd : B3) (call : FuncId → List V → Heap → Option R) (n : Nat) (f : FuncId) (a : List V) (H : Heap) : Option R := (bif Nat.ble f 66 then d82 bd call n f a H else d83 bd call n f a H)
theorem d84_e (n : Nat) (f : FuncId) (a : List V) (H : Heap) : d84 @bdI (callA C n) n f a H = callA C (n + 1) f a H := by
  unfold d84
  exact (by
  cases h : Nat.ble f 66
  · exact d83_e n f a H
  · exact d82_e n f a H)
noncomputable def d85 (bd : B3) (call : FuncId → List V → Heap → Option R) (n : Nat) (f : FuncId) (a : List V) (H : Heap) : Option R := (bif Nat.ble f 64 then d81 bd call n f a H else d84 bd call n f a H)
theorem d85_e (n : Nat) (f : FuncId) (a : List V) (H : Heap) : d85 @bdI (callA C n) n f a H = callA C (n + 1) f a H := by
  unfold d85
  exact (by
  cases h : Nat.ble f 64
  · exact d84_e n f a H
  · exact d81_e n f a H)
noncomputable def d86 (bd : B3) (call : FuncId → List V → Heap → Option R) (n : Nat) (f : FuncId) (a : List V) (H : Heap) : Option R := (bif Nat.ble f 63 then d80 bd call n f a H else d85 bd call n f a H)
theorem d86_e (n : Nat) (f : FuncId) (a : List V) (H : Heap) : d86 @bdI (callA C n) n f a H = callA C (n + 1) f a H := by
  unfold d86
  exact (by
  cases h : Nat.ble f 63
  · exact d85_e n f a H
  · exact d80_e n f a H)
noncomputable def d87 (bd : B3) (call : FuncId → List V → Heap → Option R) (n : Nat) (f : FuncId) (a : List V) (H : Heap) : Option R := (bif Nat.ble f 60 then d77 bd call n f a H else d86 bd call n f a H)
theorem d87_e (n : Nat) (f : FuncId) (a : List V) (H : Heap) : d87 @bdI (callA C n) n f a H = callA C (n + 1) f a H := by
  unfold d87
  exact (by
  cases h : Nat.ble f 60
  · exact d86_e n f a H
  · exact d77_e n f a H)
noncomputable def d88 (bd : B3) (call : FuncId → List V → Heap → Option R) (n : Nat) (f : FuncId) (a : List V) (H : Heap) : Option R := (bif Nat.beq f 69 then ref17_Engine_Site.rf bd call n a H else bodyA C (fcall call) n f a H)
theorem d88_e (n : Nat) (f : FuncId) (a : List V) (H : Heap) : d88 @bdI (callA C n) n f a H = callA C (n + 1) f a H := by
  unfold d88
  exact (by
  cases h : Nat.beq f 69
  · exact bodyA_e
  · have h := Nat.eq_of_beq_eq_true h; subst h; exact ref17_Engine_Site.rf_e n a H)
noncomputable def d89 (bd : B3) (call : FuncId → List V → Heap → Option R) (n : Nat) (f : FuncId) (a : List V) (H : Heap) : Option R := (bif Nat.beq f 70 then ref17_Engine_On.rf bd call n a H else bodyA C (fcall call) n f a H)
theorem d89_e (n : Nat) (f : FuncId) (a : List V) (H : Heap) : d89 @bdI (callA C n) n f a H = callA C (n + 1) f a H := by
  unfold d89
  exact (by
  cases h : Nat.beq f 70
  · exact bodyA_e
  · have h := Nat.eq_of_beq_eq_true h; subst h; exact ref17_Engine_On.rf_e n a H)
noncomputable def d90 (bd : B3) (call : FuncId → List V → Heap → Option R) (n : Nat) (f : FuncId) (a : List V) (H : Heap) : Option R := (bif Nat.ble f 69 then d88 bd call n f a H else d89 bd call n f a H)
theorem d90_e (n : Nat) (f : FuncId) (a : List V) (H : Heap) : d90 @bdI (callA C n) n f a H = callA C (n + 1) f a H := by
  unfold d90
  exact (by
  cases h : Nat.ble f 69
  · exact d89_e n f a H
  · exact d88_e n f a H)
noncomputable def d91 (bd : B3) (call : FuncId → List V → Heap → Option R) (n : Nat) (f : FuncId) (a : List V) (H : Heap) : Option R := (bif Nat.beq f 72 then ref17_Put.rf bd call n a H else bodyA C (fcall call) n f a H)
theorem d91_e (n : Nat) (f : FuncId) (a : List V) (H : Heap) : d91 @bdI (callA C n) n f a H = callA C (n + 1) f a H := by
  unfold d91
  exact (by
  cases h : Nat.beq f 72
  · exact bodyA_e
  · have h := Nat.eq_of_beq_eq_true h; subst h; exact ref17_Put.rf_e n a H)
noncomputable def d92 (bd : B3) (call : FuncId → List V → Heap → Option R) (n : Nat) (f : FuncId) (a : List V) (H : Heap) : Option R := (bif Nat.beq f 73 then cover_turned.rf bd call n a H else bodyA C (fcall call) n f a H)
theorem d92_e (n : Nat) (f : FuncId) (a : List V) (H : Heap) : d92 @bdI (callA C n) n f a H = callA C (n + 1) f a H := by
  unfold d92
  exact (by
  cases h : Nat.beq f 73
  · exact bodyA_e
  · have h := Nat.eq_of_beq_eq_true h; subst h; exact cover_turned.rf_e n a H)
noncomputable def d93 (bd : B3) (call : FuncId → List V → Heap → Option R) (n : Nat) (f : FuncId) (a : List V) (H : Heap) : Option R := (bif Nat.ble f 72 then d91 bd call n f a H else d92 bd call n f a H)
theorem d93_e (n : Nat) (f : FuncId) (a : List V) (H : Heap) : d93 @bdI (callA C n) n f a H = callA C (n + 1) f a H := by
  unfold d93
  exact (by
  cases h : Nat.ble f 72
  · exact d92_e n f a H
  · exact d91_e n f a H)
noncomputable def d94 (bd : B3) (call : FuncId → List V → Heap → Option R) (n : Nat) (f : FuncId) (a : List V) (H : Heap) : Option R := (bif Nat.ble f 70 then d90 bd call n f a H else d93 bd call n f a H)
theorem d94_e (n : Nat) (f : FuncId) (a : List V) (H : Heap) : d94 @bdI (callA C n) n f a H = callA C (n + 1) f a H := by
  unfold d94
  exact (by
  cases h : Nat.ble f 70
  · exact d93_e n f a H
  · exact d90_e n f a H)
noncomputable def d95 (bd : B3) (call : FuncId → List V → Heap → Option R) (n : Nat) (f : FuncId) (a : List V) (H : Heap) : Option R := (bif Nat.beq f 74 then slices_insertionSortCmpFunc_api_Tri.rf bd call n a H else bodyA C (fcall call) n f a H)
theorem d95_e (n : Nat) (f : FuncId) (a : List V) (H : Heap) : d95 @bdI (callA C n) n f a H = callA C (n + 1) f a H := by
  unfold d95
  exact (by
  cases h : Nat.beq f 74
  · exact bodyA_e
  · have h := Nat.eq_of_beq_eq_true h; subst h; exact slices_insertionSortCmpFunc_api_Tri.rf_e n a H)
noncomputable def d96 (bd : B3) (call : FuncId → List V → Heap → Option R) (n : Nat) (f : FuncId) (a : List V) (H : Heap) : Option R := (bif Nat.beq f 81 then slices_partitionCmpFunc_api_Tri.rf bd call n a H else bodyA C (fcall call) n f a H)
theorem d96_e (n : Nat) (f : FuncId) (a : List V) (H : Heap) : d96 @bdI (callA C n) n f a H = callA C (n + 1) f a H := by
  unfold d96
  exact (by
  cases h : Nat.beq f 81
  · exact bodyA_e
  · have h := Nat.eq_of_beq_eq_true h; subst h; exact slices_partitionCmpFunc_api_Tri.rf_e n a H)
noncomputable def d97 (bd : B3) (call : FuncId → List V → Heap → Option R) (n : Nat) (f : FuncId) (a : List V) (H : Heap) : Option R := (bif Nat.ble f 74 then d95 bd call n f a H else d96 bd call n f a H)
theorem d97_e (n : Nat) (f : FuncId) (a : List V) (H : Heap) : d97 @bdI (callA C n) n f a H = callA C (n + 1) f a H := by
  unfold d97
  exact (by
  cases h : Nat.ble f 74
  · exact d96_e n f a H
  · exact d95_e n f a H)
noncomputable def d98 (bd : B3) (call : FuncId → List V → Heap → Option R) (n : Nat) (f : FuncId) (a : List V) (H : Heap) : Option R := (bif Nat.beq f 82 then math_bits_Len32.rf bd call n a H else bodyA C (fcall call) n f a H)
theorem d98_e (n : Nat) (f : FuncId) (a : List V) (H : Heap) : d98 @bdI (callA C n) n f a H = callA C (n + 1) f a H := by
  unfold d98
  exact (by
  cases h : Nat.beq f 82
  · exact bodyA_e
  · have h := Nat.eq_of_beq_eq_true h; subst h; exact math_bits_Len32.rf_e n a H)
noncomputable def d99 (bd : B3) (call : FuncId → List V → Heap → Option R) (n : Nat) (f : FuncId) (a : List V) (H : Heap) : Option R := (bif Nat.beq f 83 then math_bits_Len64.rf bd call n a H else bodyA C (fcall call) n f a H)
theorem d99_e (n : Nat) (f : FuncId) (a : List V) (H : Heap) : d99 @bdI (callA C n) n f a H = callA C (n + 1) f a H := by
  unfold d99
  exact (by
  cases h : Nat.beq f 83
  · exact bodyA_e
  · have h := Nat.eq_of_beq_eq_true h; subst h; exact math_bits_Len64.rf_e n a H)
noncomputable def d100 (bd : B3) (call : FuncId → List V → Heap → Option R) (n : Nat) (f : FuncId) (a : List V) (H : Heap) : Option R := (bif Nat.beq f 84 then cmp_Or_int.rf bd call n a H else bodyA C (fcall call) n f a H)
theorem d100_e (n : Nat) (f : FuncId) (a : List V) (H : Heap) : d100 @bdI (callA C n) n f a H = callA C (n + 1) f a H := by
  unfold d100
  exact (by
  cases h : Nat.beq f 84
  · exact bodyA_e
  · have h := Nat.eq_of_beq_eq_true h; subst h; exact cmp_Or_int.rf_e n a H)
noncomputable def d101 (bd : B3) (call : FuncId → List V → Heap → Option R) (n : Nat) (f : FuncId) (a : List V) (H : Heap) : Option R := (bif Nat.ble f 83 then d99 bd call n f a H else d100 bd call n f a H)
theorem d101_e (n : Nat) (f : FuncId) (a : List V) (H : Heap) : d101 @bdI (callA C n) n f a H = callA C (n + 1) f a H := by
  unfold d101
  exact (by
  cases h : Nat.ble f 83
  · exact d100_e n f a H
  · exact d99_e n f a H)
noncomputable def d102 (bd : B3) (call : FuncId → List V → Heap → Option R) (n : Nat) (f : FuncId) (a : List V) (H : Heap) : Option R := (bif Nat.ble f 82 then d98 bd call n f a H else d101 bd call n f a H)
theorem d102_e (n : Nat) (f : FuncId) (a : List V) (H : Heap) : d102 @bdI (callA C n) n f a H = callA C (n + 1) f a H := by
  unfold d102
  exact (by
  cases h : Nat.ble f 82
  · exact d101_e n f a H
  · exact d98_e n f a H)
noncomputable def d103 (bd : B3) (call : FuncId → List V → Heap → Option R) (n : Nat) (f : FuncId) (a : List V) (H : Heap) : Option R := (bif Nat.ble f 81 then d97 bd call n f a H else d102 bd call n f a H)
theorem d103_e (n : Nat) (f : FuncId) (a : List V) (H : Heap) : d103 @bdI (callA C n) n f a H = callA C (n + 1) f a H := by
  unfold d103
  exact (by
  cases h : Nat.ble f 81
  · exact d102_e n f a H
  · exact d97_e n f a H)
noncomputable def d104 (bd : B3) (call : FuncId → List V → Heap → Option R) (n : Nat) (f : FuncId) (a : List V) (H : Heap) : Option R := (bif Nat.ble f 73 then d94 bd call n f a H else d103 bd call n f a H)
theorem d104_e (n : Nat) (f : FuncId) (a : List V) (H : Heap) : d104 @bdI (callA C n) n f a H = callA C (n + 1) f a H := by
  unfold d104
  exact (by
  cases h : Nat.ble f 73
  · exact d103_e n f a H
  · exact d94_e n f a H)
noncomputable def d105 (bd : B3) (call : FuncId → List V → Heap → Option R) (n : Nat) (f : FuncId) (a : List V) (H : Heap) : Option R := (bif Nat.ble f 67 then d87 bd call n f a H else d104 bd call n f a H)
theorem d105_e (n : Nat) (f : FuncId) (a : List V) (H : Heap) : d105 @bdI (callA C n) n f a H = callA C (n + 1) f a H := by
  unfold d105
  exact (by
  cases h : Nat.ble f 67
  · exact d104_e n f a H
  · exact d87_e n f a H)
noncomputable def d106 (bd : B3) (call : FuncId → List V → Heap → Option R) (n : Nat) (f : FuncId) (a : List V) (H : Heap) : Option R := (bif Nat.beq f 85 then cmp_Compare_int.rf bd call n a H else bodyA C (fcall call) n f a H)
theorem d106_e (n : Nat) (f : FuncId) (a : List V) (H : Heap) : d106 @bdI (callA C n) n f a H = callA C (n + 1) f a H := by
  unfold d106
  exact (by
  cases h : Nat.beq f 85
  · exact bodyA_e
  · have h := Nat.eq_of_beq_eq_true h; subst h; exact cmp_Compare_int.rf_e n a H)
noncomputable def d107 (bd : B3) (call : FuncId → List V → Heap → Option R) (n : Nat) (f : FuncId) (a : List V) (H : Heap) : Option R := (bif Nat.beq f 86 then arena_Arena_live.rf bd call n a H else bodyA C (fcall call) n f a H)
theorem d107_e (n : Nat) (f : FuncId) (a : List V) (H : Heap) : d107 @bdI (callA C n) n f a H = callA C (n + 1) f a H := by
  unfold d107
  exact (by
  cases h : Nat.beq f 86
  · exact bodyA_e
  · have h := Nat.eq_of_beq_eq_true h; subst h; exact arena_Arena_live.rf_e n a H)
noncomputable def d108 (bd : B3) (call : FuncId → List V → Heap → Option R) (n : Nat) (f : FuncId) (a : List V) (H : Heap) : Option R := (bif Nat.ble f 85 then d106 bd call n f a H else d107 bd call n f a H)
theorem d108_e (n : Nat) (f : FuncId) (a : List V) (H : Heap) : d108 @bdI (callA C n) n f a H = callA C (n + 1) f a H := by
  unfold d108
  exact (by
  cases h : Nat.ble f 85
  · exact d107_e n f a H
  · exact d106_e n f a H)
noncomputable def d109 (bd : B3) (call : FuncId → List V → Heap → Option R) (n : Nat) (f : FuncId) (a : List V) (H : Heap) : Option R := (bif Nat.beq f 87 then lift_At.rf bd call n a H else bodyA C (fcall call) n f a H)
theorem d109_e (n : Nat) (f : FuncId) (a : List V) (H : Heap) : d109 @bdI (callA C n) n f a H = callA C (n + 1) f a H := by
  unfold d109
  exact (by
  cases h : Nat.beq f 87
  · exact bodyA_e
  · have h := Nat.eq_of_beq_eq_true h; subst h; exact lift_At.rf_e n a H)
noncomputable def d110 (bd : B3) (call : FuncId → List V → Heap → Option R) (n : Nat) (f : FuncId) (a : List V) (H : Heap) : Option R := (bif Nat.beq f 88 then pred_can.rf bd call n a H else bodyA C (fcall call) n f a H)
theorem d110_e (n : Nat) (f : FuncId) (a : List V) (H : Heap) : d110 @bdI (callA C n) n f a H = callA C (n + 1) f a H := by
  unfold d110
  exact (by
  cases h : Nat.beq f 88
  · exact bodyA_e
  · have h := Nat.eq_of_beq_eq_true h; subst h; exact pred_can.rf_e n a H)
noncomputable def d111 (bd : B3) (call : FuncId → List V → Heap → Option R) (n : Nat) (f : FuncId) (a : List V) (H : Heap) : Option R := (bif Nat.ble f 87 then d109 bd call n f a H else d110 bd call n f a H)
theorem d111_e (n : Nat) (f : FuncId) (a : List V) (H : Heap) : d111 @bdI (callA C n) n f a H = callA C (n + 1) f a H := by
  unfold d111
  exact (by
  cases h : Nat.ble f 87
  · exact d110_e n f a H
  · exact d109_e n f a H)
noncomputable def d112 (bd : B3) (call : FuncId → List V → Heap → Option R) (n : Nat) (f : FuncId) (a : List V) (H : Heap) : Option R := (bif Nat.ble f 86 then d108 bd call n f a H else d111 bd call n f a H)
theorem d112_e (n : Nat) (f : FuncId) (a : List V) (H : Heap) : d112 @bdI (callA C n) n f a H = callA C (n + 1) f a H := by
  unfold d112
  exact (by
  cases h : Nat.ble f 86
  · exact d111_e n f a H
  · exact d108_e n f a H)
noncomputable def d113 (bd : B3) (call : FuncId → List V → Heap → Option R) (n : Nat) (f : FuncId) (a : List V) (H : Heap) : Option R := (bif Nat.beq f 89 then pred_orient.rf bd call n a H else bodyA C (fcall call) n f a H)
theorem d113_e (n : Nat) (f : FuncId) (a : List V) (H : Heap) : d113 @bdI (callA C n) n f a H = callA C (n + 1) f a H := by
  unfold d113
  exact (by
  cases h : Nat.beq f 89
  · exact bodyA_e
  · have h := Nat.eq_of_beq_eq_true h; subst h; exact pred_orient.rf_e n a H)
noncomputable def d114 (bd : B3) (call : FuncId → List V → Heap → Option R) (n : Nat) (f : FuncId) (a : List V) (H : Heap) : Option R := (bif Nat.beq f 90 then wide_add.rf bd call n a H else bodyA C (fcall call) n f a H)
theorem d114_e (n : Nat) (f : FuncId) (a : List V) (H : Heap) : d114 @bdI (callA C n) n f a H = callA C (n + 1) f a H := by
  unfold d114
  exact (by
  cases h : Nat.beq f 90
  · exact bodyA_e
  · have h := Nat.eq_of_beq_eq_true h; subst h; exact wide_add.rf_e n a H)
noncomputable def d115 (bd : B3) (call : FuncId → List V → Heap → Option R) (n : Nat) (f : FuncId) (a : List V) (H : Heap) : Option R := (bif Nat.ble f 89 then d113 bd call n f a H else d114 bd call n f a H)
theorem d115_e (n : Nat) (f : FuncId) (a : List V) (H : Heap) : d115 @bdI (callA C n) n f a H = callA C (n + 1) f a H := by
  unfold d115
  exact (by
  cases h : Nat.ble f 89
  · exact d114_e n f a H
  · exact d113_e n f a H)
noncomputable def d116 (bd : B3) (call : FuncId → List V → Heap → Option R) (n : Nat) (f : FuncId) (a : List V) (H : Heap) : Option R := (bif Nat.beq f 91 then pred_across.rf bd call n a H else bodyA C (fcall call) n f a H)
theorem d116_e (n : Nat) (f : FuncId) (a : List V) (H : Heap) : d116 @bdI (callA C n) n f a H = callA C (n + 1) f a H := by
  unfold d116
  exact (by
  cases h : Nat.beq f 91
  · exact bodyA_e
  · have h := Nat.eq_of_beq_eq_true h; subst h; exact pred_across.rf_e n a H)
noncomputable def d117 (bd : B3) (call : FuncId → List V → Heap → Option R) (n : Nat) (f : FuncId) (a : List V) (H : Heap) : Option R := (bif Nat.beq f 92 then pred_way.rf bd call n a H else bodyA C (fcall call) n f a H)
theorem d117_e (n : Nat) (f : FuncId) (a : List V) (H : Heap) : d117 @bdI (callA C n) n f a H = callA C (n + 1) f a H := by
  unfold d117
  exact (by
  cases h : Nat.beq f 92
  · exact bodyA_e
  · have h := Nat.eq_of_beq_eq_true h; subst h; exact pred_way.rf_e n a H)
noncomputable def d118 (bd : B3) (call : FuncId → List V → Heap → Option R) (n : Nat) (f : FuncId) (a : List V) (H : Heap) : Option R := (bif Nat.beq f 93 then lift_Can.rf bd call n a H else bodyA C (fcall call) n f a H)
theorem d118_e (n : Nat) (f : FuncId) (a : List V) (H : Heap) : d118 @bdI (callA C n) n f a H = callA C (n + 1) f a H := by
  unfold d118
  exact (by
  cases h : Nat.beq f 93
  · exact bodyA_e
  · have h := Nat.eq_of_beq_eq_true h; subst h; exact lift_Can.rf_e n a H)
noncomputable def d119 (bd : B3) (call : FuncId → List V → Heap → Option R) (n : Nat) (f : FuncId) (a : List V) (H : Heap) : Option R := (bif Nat.ble f 92 then d117 bd call n f a H else d118 bd call n f a H)
theorem d119_e (n : Nat) (f : FuncId) (a : List V) (H : Heap) : d119 @bdI (callA C n) n f a H = callA C (n + 1) f a H := by
  unfold d119
  exact (by
  cases h : Nat.ble f 92
  · exact d118_e n f a H
  · exact d117_e n f a H)
noncomputable def d120 (bd : B3) (call : FuncId → List V → Heap → Option R) (n : Nat) (f : FuncId) (a : List V) (H : Heap) : Option R := (bif Nat.ble f 91 then d116 bd call n f a H else d119 bd call n f a H)
theorem d120_e (n : Nat) (f : FuncId) (a : List V) (H : Heap) : d120 @bdI (callA C n) n f a H = callA C (n + 1) f a H := by
  unfold d120
  exact (by
  cases h : Nat.ble f 91
  · exact d119_e n f a H
  · exact d116_e n f a H)
noncomputable def d121 (bd : B3) (call : FuncId → List V → Heap → Option R) (n : Nat) (f : FuncId) (a : List V) (H : Heap) : Option R := (bif Nat.ble f 90 then d115 bd call n f a H else d120 bd call n f a H)
theorem d121_e (n : Nat) (f : FuncId) (a : List V) (H : Heap) : d121 @bdI (callA C n) n f a H = callA C (n + 1) f a H := by
  unfold d121
  exact (by
  cases h : Nat.ble f 90
  · exact d120_e n f a H
  · exact d115_e n f a H)
noncomputable def d122 (bd : B3) (call : FuncId → List V → Heap → Option R) (n : Nat) (f : FuncId) (a : List V) (H : Heap) : Option R := (bif Nat.ble f 88 then d112 bd call n f a H else d121 bd call n f a H)
theorem d122_e (n : Nat) (f : FuncId) (a : List V) (H : Heap) : d122 @bdI (callA C n) n f a H = callA C (n + 1) f a H := by
  unfold d122
  exact (by
  cases h : Nat.ble f 88
  · exact d121_e n f a H
  · exact d112_e n f a H)
noncomputable def d123 (bd : B3) (call : FuncId → List V → Heap → Option R) (n : Nat) (f : FuncId) (a : List V) (H : Heap) : Option R := (bif Nat.beq f 94 then tie_conflict.rf bd call n a H else bodyA C (fcall call) n f a H)
theorem d123_e (n : Nat) (f : FuncId) (a : List V) (H : Heap) : d123 @bdI (callA C n) n f a H = callA C (n + 1) f a H := by
  unfold d123
  exact (by
  cases h : Nat.beq f 94
  · exact bodyA_e
  · have h := Nat.eq_of_beq_eq_true h; subst h; exact tie_conflict.rf_e n a H)
noncomputable def d124 (bd : B3) (call : FuncId → List V → Heap → Option R) (n : Nat) (f : FuncId) (a : List V) (H : Heap) : Option R := (bif Nat.beq f 95 then slices_insertionSortCmpFunc_api_Place.rf bd call n a H else bodyA C (fcall call) n f a H)
theorem d124_e (n : Nat) (f : FuncId) (a : List V) (H : Heap) : d124 @bdI (callA C n) n f a H = callA C (n + 1) f a H := by
  unfold d124
  exact (by
  cases h : Nat.beq f 95
  · exact bodyA_e
  · have h := Nat.eq_of_beq_eq_true h; subst h; exact slices_insertionSortCmpFunc_api_Place.rf_e n a H)
noncomputable def d125 (bd : B3) (call : FuncId → List V → Heap → Option R) (n : Nat) (f : FuncId) (a : List V) (H : Heap) : Option R := (bif Nat.ble f 94 then d123 bd call n f a H else d124 bd call n f a H)
theorem d125_e (n : Nat) (f : FuncId) (a : List V) (H : Heap) : d125 @bdI (callA C n) n f a H = callA C (n + 1) f a H := by
  unfold d125
  exact (by
  cases h : Nat.ble f 94
  · exact d124_e n f a H
  · exact d123_e n f a H)
noncomputable def d126 (bd : B3) (call : FuncId → List V → Heap → Option R) (n : Nat) (f : FuncId) (a : List V) (H : Heap) : Option R := (bif Nat.beq f 103 then bucket_New.rf bd call n a H else bodyA C (fcall call) n f a H)
theorem d126_e (n : Nat) (f : FuncId) (a : List V) (H : Heap) : d126 @bdI (callA C n) n f a H = callA C (n + 1) f a H := by
  unfold d126
  exact (by
  cases h : Nat.beq f 103
  · exact bodyA_e
  · have h := Nat.eq_of_beq_eq_true h; subst h; exact bucket_New.rf_e n a H)
noncomputable def d127 (bd : B3) (call : FuncId → List V → Heap → Option R) (n : Nat) (f : FuncId) (a : List V) (H : Heap) : Option R := (bif Nat.beq f 104 then mesh_Mesh_Side.rf bd call n a H else bodyA C (fcall call) n f a H)
theorem d127_e (n : Nat) (f : FuncId) (a : List V) (H : Heap) : d127 @bdI (callA C n) n f a H = callA C (n + 1) f a H := by
  unfold d127
  exact (by
  cases h : Nat.beq f 104
  · exact bodyA_e
  · have h := Nat.eq_of_beq_eq_true h; subst h; exact mesh_Mesh_Side.rf_e n a H)
noncomputable def d128 (bd : B3) (call : FuncId → List V → Heap → Option R) (n : Nat) (f : FuncId) (a : List V) (H : Heap) : Option R := (bif Nat.ble f 103 then d126 bd call n f a H else d127 bd call n f a H)
theorem d128_e (n : Nat) (f : FuncId) (a : List V) (H : Heap) : d128 @bdI (callA C n) n f a H = callA C (n + 1) f a H := by
  unfold d128
  exact (by
  cases h : Nat.ble f 103
  · exact d127_e n f a H
  · exact d126_e n f a H)
noncomputable def d129 (bd : B3) (call : FuncId → List V → Heap → Option R) (n : Nat) (f : FuncId) (a : List V) (H : Heap) : Option R := (bif Nat.ble f 95 then d125 bd call n f a H else d128 bd call n f a H)
theorem d129_e (n : Nat) (f : FuncId) (a : List V) (H : Heap) : d129 @bdI (callA C n) n f a H = callA C (n + 1) f a H := by
  unfold d129
  exact (by
  cases h : Nat.ble f 95
  · exact d128_e n f a H
  · exact d125_e n f a H)
noncomputable def d130 (bd : B3) (call : FuncId → List V → Heap → Option R) (n : Nat) (f : FuncId) (a : List V) (H : Heap) : Option R := (bif Nat.beq f 105 then bucket_Grid_Put.rf bd call n a H else bodyA C (fcall call) n f a H)
theorem d130_e (n : Nat) (f : FuncId) (a : List V) (H : Heap) : d130 @bdI (callA C n) n f a H = callA C (n + 1) f a H := by
  unfold d130
  exact (by
  cases h : Nat.beq f 105
  · exact bodyA_e
  · have h := Nat.eq_of_beq_eq_true h; subst h; exact bucket_Grid_Put.rf_e n a H)
noncomputable def d131 (bd : B3) (call : FuncId → List V → Heap → Option R) (n : Nat) (f : FuncId) (a : List V) (H : Heap) : Option R := (bif Nat.beq f 106 then pdt_sheet_count.rf bd call n a H else bodyA C (fcall call) n f a H)
theorem d131_e (n : Nat) (f : FuncId) (a : List V) (H : Heap) : d131 @bdI (callA C n) n f a H = callA C (n + 1) f a H := by
  unfold d131
  exact (by
  cases h : Nat.beq f 106
  · exact bodyA_e
  · have h := Nat.eq_of_beq_eq_true h; subst h; exact pdt_sheet_count.rf_e n a H)
noncomputable def d132 (bd : B3) (call : FuncId → List V → Heap → Option R) (n : Nat) (f : FuncId) (a : List V) (H : Heap) : Option R := (bif Nat.ble f 105 then d130 bd call n f a H else d131 bd call n f a H)
theorem d132_e (n : Nat) (f : FuncId) (a : List V) (H : Heap) : d132 @bdI (callA C n) n f a H = callA C (n + 1) f a H := by
  unfold d132
  exact (by
  cases h : Nat.ble f 105
  · exact d131_e n f a H
  · exact d130_e n f a H)
noncomputable def d133 (bd : B3) (call : FuncId → List V → Heap → Option R) (n : Nat) (f : FuncId) (a : List V) (H : Heap) : Option R := (bif Nat.beq f 107 then arena_New.rf bd call n a H else bodyA C (fcall call) n f a H)
theorem d133_e (n : Nat) (f : FuncId) (a : List V) (H : Heap) : d133 @bdI (callA C n) n f a H = callA C (n + 1) f a H := by
  unfold d133
  exact (by
  cases h : Nat.beq f 107
  · exact bodyA_e
  · have h := Nat.eq_of_beq_eq_true h; subst h; exact arena_New.rf_e n a H)
noncomputable def d134 (bd : B3) (call : FuncId → List V → Heap → Option R) (n : Nat) (f : FuncId) (a : List V) (H : Heap) : Option R := (bif Nat.beq f 111 then pdt_Engine_first.rf bd call n a H else bodyA C (fcall call) n f a H)
theorem d134_e (n : Nat) (f : FuncId) (a : List V) (H : Heap) : d134 @bdI (callA C n) n f a H = callA C (n + 1) f a H := by
  unfold d134
  exact (by
  cases h : Nat.beq f 111
  · exact bodyA_e
  · have h := Nat.eq_of_beq_eq_true h; subst h; exact pdt_Engine_first.rf_e n a H)
noncomputable def d135 (bd : B3) (call : FuncId → List V → Heap → Option R) (n : Nat) (f : FuncId) (a : List V) (H : Heap) : Option R := (bif Nat.beq f 113 then pdt_Engine_fewer.rf bd call n a H else bodyA C (fcall call) n f a H)
theorem d135_e (n : Nat) (f : FuncId) (a : List V) (H : Heap) : d135 @bdI (callA C n) n f a H = callA C (n + 1) f a H := by
  unfold d135
  exact (by
  cases h : Nat.beq f 113
  · exact bodyA_e
  · have h := Nat.eq_of_beq_eq_true h; subst h; exact pdt_Engine_fewer.rf_e n a H)
noncomputable def d136 (bd : B3) (call : FuncId → List V → Heap → Option R) (n : Nat) (f : FuncId) (a : List V) (H : Heap) : Option R := (bif Nat.ble f 111 then d134 bd call n f a H else d135 bd call n f a H)
theorem d136_e (n : Nat) (f : FuncId) (a : List V) (H : Heap) : d136 @bdI (callA C n) n f a H = callA C (n + 1) f a H := by
  unfold d136
  exact (by
  cases h : Nat.ble f 111
  · exact d135_e n f a H
  · exact d134_e n f a H)
noncomputable def d137 (bd : B3) (call : FuncId → List V → Heap → Option R) (n : Nat) (f : FuncId) (a : List V) (H : Heap) : Option R := (bif Nat.ble f 107 then d133 bd call n f a H else d136 bd call n f a H)
theorem d137_e (n : Nat) (f : FuncId) (a : List V) (H : Heap) : d137 @bdI (callA C n) n f a H = callA C (n + 1) f a H := by
  unfold d137
  exact (by
  cases h : Nat.ble f 107
  · exact d136_e n f a H
  · exact d133_e n f a H)
noncomputable def d138 (bd : B3) (call : FuncId → List V → Heap → Option R) (n : Nat) (f : FuncId) (a : List V) (H : Heap) : Option R := (bif Nat.ble f 106 then d132 bd call n f a H else d137 bd call n f a H)
theorem d138_e (n : Nat) (f : FuncId) (a : List V) (H : Heap) : d138 @bdI (callA C n) n f a H = callA C (n + 1) f a H := by
  unfold d138
  exact (by
  cases h : Nat.ble f 106
  · exact d137_e n f a H
  · exact d132_e n f a H)
noncomputable def d139 (bd : B3) (call : FuncId → List V → Heap → Option R) (n : Nat) (f : FuncId) (a : List V) (H : Heap) : Option R := (bif Nat.ble f 104 then d129 bd call n f a H else d138 bd call n f a H)
theorem d139_e (n : Nat) (f : FuncId) (a : List V) (H : Heap) : d139 @bdI (callA C n) n f a H = callA C (n + 1) f a H := by
  unfold d139
  exact (by
  cases h : Nat.ble f 104
  · exact d138_e n f a H
  · exact d129_e n f a H)
noncomputable def d140 (bd : B3) (call : FuncId → List V → Heap → Option R) (n : Nat) (f : FuncId) (a : List V) (H : Heap) : Option R := (bif Nat.ble f 93 then d122 bd call n f a H else d139 bd call n f a H)
theorem d140_e (n : Nat) (f : FuncId) (a : List V) (H : Heap) : d140 @bdI (callA C n) n f a H = callA C (n + 1) f a H := by
  unfold d140
  exact (by
  cases h : Nat.ble f 93
  · exact d139_e n f a H
  · exact d122_e n f a H)
noncomputable def d141 (bd : B3) (call : FuncId → List V → Heap → Option R) (n : Nat) (f : FuncId) (a : List V) (H : Heap) : Option R := (bif Nat.ble f 84 then d105 bd call n f a H else d140 bd call n f a H)
theorem d141_e (n : Nat) (f : FuncId) (a : List V) (H : Heap) : d141 @bdI (callA C n) n f a H = callA C (n + 1) f a H := by
  unfold d141
  exact (by
  cases h : Nat.ble f 84
  · exact d140_e n f a H
  · exact d105_e n f a H)
noncomputable def d142 (bd : B3) (call : FuncId → List V → Heap → Option R) (n : Nat) (f : FuncId) (a : List V) (H : Heap) : Option R := (bif Nat.ble f 56 then d70 bd call n f a H else d141 bd call n f a H)
theorem d142_e (n : Nat) (f : FuncId) (a : List V) (H : Heap) : d142 @bdI (callA C n) n f a H = callA C (n + 1) f a H := by
  unfold d142
  exact (by
  cases h : Nat.ble f 56
  · exact d141_e n f a H
  · exact d70_e n f a H)
noncomputable def d143 (bd : B3) (call : FuncId → List V → Heap → Option R) (n : Nat) (f : FuncId) (a : List V) (H : Heap) : Option R := (bif Nat.beq f 118 then slices_medianCmpFunc_api_Tri.rf bd call n a H else bodyA C (fcall call) n f a H)
theorem d143_e (n : Nat) (f : FuncId) (a : List V) (H : Heap) : d143 @bdI (callA C n) n f a H = callA C (n + 1) f a H := by
  unfold d143
  exact (by
  cases h : Nat.beq f 118
  · exact bodyA_e
  · have h := Nat.eq_of_beq_eq_true h; subst h; exact slices_medianCmpFunc_api_Tri.rf_e n a H)
noncomputable def d144 (bd : B3) (call : FuncId → List V → Heap → Option R) (n : Nat) (f : FuncId) (a : List V) (H : Heap) : Option R := (bif Nat.beq f 119 then cmp_isNaN_int.rf bd call n a H else bodyA C (fcall call) n f a H)
theorem d144_e (n : Nat) (f : FuncId) (a : List V) (H : Heap) : d144 @bdI (callA C n) n f a H = callA C (n + 1) f a H := by
  unfold d144
  exact (by
  cases h : Nat.beq f 119
  · exact bodyA_e
  · have h := Nat.eq_of_beq_eq_true h; subst h; exact cmp_isNaN_int.rf_e n a H)
noncomputable def d145 (bd : B3) (call : FuncId → List V → Heap → Option R) (n : Nat) (f : FuncId) (a : List V) (H : Heap) : Option R := (bif Nat.ble f 118 then d143 bd call n f a H else d144 bd call n f a H)
theorem d145_e (n : Nat) (f : FuncId) (a : List V) (H : Heap) : d145 @bdI (callA C n) n f a H = callA C (n + 1) f a H := by
  unfold d145
  exact (by
  cases h : Nat.ble f 118
  · exact d144_e n f a H
  · exact d143_e n f a H)
noncomputable def d146 (bd : B3) (call : FuncId → List V → Heap → Option R) (n : Nat) (f : FuncId) (a : List V) (H : Heap) : Option R := (bif Nat.beq f 120 then lift_at.rf bd call n a H else bodyA C (fcall call) n f a H)
theorem d146_e (n : Nat) (f : FuncId) (a : List V) (H : Heap) : d146 @bdI (callA C n) n f a H = callA C (n + 1) f a H := by
  unfold d146
  exact (by
  cases h : Nat.beq f 120
  · exact bodyA_e
  · have h := Nat.eq_of_beq_eq_true h; subst h; exact lift_at.rf_e n a H)
noncomputable def d147 (bd : B3) (call : FuncId → List V → Heap → Option R) (n : Nat) (f : FuncId) (a : List V) (H : Heap) : Option R := (bif Nat.beq f 121 then wide_Sign.rf bd call n a H else bodyA C (fcall call) n f a H)
theorem d147_e (n : Nat) (f : FuncId) (a : List V) (H : Heap) : d147 @bdI (callA C n) n f a H = callA C (n + 1) f a H := by
  unfold d147
  exact (by
  cases h : Nat.beq f 121
  · exact bodyA_e
  · have h := Nat.eq_of_beq_eq_true h; subst h; exact wide_Sign.rf_e n a H)
noncomputable def d148 (bd : B3) (call : FuncId → List V → Heap → Option R) (n : Nat) (f : FuncId) (a : List V) (H : Heap) : Option R := (bif Nat.ble f 120 then d146 bd call n f a H else d147 bd call n f a H)
theorem d148_e (n : Nat) (f : FuncId) (a : List V) (H : Heap) : d148 @bdI (callA C n) n f a H = callA C (n + 1) f a H := by
  unfold d148
  exact (by
  cases h : Nat.ble f 120
  · exact d147_e n f a H
  · exact d146_e n f a H)
noncomputable def d149 (bd : B3) (call : FuncId → List V → Heap → Option R) (n : Nat) (f : FuncId) (a : List V) (H : Heap) : Option R := (bif Nat.ble f 119 then d145 bd call n f a H else d148 bd call n f a H)
theorem d149_e (n : Nat) (f : FuncId) (a : List V) (H : Heap) : d149 @bdI (callA C n) n f a H = callA C (n + 1) f a H := by
  unfold d149
  exact (by
  cases h : Nat.ble f 119
  · exact d148_e n f a H
  · exact d145_e n f a H)
noncomputable def d150 (bd : B3) (call : FuncId → List V → Heap → Option R) (n : Nat) (f : FuncId) (a : List V) (H : Heap) : Option R := (bif Nat.beq f 123 then wide_Sub.rf bd call n a H else bodyA C (fcall call) n f a H)
theorem d150_e (n : Nat) (f : FuncId) (a : List V) (H : Heap) : d150 @bdI (callA C n) n f a H = callA C (n + 1) f a H := by
  unfold d150
  exact (by
  cases h : Nat.beq f 123
  · exact bodyA_e
  · have h := Nat.eq_of_beq_eq_true h; subst h; exact wide_Sub.rf_e n a H)
noncomputable def d151 (bd : B3) (call : FuncId → List V → Heap → Option R) (n : Nat) (f : FuncId) (a : List V) (H : Heap) : Option R := (bif Nat.beq f 124 then lift_can.rf bd call n a H else bodyA C (fcall call) n f a H)
theorem d151_e (n : Nat) (f : FuncId) (a : List V) (H : Heap) : d151 @bdI (callA C n) n f a H = callA C (n + 1) f a H := by
  unfold d151
  exact (by
  cases h : Nat.beq f 124
  · exact bodyA_e
  · have h := Nat.eq_of_beq_eq_true h; subst h; exact lift_can.rf_e n a H)
noncomputable def d152 (bd : B3) (call : FuncId → List V → Heap → Option R) (n : Nat) (f : FuncId) (a : List V) (H : Heap) : Option R := (bif Nat.ble f 123 then d150 bd call n f a H else d151 bd call n f a H)
theorem d152_e (n : Nat) (f : FuncId) (a : List V) (H : Heap) : d152 @bdI (callA C n) n f a H = callA C (n + 1) f a H := by
  unfold d152
  exact (by
  cases h : Nat.ble f 123
  · exact d151_e n f a H
  · exact d150_e n f a H)
noncomputable def d153 (bd : B3) (call : FuncId → List V → Heap → Option R) (n : Nat) (f : FuncId) (a : List V) (H : Heap) : Option R := (bif Nat.beq f 125 then pred_InCircle.rf bd call n a H else bodyA C (fcall call) n f a H)
theorem d153_e (n : Nat) (f : FuncId) (a : List V) (H : Heap) : d153 @bdI (callA C n) n f a H = callA C (n + 1) f a H := by
  unfold d153
  exact (by
  cases h : Nat.beq f 125
  · exact bodyA_e
  · have h := Nat.eq_of_beq_eq_true h; subst h; exact pred_InCircle.rf_e n a H)
noncomputable def d154 (bd : B3) (call : FuncId → List V → Heap → Option R) (n : Nat) (f : FuncId) (a : List V) (H : Heap) : Option R := (bif Nat.beq f 126 then tie_last.rf bd call n a H else bodyA C (fcall call) n f a H)
theorem d154_e (n : Nat) (f : FuncId) (a : List V) (H : Heap) : d154 @bdI (callA C n) n f a H = callA C (n + 1) f a H := by
  unfold d154
  exact (by
  cases h : Nat.beq f 126
  · exact bodyA_e
  · have h := Nat.eq_of_beq_eq_true h; subst h; exact tie_last.rf_e n a H)
noncomputable def d155 (bd : B3) (call : FuncId → List V → Heap → Option R) (n : Nat) (f : FuncId) (a : List V) (H : Heap) : Option R := (bif Nat.beq f 130 then bucket_Grid_cell.rf bd call n a H else bodyA C (fcall call) n f a H)
theorem d155_e (n : Nat) (f : FuncId) (a : List V) (H : Heap) : d155 @bdI (callA C n) n f a H = callA C (n + 1) f a H := by
  unfold d155
  exact (by
  cases h : Nat.beq f 130
  · exact bodyA_e
  · have h := Nat.eq_of_beq_eq_true h; subst h; exact bucket_Grid_cell.rf_e n a H)
noncomputable def d156 (bd : B3) (call : FuncId → List V → Heap → Option R) (n : Nat) (f : FuncId) (a : List V) (H : Heap) : Option R := (bif Nat.ble f 126 then d154 bd call n f a H else d155 bd call n f a H)
theorem d156_e (n : Nat) (f : FuncId) (a : List V) (H : Heap) : d156 @bdI (callA C n) n f a H = callA C (n + 1) f a H := by
  unfold d156
  exact (by
  cases h : Nat.ble f 126
  · exact d155_e n f a H
  · exact d154_e n f a H)
noncomputable def d157 (bd : B3) (call : FuncId → List V → Heap → Option R) (n : Nat) (f : FuncId) (a : List V) (H : Heap) : Option R := (bif Nat.ble f 125 then d153 bd call n f a H else d156 bd call n f a H)
theorem d157_e (n : Nat) (f : FuncId) (a : List V) (H : Heap) : d157 @bdI (callA C n) n f a H = callA C (n + 1) f a H := by
  unfold d157
  exact (by
  cases h : Nat.ble f 125
  · exact d156_e n f a H
  · exact d153_e n f a H)
noncomputable def d158 (bd : B3) (call : FuncId → List V → Heap → Option R) (n : Nat) (f : FuncId) (a : List V) (H : Heap) : Option R := (bif Nat.ble f 124 then d152 bd call n f a H else d157 bd call n f a H)
theorem d158_e (n : Nat) (f : FuncId) (a : List V) (H : Heap) : d158 @bdI (callA C n) n f a H = callA C (n + 1) f a H := by
  unfold d158
  exact (by
  cases h : Nat.ble f 124
  · exact d157_e n f a H
  · exact d152_e n f a H)
noncomputable def d159 (bd : B3) (call : FuncId → List V → Heap → Option R) (n : Nat) (f : FuncId) (a : List V) (H : Heap) : Option R := (bif Nat.ble f 121 then d149 bd call n f a H else d158 bd call n f a H)
theorem d159_e (n : Nat) (f : FuncId) (a : List V) (H : Heap) : d159 @bdI (callA C n) n f a H = callA C (n + 1) f a H := by
  unfold d159
  exact (by
  cases h : Nat.ble f 121
  · exact d158_e n f a H
  · exact d149_e n f a H)
noncomputable def d160 (bd : B3) (call : FuncId → List V → Heap → Option R) (n : Nat) (f : FuncId) (a : List V) (H : Heap) : Option R := (bif Nat.beq f 131 then bucket_Grid_at.rf bd call n a H else bodyA C (fcall call) n f a H)
theorem d160_e (n : Nat) (f : FuncId) (a : List V) (H : Heap) : d160 @bdI (callA C n) n f a H = callA C (n + 1) f a H := by
  unfold d160
  exact (by
  cases h : Nat.beq f 131
  · exact bodyA_e
  · have h := Nat.eq_of_beq_eq_true h; subst h; exact bucket_Grid_at.rf_e n a H)
noncomputable def d161 (bd : B3) (call : FuncId → List V → Heap → Option R) (n : Nat) (f : FuncId) (a : List V) (H : Heap) : Option R := (bif Nat.beq f 132 then pdt_sheet_isBig.rf bd call n a H else bodyA C (fcall call) n f a H)
theorem d161_e (n : Nat) (f : FuncId) (a : List V) (H : Heap) : d161 @bdI (callA C n) n f a H = callA C (n + 1) f a H := by
  unfold d161
  exact (by
  cases h : Nat.beq f 132
  · exact bodyA_e
  · have h := Nat.eq_of_beq_eq_true h; subst h; exact pdt_sheet_isBig.rf_e n a H)
noncomputable def d162 (bd : B3) (call : FuncId → List V → Heap → Option R) (n : Nat) (f : FuncId) (a : List V) (H : Heap) : Option R := (bif Nat.ble f 131 then d160 bd call n f a H else d161 bd call n f a H)
theorem d162_e (n : Nat) (f : FuncId) (a : List V) (H : Heap) : d162 @bdI (callA C n) n f a H = callA C (n + 1) f a H := by
  unfold d162
  exact (by
  cases h : Nat.ble f 131
  · exact d161_e n f a H
  · exact d160_e n f a H)
noncomputable def d163 (bd : B3) (call : FuncId → List V → Heap → Option R) (n : Nat) (f : FuncId) (a : List V) (H : Heap) : Option R := (bif Nat.beq f 135 then circum_Small.rf bd call n a H else bodyA C (fcall call) n f a H)
theorem d163_e (n : Nat) (f : FuncId) (a : List V) (H : Heap) : d163 @bdI (callA C n) n f a H = callA C (n + 1) f a H := by
  unfold d163
  exact (by
  cases h : Nat.beq f 135
  · exact bodyA_e
  · have h := Nat.eq_of_beq_eq_true h; subst h; exact circum_Small.rf_e n a H)
noncomputable def d164 (bd : B3) (call : FuncId → List V → Heap → Option R) (n : Nat) (f : FuncId) (a : List V) (H : Heap) : Option R := (bif Nat.beq f 136 then cover_sheets.rf bd call n a H else bodyA C (fcall call) n f a H)
theorem d164_e (n : Nat) (f : FuncId) (a : List V) (H : Heap) : d164 @bdI (callA C n) n f a H = callA C (n + 1) f a H := by
  unfold d164
  exact (by
  cases h : Nat.beq f 136
  · exact bodyA_e
  · have h := Nat.eq_of_beq_eq_true h; subst h; exact cover_sheets.rf_e n a H)
noncomputable def d165 (bd : B3) (call : FuncId → List V → Heap → Option R) (n : Nat) (f : FuncId) (a : List V) (H : Heap) : Option R := (bif Nat.ble f 135 then d163 bd call n f a H else d164 bd call n f a H)
theorem d165_e (n : Nat) (f : FuncId) (a : List V) (H : Heap) : d165 @bdI (callA C n) n f a H = callA C (n + 1) f a H := by
  unfold d165
  exact (by
  cases h : Nat.ble f 135
  · exact d164_e n f a H
  · exact d163_e n f a H)
noncomputable def d166 (bd : B3) (call : FuncId → List V → Heap → Option R) (n : Nat) (f : FuncId) (a : List V) (H : Heap) : Option R := (bif Nat.ble f 132 then d162 bd call n f a H else d165 bd call n f a H)
theorem d166_e (n : Nat) (f : FuncId) (a : List V) (H : Heap) : d166 @bdI (callA C n) n f a H = callA C (n + 1) f a H := by
  unfold d166
  exact (by
  cases h : Nat.ble f 132
  · exact d165_e n f a H
  · exact d162_e n f a H)
noncomputable def d167 (bd : B3) (call : FuncId → List V → Heap → Option R) (n : Nat) (f : FuncId) (a : List V) (H : Heap) : Option R := (bif Nat.beq f 137 then mesh_Mesh_AddVert.rf bd call n a H else bodyA C (fcall call) n f a H)
theorem d167_e (n : Nat) (f : FuncId) (a : List V) (H : Heap) : d167 @bdI (callA C n) n f a H = callA C (n + 1) f a H := by
  unfold d167
  exact (by
  cases h : Nat.beq f 137
  · exact bodyA_e
  · have h := Nat.eq_of_beq_eq_true h; subst h; exact mesh_Mesh_AddVert.rf_e n a H)
noncomputable def d168 (bd : B3) (call : FuncId → List V → Heap → Option R) (n : Nat) (f : FuncId) (a : List V) (H : Heap) : Option R := (bif Nat.beq f 138 then cover_corner.rf bd call n a H else bodyA C (fcall call) n f a H)
theorem d168_e (n : Nat) (f : FuncId) (a : List V) (H : Heap) : d168 @bdI (callA C n) n f a H = callA C (n + 1) f a H := by
  unfold d168
  exact (by
  cases h : Nat.beq f 138
  · exact bodyA_e
  · have h := Nat.eq_of_beq_eq_true h; subst h; exact cover_corner.rf_e n a H)
noncomputable def d169 (bd : B3) (call : FuncId → List V → Heap → Option R) (n : Nat) (f : FuncId) (a : List V) (H : Heap) : Option R := (bif Nat.ble f 137 then d167 bd call n f a H else d168 bd call n f a H)
theorem d169_e (n : Nat) (f : FuncId) (a : List V) (H : Heap) : d169 @bdI (callA C n) n f a H = callA C (n + 1) f a H := by
  unfold d169
  exact (by
  cases h : Nat.ble f 137
  · exact d168_e n f a H
  · exact d167_e n f a H)
noncomputable def d170 (bd : B3) (call : FuncId → List V → Heap → Option R) (n : Nat) (f : FuncId) (a : List V) (H : Heap) : Option R := (bif Nat.beq f 139 then mesh_Mesh_AddFace.rf bd call n a H else bodyA C (fcall call) n f a H)
theorem d170_e (n : Nat) (f : FuncId) (a : List V) (H : Heap) : d170 @bdI (callA C n) n f a H = callA C (n + 1) f a H := by
  unfold d170
  exact (by
  cases h : Nat.beq f 139
  · exact bodyA_e
  · have h := Nat.eq_of_beq_eq_true h; subst h; exact mesh_Mesh_AddFace.rf_e n a H)
noncomputable def d171 (bd : B3) (call : FuncId → List V → Heap → Option R) (n : Nat) (f : FuncId) (a : List V) (H : Heap) : Option R := (bif Nat.beq f 149 then slices_order2CmpFunc_api_Tri.rf bd call n a H else bodyA C (fcall call) n f a H)
theorem d171_e (n : Nat) (f : FuncId) (a : List V) (H : Heap) : d171 @bdI (callA C n) n f a H = callA C (n + 1) f a H := by
  unfold d171
  exact (by
  cases h : Nat.beq f 149
  · exact bodyA_e
  · have h := Nat.eq_of_beq_eq_true h; subst h; exact slices_order2CmpFunc_api_Tri.rf_e n a H)
noncomputable def d172 (bd : B3) (call : FuncId → List V → Heap → Option R) (n : Nat) (f : FuncId) (a : List V) (H : Heap) : Option R := (bif Nat.beq f 150 then lift_torus.rf bd call n a H else bodyA C (fcall call) n f a H)
theorem d172_e (n : Nat) (f : FuncId) (a : List V) (H : Heap) : d172 @bdI (callA C n) n f a H = callA C (n + 1) f a H := by
  unfold d172
  exact (by
  cases h : Nat.beq f 150
  · exact bodyA_e
  · have h := Nat.eq_of_beq_eq_true h; subst h; exact lift_torus.rf_e n a H)
noncomputable def d173 (bd : B3) (call : FuncId → List V → Heap → Option R) (n : Nat) (f : FuncId) (a : List V) (H : Heap) : Option R := (bif Nat.ble f 149 then d171 bd call n f a H else d172 bd call n f a H)
theorem d173_e (n : Nat) (f : FuncId) (a : List V) (H : Heap) : d173 @bdI (callA C n) n f a H = callA C (n + 1) f a H := by
  unfold d173
  exact (by
  cases h : Nat.ble f 149
  · exact d172_e n f a H
  · exact d171_e n f a H)
noncomputable def d174 (bd : B3) (call : FuncId → List V → Heap → Option R) (n : Nat) (f : FuncId) (a : List V) (H : Heap) : Option R := (bif Nat.ble f 139 then d170 bd call n f a H else d173 bd call n f a H)
theorem d174_e (n : Nat) (f : FuncId) (a : List V) (H : Heap) : d174 @bdI (callA C n) n f a H = callA C (n + 1) f a H := by
  unfold d174
  exact (by
  cases h : Nat.ble f 139
  · exact d173_e n f a H
  · exact d170_e n f a H)
noncomputable def d175 (bd : B3) (call : FuncId → List V → Heap → Option R) (n : Nat) (f : FuncId) (a : List V) (H : Heap) : Option R := (bif Nat.ble f 138 then d169 bd call n f a H else d174 bd call n f a H)
theorem d175_e (n : Nat) (f : FuncId) (a : List V) (H : Heap) : d175 @bdI (callA C n) n f a H = callA C (n + 1) f a H := by
  unfold d175
  exact (by
  cases h : Nat.ble f 138
  · exact d174_e n f a H
  · exact d169_e n f a H)
noncomputable def d176 (bd : B3) (call : FuncId → List V → Heap → Option R) (n : Nat) (f : FuncId) (a : List V) (H : Heap) : Option R := (bif Nat.ble f 136 then d166 bd call n f a H else d175 bd call n f a H)
theorem d176_e (n : Nat) (f : FuncId) (a : List V) (H : Heap) : d176 @bdI (callA C n) n f a H = callA C (n + 1) f a H := by
  unfold d176
  exact (by
  cases h : Nat.ble f 136
  · exact d175_e n f a H
  · exact d166_e n f a H)
noncomputable def d177 (bd : B3) (call : FuncId → List V → Heap → Option R) (n : Nat) (f : FuncId) (a : List V) (H : Heap) : Option R := (bif Nat.ble f 130 then d159 bd call n f a H else d176 bd call n f a H)
theorem d177_e (n : Nat) (f : FuncId) (a : List V) (H : Heap) : d177 @bdI (callA C n) n f a H = callA C (n + 1) f a H := by
  unfold d177
  exact (by
  cases h : Nat.ble f 130
  · exact d176_e n f a H
  · exact d159_e n f a H)
noncomputable def d178 (bd : B3) (call : FuncId → List V → Heap → Option R) (n : Nat) (f : FuncId) (a : List V) (H : Heap) : Option R := (bif Nat.beq f 151 then lift_move.rf bd call n a H else bodyA C (fcall call) n f a H)
theorem d178_e (n : Nat) (f : FuncId) (a : List V) (H : Heap) : d178 @bdI (callA C n) n f a H = callA C (n + 1) f a H := by
  unfold d178
  exact (by
  cases h : Nat.beq f 151
  · exact bodyA_e
  · have h := Nat.eq_of_beq_eq_true h; subst h; exact lift_move.rf_e n a H)
noncomputable def d179 (bd : B3) (call : FuncId → List V → Heap → Option R) (n : Nat) (f : FuncId) (a : List V) (H : Heap) : Option R := (bif Nat.beq f 152 then wide_sign.rf bd call n a H else bodyA C (fcall call) n f a H)
theorem d179_e (n : Nat) (f : FuncId) (a : List V) (H : Heap) : d179 @bdI (callA C n) n f a H = callA C (n + 1) f a H := by
  unfold d179
  exact (by
  cases h : Nat.beq f 152
  · exact bodyA_e
  · have h := Nat.eq_of_beq_eq_true h; subst h; exact wide_sign.rf_e n a H)
noncomputable def d180 (bd : B3) (call : FuncId → List V → Heap → Option R) (n : Nat) (f : FuncId) (a : List V) (H : Heap) : Option R := (bif Nat.ble f 151 then d178 bd call n f a H else d179 bd call n f a H)
theorem d180_e (n : Nat) (f : FuncId) (a : List V) (H : Heap) : d180 @bdI (callA C n) n f a H = callA C (n + 1) f a H := by
  unfold d180
  exact (by
  cases h : Nat.ble f 151
  · exact d179_e n f a H
  · exact d178_e n f a H)
noncomputable def d181 (bd : B3) (call : FuncId → List V → Heap → Option R) (n : Nat) (f : FuncId) (a : List V) (H : Heap) : Option R := (bif Nat.beq f 153 then wide_sub.rf bd call n a H else bodyA C (fcall call) n f a H)
theorem d181_e (n : Nat) (f : FuncId) (a : List V) (H : Heap) : d181 @bdI (callA C n) n f a H = callA C (n + 1) f a H := by
  unfold d181
  exact (by
  cases h : Nat.beq f 153
  · exact bodyA_e
  · have h := Nat.eq_of_beq_eq_true h; subst h; exact wide_sub.rf_e n a H)
noncomputable def d182 (bd : B3) (call : FuncId → List V → Heap → Option R) (n : Nat) (f : FuncId) (a : List V) (H : Heap) : Option R := (bif Nat.beq f 154 then lift_within.rf bd call n a H else bodyA C (fcall call) n f a H)
theorem d182_e (n : Nat) (f : FuncId) (a : List V) (H : Heap) : d182 @bdI (callA C n) n f a H = callA C (n + 1) f a H := by
  unfold d182
  exact (by
  cases h : Nat.beq f 154
  · exact bodyA_e
  · have h := Nat.eq_of_beq_eq_true h; subst h; exact lift_within.rf_e n a H)
noncomputable def d183 (bd : B3) (call : FuncId → List V → Heap → Option R) (n : Nat) (f : FuncId) (a : List V) (H : Heap) : Option R := (bif Nat.ble f 153 then d181 bd call n f a H else d182 bd call n f a H)
theorem d183_e (n : Nat) (f : FuncId) (a : List V) (H : Heap) : d183 @bdI (callA C n) n f a H = callA C (n + 1) f a H := by
  unfold d183
  exact (by
  cases h : Nat.ble f 153
  · exact d182_e n f a H
  · exact d181_e n f a H)
noncomputable def d184 (bd : B3) (call : FuncId → List V → Heap → Option R) (n : Nat) (f : FuncId) (a : List V) (H : Heap) : Option R := (bif Nat.ble f 152 then d180 bd call n f a H else d183 bd call n f a H)
theorem d184_e (n : Nat) (f : FuncId) (a : List V) (H : Heap) : d184 @bdI (callA C n) n f a H = callA C (n + 1) f a H := by
  unfold d184
  exact (by
  cases h : Nat.ble f 152
  · exact d183_e n f a H
  · exact d180_e n f a H)
noncomputable def d185 (bd : B3) (call : FuncId → List V → Heap → Option R) (n : Nat) (f : FuncId) (a : List V) (H : Heap) : Option R := (bif Nat.beq f 155 then quad_Mul.rf bd call n a H else bodyA C (fcall call) n f a H)
theorem d185_e (n : Nat) (f : FuncId) (a : List V) (H : Heap) : d185 @bdI (callA C n) n f a H = callA C (n + 1) f a H := by
  unfold d185
  exact (by
  cases h : Nat.beq f 155
  · exact bodyA_e
  · have h := Nat.eq_of_beq_eq_true h; subst h; exact quad_Mul.rf_e n a H)
noncomputable def d186 (bd : B3) (call : FuncId → List V → Heap → Option R) (n : Nat) (f : FuncId) (a : List V) (H : Heap) : Option R := (bif Nat.beq f 156 then pred_square.rf bd call n a H else bodyA C (fcall call) n f a H)
theorem d186_e (n : Nat) (f : FuncId) (a : List V) (H : Heap) : d186 @bdI (callA C n) n f a H = callA C (n + 1) f a H := by
  unfold d186
  exact (by
  cases h : Nat.beq f 156
  · exact bodyA_e
  · have h := Nat.eq_of_beq_eq_true h; subst h; exact pred_square.rf_e n a H)
noncomputable def d187 (bd : B3) (call : FuncId → List V → Heap → Option R) (n : Nat) (f : FuncId) (a : List V) (H : Heap) : Option R := (bif Nat.ble f 155 then d185 bd call n f a H else d186 bd call n f a H)
theorem d187_e (n : Nat) (f : FuncId) (a : List V) (H : Heap) : d187 @bdI (callA C n) n f a H = callA C (n + 1) f a H := by
  unfold d187
  exact (by
  cases h : Nat.ble f 155
  · exact d186_e n f a H
  · exact d185_e n f a H)
noncomputable def d188 (bd : B3) (call : FuncId → List V → Heap → Option R) (n : Nat) (f : FuncId) (a : List V) (H : Heap) : Option R := (bif Nat.beq f 157 then quad_Add.rf bd call n a H else bodyA C (fcall call) n f a H)
theorem d188_e (n : Nat) (f : FuncId) (a : List V) (H : Heap) : d188 @bdI (callA C n) n f a H = callA C (n + 1) f a H := by
  unfold d188
  exact (by
  cases h : Nat.beq f 157
  · exact bodyA_e
  · have h := Nat.eq_of_beq_eq_true h; subst h; exact quad_Add.rf_e n a H)
noncomputable def d189 (bd : B3) (call : FuncId → List V → Heap → Option R) (n : Nat) (f : FuncId) (a : List V) (H : Heap) : Option R := (bif Nat.beq f 158 then quad_Sign.rf bd call n a H else bodyA C (fcall call) n f a H)
theorem d189_e (n : Nat) (f : FuncId) (a : List V) (H : Heap) : d189 @bdI (callA C n) n f a H = callA C (n + 1) f a H := by
  unfold d189
  exact (by
  cases h : Nat.beq f 158
  · exact bodyA_e
  · have h := Nat.eq_of_beq_eq_true h; subst h; exact quad_Sign.rf_e n a H)
noncomputable def d190 (bd : B3) (call : FuncId → List V → Heap → Option R) (n : Nat) (f : FuncId) (a : List V) (H : Heap) : Option R := (bif Nat.beq f 159 then lift_Cmp.rf bd call n a H else bodyA C (fcall call) n f a H)
theorem d190_e (n : Nat) (f : FuncId) (a : List V) (H : Heap) : d190 @bdI (callA C n) n f a H = callA C (n + 1) f a H := by
  unfold d190
  exact (by
  cases h : Nat.beq f 159
  · exact bodyA_e
  · have h := Nat.eq_of_beq_eq_true h; subst h; exact lift_Cmp.rf_e n a H)
noncomputable def d191 (bd : B3) (call : FuncId → List V → Heap → Option R) (n : Nat) (f : FuncId) (a : List V) (H : Heap) : Option R := (bif Nat.ble f 158 then d189 bd call n f a H else d190 bd call n f a H)
theorem d191_e (n : Nat) (f : FuncId) (a : List V) (H : Heap) : d191 @bdI (callA C n) n f a H = callA C (n + 1) f a H := by
  unfold d191
  exact (by
  cases h : Nat.ble f 158
  · exact d190_e n f a H
  · exact d189_e n f a H)
noncomputable def d192 (bd : B3) (call : FuncId → List V → Heap → Option R) (n : Nat) (f : FuncId) (a : List V) (H : Heap) : Option R := (bif Nat.ble f 157 then d188 bd call n f a H else d191 bd call n f a H)
theorem d192_e (n : Nat) (f : FuncId) (a : List V) (H : Heap) : d192 @bdI (callA C n) n f a H = callA C (n + 1) f a H := by
  unfold d192
  exact (by
  cases h : Nat.ble f 157
  · exact d191_e n f a H
  · exact d188_e n f a H)
noncomputable def d193 (bd : B3) (call : FuncId → List V → Heap → Option R) (n : Nat) (f : FuncId) (a : List V) (H : Heap) : Option R := (bif Nat.ble f 156 then d187 bd call n f a H else d192 bd call n f a H)
theorem d193_e (n : Nat) (f : FuncId) (a : List V) (H : Heap) : d193 @bdI (callA C n) n f a H = callA C (n + 1) f a H := by
  unfold d193
  exact (by
  cases h : Nat.ble f 156
  · exact d192_e n f a H
  · exact d187_e n f a H)
noncomputable def d194 (bd : B3) (call : FuncId → List V → Heap → Option R) (n : Nat) (f : FuncId) (a : List V) (H : Heap) : Option R := (bif Nat.ble f 154 then d184 bd call n f a H else d193 bd call n f a H)
theorem d194_e (n : Nat) (f : FuncId) (a : List V) (H : Heap) : d194 @bdI (callA C n) n f a H = callA C (n + 1) f a H := by
  unfold d194
  exact (by
  cases h : Nat.ble f 154
  · exact d193_e n f a H
  · exact d184_e n f a H)
noncomputable def d195 (bd : B3) (call : FuncId → List V → Heap → Option R) (n : Nat) (f : FuncId) (a : List V) (H : Heap) : Option R := (bif Nat.beq f 161 then lift_Home.rf bd call n a H else bodyA C (fcall call) n f a H)
theorem d195_e (n : Nat) (f : FuncId) (a : List V) (H : Heap) : d195 @bdI (callA C n) n f a H = callA C (n + 1) f a H := by
  unfold d195
  exact (by
  cases h : Nat.beq f 161
  · exact bodyA_e
  · have h := Nat.eq_of_beq_eq_true h; subst h; exact lift_Home.rf_e n a H)
noncomputable def d196 (bd : B3) (call : FuncId → List V → Heap → Option R) (n : Nat) (f : FuncId) (a : List V) (H : Heap) : Option R := (bif Nat.beq f 162 then mesh_Mesh_Corner.rf bd call n a H else bodyA C (fcall call) n f a H)
theorem d196_e (n : Nat) (f : FuncId) (a : List V) (H : Heap) : d196 @bdI (callA C n) n f a H = callA C (n + 1) f a H := by
  unfold d196
  exact (by
  cases h : Nat.beq f 162
  · exact bodyA_e
  · have h := Nat.eq_of_beq_eq_true h; subst h; exact mesh_Mesh_Corner.rf_e n a H)
noncomputable def d197 (bd : B3) (call : FuncId → List V → Heap → Option R) (n : Nat) (f : FuncId) (a : List V) (H : Heap) : Option R := (bif Nat.ble f 161 then d195 bd call n f a H else d196 bd call n f a H)
theorem d197_e (n : Nat) (f : FuncId) (a : List V) (H : Heap) : d197 @bdI (callA C n) n f a H = callA C (n + 1) f a H := by
  unfold d197
  exact (by
  cases h : Nat.ble f 161
  · exact d196_e n f a H
  · exact d195_e n f a H)
noncomputable def d198 (bd : B3) (call : FuncId → List V → Heap → Option R) (n : Nat) (f : FuncId) (a : List V) (H : Heap) : Option R := (bif Nat.beq f 164 then mesh_Mesh_vert.rf bd call n a H else bodyA C (fcall call) n f a H)
theorem d198_e (n : Nat) (f : FuncId) (a : List V) (H : Heap) : d198 @bdI (callA C n) n f a H = callA C (n + 1) f a H := by
  unfold d198
  exact (by
  cases h : Nat.beq f 164
  · exact bodyA_e
  · have h := Nat.eq_of_beq_eq_true h; subst h; exact mesh_Mesh_vert.rf_e n a H)
noncomputable def d199 (bd : B3) (call : FuncId → List V → Heap → Option R) (n : Nat) (f : FuncId) (a : List V) (H : Heap) : Option R := (bif Nat.beq f 165 then circum_circle.rf bd call n a H else bodyA C (fcall call) n f a H)
theorem d199_e (n : Nat) (f : FuncId) (a : List V) (H : Heap) : d199 @bdI (callA C n) n f a H = callA C (n + 1) f a H := by
  unfold d199
  exact (by
  cases h : Nat.beq f 165
  · exact bodyA_e
  · have h := Nat.eq_of_beq_eq_true h; subst h; exact circum_circle.rf_e n a H)
noncomputable def d200 (bd : B3) (call : FuncId → List V → Heap → Option R) (n : Nat) (f : FuncId) (a : List V) (H : Heap) : Option R := (bif Nat.ble f 164 then d198 bd call n f a H else d199 bd call n f a H)
theorem d200_e (n : Nat) (f : FuncId) (a : List V) (H : Heap) : d200 @bdI (callA C n) n f a H = callA C (n + 1) f a H := by
  unfold d200
  exact (by
  cases h : Nat.ble f 164
  · exact d199_e n f a H
  · exact d198_e n f a H)
noncomputable def d201 (bd : B3) (call : FuncId → List V → Heap → Option R) (n : Nat) (f : FuncId) (a : List V) (H : Heap) : Option R := (bif Nat.ble f 162 then d197 bd call n f a H else d200 bd call n f a H)
theorem d201_e (n : Nat) (f : FuncId) (a : List V) (H : Heap) : d201 @bdI (callA C n) n f a H = callA C (n + 1) f a H := by
  unfold d201
  exact (by
  cases h : Nat.ble f 162
  · exact d200_e n f a H
  · exact d197_e n f a H)
noncomputable def d202 (bd : B3) (call : FuncId → List V → Heap → Option R) (n : Nat) (f : FuncId) (a : List V) (H : Heap) : Option R := (bif Nat.beq f 166 then whole_Mul.rf bd call n a H else bodyA C (fcall call) n f a H)
theorem d202_e (n : Nat) (f : FuncId) (a : List V) (H : Heap) : d202 @bdI (callA C n) n f a H = callA C (n + 1) f a H := by
  unfold d202
  exact (by
  cases h : Nat.beq f 166
  · exact bodyA_e
  · have h := Nat.eq_of_beq_eq_true h; subst h; exact whole_Mul.rf_e n a H)
noncomputable def d203 (bd : B3) (call : FuncId → List V → Heap → Option R) (n : Nat) (f : FuncId) (a : List V) (H : Heap) : Option R := (bif Nat.beq f 167 then whole_Of.rf bd call n a H else bodyA C (fcall call) n f a H)
theorem d203_e (n : Nat) (f : FuncId) (a : List V) (H : Heap) : d203 @bdI (callA C n) n f a H = callA C (n + 1) f a H := by
  unfold d203
  exact (by
  cases h : Nat.beq f 167
  · exact bodyA_e
  · have h := Nat.eq_of_beq_eq_true h; subst h; exact whole_Of.rf_e n a H)
noncomputable def d204 (bd : B3) (call : FuncId → List V → Heap → Option R) (n : Nat) (f : FuncId) (a : List V) (H : Heap) : Option R := (bif Nat.ble f 166 then d202 bd call n f a H else d203 bd call n f a H)
theorem d204_e (n : Nat) (f : FuncId) (a : List V) (H : Heap) : d204 @bdI (callA C n) n f a H = callA C (n + 1) f a H := by
  unfold d204
  exact (by
  cases h : Nat.ble f 166
  · exact d203_e n f a H
  · exact d202_e n f a H)
noncomputable def d205 (bd : B3) (call : FuncId → List V → Heap → Option R) (n : Nat) (f : FuncId) (a : List V) (H : Heap) : Option R := (bif Nat.beq f 168 then circum_sides.rf bd call n a H else bodyA C (fcall call) n f a H)
theorem d205_e (n : Nat) (f : FuncId) (a : List V) (H : Heap) : d205 @bdI (callA C n) n f a H = callA C (n + 1) f a H := by
  unfold d205
  exact (by
  cases h : Nat.beq f 168
  · exact bodyA_e
  · have h := Nat.eq_of_beq_eq_true h; subst h; exact circum_sides.rf_e n a H)
noncomputable def d206 (bd : B3) (call : FuncId → List V → Heap → Option R) (n : Nat) (f : FuncId) (a : List V) (H : Heap) : Option R := (bif Nat.beq f 169 then whole_Cmp.rf bd call n a H else bodyA C (fcall call) n f a H)
theorem d206_e (n : Nat) (f : FuncId) (a : List V) (H : Heap) : d206 @bdI (callA C n) n f a H = callA C (n + 1) f a H := by
  unfold d206
  exact (by
  cases h : Nat.beq f 169
  · exact bodyA_e
  · have h := Nat.eq_of_beq_eq_true h; subst h; exact whole_Cmp.rf_e n a H)
noncomputable def d207 (bd : B3) (call : FuncId → List V → Heap → Option R) (n : Nat) (f : FuncId) (a : List V) (H : Heap) : Option R := (bif Nat.beq f 170 then circum_long.rf bd call n a H else bodyA C (fcall call) n f a H)
theorem d207_e (n : Nat) (f : FuncId) (a : List V) (H : Heap) : d207 @bdI (callA C n) n f a H = callA C (n + 1) f a H := by
  unfold d207
  exact (by
  cases h : Nat.beq f 170
  · exact bodyA_e
  · have h := Nat.eq_of_beq_eq_true h; subst h; exact circum_long.rf_e n a H)
noncomputable def d208 (bd : B3) (call : FuncId → List V → Heap → Option R) (n : Nat) (f : FuncId) (a : List V) (H : Heap) : Option R := (bif Nat.ble f 169 then d206 bd call n f a H else d207 bd call n f a H)
theorem d208_e (n : Nat) (f : FuncId) (a : List V) (H : Heap) : d208 @bdI (callA C n) n f a H = callA C (n + 1) f a H := by
  unfold d208
  exact (by
  cases h : Nat.ble f 169
  · exact d207_e n f a H
  · exact d206_e n f a H)
noncomputable def d209 (bd : B3) (call : FuncId → List V → Heap → Option R) (n : Nat) (f : FuncId) (a : List V) (H : Heap) : Option R := (bif Nat.ble f 168 then d205 bd call n f a H else d208 bd call n f a H)
theorem d209_e (n : Nat) (f : FuncId) (a : List V) (H : Heap) : d209 @bdI (callA C n) n f a H = callA C (n + 1) f a H := by
  unfold d209
  exact (by
  cases h : Nat.ble f 168
  · exact d208_e n f a H
  · exact d205_e n f a H)
noncomputable def d210 (bd : B3) (call : FuncId → List V → Heap → Option R) (n : Nat) (f : FuncId) (a : List V) (H : Heap) : Option R := (bif Nat.ble f 167 then d204 bd call n f a H else d209 bd call n f a H)
theorem d210_e (n : Nat) (f : FuncId) (a : List V) (H : Heap) : d210 @bdI (callA C n) n f a H = callA C (n + 1) f a H := by
  unfold d210
  exact (by
  cases h : Nat.ble f 167
  · exact d209_e n f a H
  · exact d204_e n f a H)
noncomputable def d211 (bd : B3) (call : FuncId → List V → Heap → Option R) (n : Nat) (f : FuncId) (a : List V) (H : Heap) : Option R := (bif Nat.ble f 165 then d201 bd call n f a H else d210 bd call n f a H)
theorem d211_e (n : Nat) (f : FuncId) (a : List V) (H : Heap) : d211 @bdI (callA C n) n f a H = callA C (n + 1) f a H := by
  unfold d211
  exact (by
  cases h : Nat.ble f 165
  · exact d210_e n f a H
  · exact d201_e n f a H)
noncomputable def d212 (bd : B3) (call : FuncId → List V → Heap → Option R) (n : Nat) (f : FuncId) (a : List V) (H : Heap) : Option R := (bif Nat.ble f 159 then d194 bd call n f a H else d211 bd call n f a H)
theorem d212_e (n : Nat) (f : FuncId) (a : List V) (H : Heap) : d212 @bdI (callA C n) n f a H = callA C (n + 1) f a H := by
  unfold d212
  exact (by
  cases h : Nat.ble f 159
  · exact d211_e n f a H
  · exact d194_e n f a H)
noncomputable def d213 (bd : B3) (call : FuncId → List V → Heap → Option R) (n : Nat) (f : FuncId) (a : List V) (H : Heap) : Option R := (bif Nat.ble f 150 then d177 bd call n f a H else d212 bd call n f a H)
theorem d213_e (n : Nat) (f : FuncId) (a : List V) (H : Heap) : d213 @bdI (callA C n) n f a H = callA C (n + 1) f a H := by
  unfold d213
  exact (by
  cases h : Nat.ble f 150
  · exact d212_e n f a H
  · exact d177_e n f a H)
noncomputable def d214 (bd : B3) (call : FuncId → List V → Heap → Option R) (n : Nat) (f : FuncId) (a : List V) (H : Heap) : Option R := (bif Nat.beq f 171 then circum_square.rf bd call n a H else bodyA C (fcall call) n f a H)
theorem d214_e (n : Nat) (f : FuncId) (a : List V) (H : Heap) : d214 @bdI (callA C n) n f a H = callA C (n + 1) f a H := by
  unfold d214
  exact (by
  cases h : Nat.beq f 171
  · exact bodyA_e
  · have h := Nat.eq_of_beq_eq_true h; subst h; exact circum_square.rf_e n a H)
noncomputable def d215 (bd : B3) (call : FuncId → List V → Heap → Option R) (n : Nat) (f : FuncId) (a : List V) (H : Heap) : Option R := (bif Nat.beq f 172 then arena_Arena_Take.rf bd call n a H else bodyA C (fcall call) n f a H)
theorem d215_e (n : Nat) (f : FuncId) (a : List V) (H : Heap) : d215 @bdI (callA C n) n f a H = callA C (n + 1) f a H := by
  unfold d215
  exact (by
  cases h : Nat.beq f 172
  · exact bodyA_e
  · have h := Nat.eq_of_beq_eq_true h; subst h; exact arena_Arena_Take.rf_e n a H)
noncomputable def d216 (bd : B3) (call : FuncId → List V → Heap → Option R) (n : Nat) (f : FuncId) (a : List V) (H : Heap) : Option R := (bif Nat.ble f 171 then d214 bd call n f a H else d215 bd call n f a H)
theorem d216_e (n : Nat) (f : FuncId) (a : List V) (H : Heap) : d216 @bdI (callA C n) n f a H = callA C (n + 1) f a H := by
  unfold d216
  exact (by
  cases h : Nat.ble f 171
  · exact d215_e n f a H
  · exact d214_e n f a H)
noncomputable def d217 (bd : B3) (call : FuncId → List V → Heap → Option R) (n : Nat) (f : FuncId) (a : List V) (H : Heap) : Option R := (bif Nat.beq f 173 then mesh_put_api_Vert.rf bd call n a H else bodyA C (fcall call) n f a H)
theorem d217_e (n : Nat) (f : FuncId) (a : List V) (H : Heap) : d217 @bdI (callA C n) n f a H = callA C (n + 1) f a H := by
  unfold d217
  exact (by
  cases h : Nat.beq f 173
  · exact bodyA_e
  · have h := Nat.eq_of_beq_eq_true h; subst h; exact mesh_put_api_Vert.rf_e n a H)
noncomputable def d218 (bd : B3) (call : FuncId → List V → Heap → Option R) (n : Nat) (f : FuncId) (a : List V) (H : Heap) : Option R := (bif Nat.beq f 174 then cover_part.rf bd call n a H else bodyA C (fcall call) n f a H)
theorem d218_e (n : Nat) (f : FuncId) (a : List V) (H : Heap) : d218 @bdI (callA C n) n f a H = callA C (n + 1) f a H := by
  unfold d218
  exact (by
  cases h : Nat.beq f 174
  · exact bodyA_e
  · have h := Nat.eq_of_beq_eq_true h; subst h; exact cover_part.rf_e n a H)
noncomputable def d219 (bd : B3) (call : FuncId → List V → Heap → Option R) (n : Nat) (f : FuncId) (a : List V) (H : Heap) : Option R := (bif Nat.ble f 173 then d217 bd call n f a H else d218 bd call n f a H)
theorem d219_e (n : Nat) (f : FuncId) (a : List V) (H : Heap) : d219 @bdI (callA C n) n f a H = callA C (n + 1) f a H := by
  unfold d219
  exact (by
  cases h : Nat.ble f 173
  · exact d218_e n f a H
  · exact d217_e n f a H)
noncomputable def d220 (bd : B3) (call : FuncId → List V → Heap → Option R) (n : Nat) (f : FuncId) (a : List V) (H : Heap) : Option R := (bif Nat.ble f 172 then d216 bd call n f a H else d219 bd call n f a H)
theorem d220_e (n : Nat) (f : FuncId) (a : List V) (H : Heap) : d220 @bdI (callA C n) n f a H = callA C (n + 1) f a H := by
  unfold d220
  exact (by
  cases h : Nat.ble f 172
  · exact d219_e n f a H
  · exact d216_e n f a H)
noncomputable def d221 (bd : B3) (call : FuncId → List V → Heap → Option R) (n : Nat) (f : FuncId) (a : List V) (H : Heap) : Option R := (bif Nat.beq f 175 then mesh_Mesh_turns.rf bd call n a H else bodyA C (fcall call) n f a H)
theorem d221_e (n : Nat) (f : FuncId) (a : List V) (H : Heap) : d221 @bdI (callA C n) n f a H = callA C (n + 1) f a H := by
  unfold d221
  exact (by
  cases h : Nat.beq f 175
  · exact bodyA_e
  · have h := Nat.eq_of_beq_eq_true h; subst h; exact mesh_Mesh_turns.rf_e n a H)
noncomputable def d222 (bd : B3) (call : FuncId → List V → Heap → Option R) (n : Nat) (f : FuncId) (a : List V) (H : Heap) : Option R := (bif Nat.beq f 176 then mesh_side.rf bd call n a H else bodyA C (fcall call) n f a H)
theorem d222_e (n : Nat) (f : FuncId) (a : List V) (H : Heap) : d222 @bdI (callA C n) n f a H = callA C (n + 1) f a H := by
  unfold d222
  exact (by
  cases h : Nat.beq f 176
  · exact bodyA_e
  · have h := Nat.eq_of_beq_eq_true h; subst h; exact mesh_side.rf_e n a H)
noncomputable def d223 (bd : B3) (call : FuncId → List V → Heap → Option R) (n : Nat) (f : FuncId) (a : List V) (H : Heap) : Option R := (bif Nat.ble f 175 then d221 bd call n f a H else d222 bd call n f a H)
theorem d223_e (n : Nat) (f : FuncId) (a : List V) (H : Heap) : d223 @bdI (callA C n) n f a H = callA C (n + 1) f a H := by
  unfold d223
  exact (by
  cases h : Nat.ble f 175
  · exact d222_e n f a H
  · exact d221_e n f a H)
noncomputable def d224 (bd : B3) (call : FuncId → List V → Heap → Option R) (n : Nat) (f : FuncId) (a : List V) (H : Heap) : Option R := (bif Nat.beq f 177 then mesh_put_api_Tri.rf bd call n a H else bodyA C (fcall call) n f a H)
theorem d224_e (n : Nat) (f : FuncId) (a : List V) (H : Heap) : d224 @bdI (callA C n) n f a H = callA C (n + 1) f a H := by
  unfold d224
  exact (by
  cases h : Nat.beq f 177
  · exact bodyA_e
  · have h := Nat.eq_of_beq_eq_true h; subst h; exact mesh_put_api_Tri.rf_e n a H)
noncomputable def d225 (bd : B3) (call : FuncId → List V → Heap → Option R) (n : Nat) (f : FuncId) (a : List V) (H : Heap) : Option R := (bif Nat.beq f 178 then slices_Contains_int_int.rf bd call n a H else bodyA C (fcall call) n f a H)
theorem d225_e (n : Nat) (f : FuncId) (a : List V) (H : Heap) : d225 @bdI (callA C n) n f a H = callA C (n + 1) f a H := by
  unfold d225
  exact (by
  cases h : Nat.beq f 178
  · exact bodyA_e
  · have h := Nat.eq_of_beq_eq_true h; subst h; exact slices_Contains_int_int.rf_e n a H)
noncomputable def d226 (bd : B3) (call : FuncId → List V → Heap → Option R) (n : Nat) (f : FuncId) (a : List V) (H : Heap) : Option R := (bif Nat.beq f 182 then slices_Index_int_int.rf bd call n a H else bodyA C (fcall call) n f a H)
theorem d226_e (n : Nat) (f : FuncId) (a : List V) (H : Heap) : d226 @bdI (callA C n) n f a H = callA C (n + 1) f a H := by
  unfold d226
  exact (by
  cases h : Nat.beq f 182
  · exact bodyA_e
  · have h := Nat.eq_of_beq_eq_true h; subst h; exact slices_Index_int_int.rf_e n a H)
noncomputable def d227 (bd : B3) (call : FuncId → List V → Heap → Option R) (n : Nat) (f : FuncId) (a : List V) (H : Heap) : Option R := (bif Nat.ble f 178 then d225 bd call n f a H else d226 bd call n f a H)
theorem d227_e (n : Nat) (f : FuncId) (a : List V) (H : Heap) : d227 @bdI (callA C n) n f a H = callA C (n + 1) f a H := by
  unfold d227
  exact (by
  cases h : Nat.ble f 178
  · exact d226_e n f a H
  · exact d225_e n f a H)
noncomputable def d228 (bd : B3) (call : FuncId → List V → Heap → Option R) (n : Nat) (f : FuncId) (a : List V) (H : Heap) : Option R := (bif Nat.ble f 177 then d224 bd call n f a H else d227 bd call n f a H)
theorem d228_e (n : Nat) (f : FuncId) (a : List V) (H : Heap) : d228 @bdI (callA C n) n f a H = callA C (n + 1) f a H := by
  unfold d228
  exact (by
  cases h : Nat.ble f 177
  · exact d227_e n f a H
  · exact d224_e n f a H)
noncomputable def d229 (bd : B3) (call : FuncId → List V → Heap → Option R) (n : Nat) (f : FuncId) (a : List V) (H : Heap) : Option R := (bif Nat.ble f 176 then d223 bd call n f a H else d228 bd call n f a H)
theorem d229_e (n : Nat) (f : FuncId) (a : List V) (H : Heap) : d229 @bdI (callA C n) n f a H = callA C (n + 1) f a H := by
  unfold d229
  exact (by
  cases h : Nat.ble f 176
  · exact d228_e n f a H
  · exact d223_e n f a H)
noncomputable def d230 (bd : B3) (call : FuncId → List V → Heap → Option R) (n : Nat) (f : FuncId) (a : List V) (H : Heap) : Option R := (bif Nat.ble f 174 then d220 bd call n f a H else d229 bd call n f a H)
theorem d230_e (n : Nat) (f : FuncId) (a : List V) (H : Heap) : d230 @bdI (callA C n) n f a H = callA C (n + 1) f a H := by
  unfold d230
  exact (by
  cases h : Nat.ble f 174
  · exact d229_e n f a H
  · exact d220_e n f a H)
noncomputable def d231 (bd : B3) (call : FuncId → List V → Heap → Option R) (n : Nat) (f : FuncId) (a : List V) (H : Heap) : Option R := (bif Nat.beq f 199 then quad_apart.rf bd call n a H else bodyA C (fcall call) n f a H)
theorem d231_e (n : Nat) (f : FuncId) (a : List V) (H : Heap) : d231 @bdI (callA C n) n f a H = callA C (n + 1) f a H := by
  unfold d231
  exact (by
  cases h : Nat.beq f 199
  · exact bodyA_e
  · have h := Nat.eq_of_beq_eq_true h; subst h; exact quad_apart.rf_e n a H)
noncomputable def d232 (bd : B3) (call : FuncId → List V → Heap → Option R) (n : Nat) (f : FuncId) (a : List V) (H : Heap) : Option R := (bif Nat.beq f 200 then quad_sub.rf bd call n a H else bodyA C (fcall call) n f a H)
theorem d232_e (n : Nat) (f : FuncId) (a : List V) (H : Heap) : d232 @bdI (callA C n) n f a H = callA C (n + 1) f a H := by
  unfold d232
  exact (by
  cases h : Nat.beq f 200
  · exact bodyA_e
  · have h := Nat.eq_of_beq_eq_true h; subst h; exact quad_sub.rf_e n a H)
noncomputable def d233 (bd : B3) (call : FuncId → List V → Heap → Option R) (n : Nat) (f : FuncId) (a : List V) (H : Heap) : Option R := (bif Nat.ble f 199 then d231 bd call n f a H else d232 bd call n f a H)
theorem d233_e (n : Nat) (f : FuncId) (a : List V) (H : Heap) : d233 @bdI (callA C n) n f a H = callA C (n + 1) f a H := by
  unfold d233
  exact (by
  cases h : Nat.ble f 199
  · exact d232_e n f a H
  · exact d231_e n f a H)
noncomputable def d234 (bd : B3) (call : FuncId → List V → Heap → Option R) (n : Nat) (f : FuncId) (a : List V) (H : Heap) : Option R := (bif Nat.beq f 201 then quad_add.rf bd call n a H else bodyA C (fcall call) n f a H)
theorem d234_e (n : Nat) (f : FuncId) (a : List V) (H : Heap) : d234 @bdI (callA C n) n f a H = callA C (n + 1) f a H := by
  unfold d234
  exact (by
  cases h : Nat.beq f 201
  · exact bodyA_e
  · have h := Nat.eq_of_beq_eq_true h; subst h; exact quad_add.rf_e n a H)
noncomputable def d235 (bd : B3) (call : FuncId → List V → Heap → Option R) (n : Nat) (f : FuncId) (a : List V) (H : Heap) : Option R := (bif Nat.beq f 202 then quad_below.rf bd call n a H else bodyA C (fcall call) n f a H)
theorem d235_e (n : Nat) (f : FuncId) (a : List V) (H : Heap) : d235 @bdI (callA C n) n f a H = callA C (n + 1) f a H := by
  unfold d235
  exact (by
  cases h : Nat.beq f 202
  · exact bodyA_e
  · have h := Nat.eq_of_beq_eq_true h; subst h; exact quad_below.rf_e n a H)
noncomputable def d236 (bd : B3) (call : FuncId → List V → Heap → Option R) (n : Nat) (f : FuncId) (a : List V) (H : Heap) : Option R := (bif Nat.ble f 201 then d234 bd call n f a H else d235 bd call n f a H)
theorem d236_e (n : Nat) (f : FuncId) (a : List V) (H : Heap) : d236 @bdI (callA C n) n f a H = callA C (n + 1) f a H := by
  unfold d236
  exact (by
  cases h : Nat.ble f 201
  · exact d235_e n f a H
  · exact d234_e n f a H)
noncomputable def d237 (bd : B3) (call : FuncId → List V → Heap → Option R) (n : Nat) (f : FuncId) (a : List V) (H : Heap) : Option R := (bif Nat.ble f 200 then d233 bd call n f a H else d236 bd call n f a H)
theorem d237_e (n : Nat) (f : FuncId) (a : List V) (H : Heap) : d237 @bdI (callA C n) n f a H = callA C (n + 1) f a H := by
  unfold d237
  exact (by
  cases h : Nat.ble f 200
  · exact d236_e n f a H
  · exact d233_e n f a H)
noncomputable def d238 (bd : B3) (call : FuncId → List V → Heap → Option R) (n : Nat) (f : FuncId) (a : List V) (H : Heap) : Option R := (bif Nat.beq f 203 then cmp_Compare_int64.rf bd call n a H else bodyA C (fcall call) n f a H)
theorem d238_e (n : Nat) (f : FuncId) (a : List V) (H : Heap) : d238 @bdI (callA C n) n f a H = callA C (n + 1) f a H := by
  unfold d238
  exact (by
  cases h : Nat.beq f 203
  · exact bodyA_e
  · have h := Nat.eq_of_beq_eq_true h; subst h; exact cmp_Compare_int64.rf_e n a H)
noncomputable def d239 (bd : B3) (call : FuncId → List V → Heap → Option R) (n : Nat) (f : FuncId) (a : List V) (H : Heap) : Option R := (bif Nat.beq f 204 then lift_part.rf bd call n a H else bodyA C (fcall call) n f a H)
theorem d239_e (n : Nat) (f : FuncId) (a : List V) (H : Heap) : d239 @bdI (callA C n) n f a H = callA C (n + 1) f a H := by
  unfold d239
  exact (by
  cases h : Nat.beq f 204
  · exact bodyA_e
  · have h := Nat.eq_of_beq_eq_true h; subst h; exact lift_part.rf_e n a H)
noncomputable def d240 (bd : B3) (call : FuncId → List V → Heap → Option R) (n : Nat) (f : FuncId) (a : List V) (H : Heap) : Option R := (bif Nat.ble f 203 then d238 bd call n f a H else d239 bd call n f a H)
theorem d240_e (n : Nat) (f : FuncId) (a : List V) (H : Heap) : d240 @bdI (callA C n) n f a H = callA C (n + 1) f a H := by
  unfold d240
  exact (by
  cases h : Nat.ble f 203
  · exact d239_e n f a H
  · exact d238_e n f a H)
noncomputable def d241 (bd : B3) (call : FuncId → List V → Heap → Option R) (n : Nat) (f : FuncId) (a : List V) (H : Heap) : Option R := (bif Nat.beq f 205 then mesh_Mesh_face.rf bd call n a H else bodyA C (fcall call) n f a H)
theorem d241_e (n : Nat) (f : FuncId) (a : List V) (H : Heap) : d241 @bdI (callA C n) n f a H = callA C (n + 1) f a H := by
  unfold d241
  exact (by
  cases h : Nat.beq f 205
  · exact bodyA_e
  · have h := Nat.eq_of_beq_eq_true h; subst h; exact mesh_Mesh_face.rf_e n a H)
noncomputable def d242 (bd : B3) (call : FuncId → List V → Heap → Option R) (n : Nat) (f : FuncId) (a : List V) (H : Heap) : Option R := (bif Nat.beq f 206 then mesh_Mesh_place.rf bd call n a H else bodyA C (fcall call) n f a H)
theorem d242_e (n : Nat) (f : FuncId) (a : List V) (H : Heap) : d242 @bdI (callA C n) n f a H = callA C (n + 1) f a H := by
  unfold d242
  exact (by
  cases h : Nat.beq f 206
  · exact bodyA_e
  · have h := Nat.eq_of_beq_eq_true h; subst h; exact mesh_Mesh_place.rf_e n a H)
noncomputable def d243 (bd : B3) (call : FuncId → List V → Heap → Option R) (n : Nat) (f : FuncId) (a : List V) (H : Heap) : Option R := (bif Nat.beq f 207 then mesh_third.rf bd call n a H else bodyA C (fcall call) n f a H)
theorem d243_e (n : Nat) (f : FuncId) (a : List V) (H : Heap) : d243 @bdI (callA C n) n f a H = callA C (n + 1) f a H := by
  unfold d243
  exact (by
  cases h : Nat.beq f 207
  · exact bodyA_e
  · have h := Nat.eq_of_beq_eq_true h; subst h; exact mesh_third.rf_e n a H)
noncomputable def d244 (bd : B3) (call : FuncId → List V → Heap → Option R) (n : Nat) (f : FuncId) (a : List V) (H : Heap) : Option R := (bif Nat.ble f 206 then d242 bd call n f a H else d243 bd call n f a H)
theorem d244_e (n : Nat) (f : FuncId) (a : List V) (H : Heap) : d244 @bdI (callA C n) n f a H = callA C (n + 1) f a H := by
  unfold d244
  exact (by
  cases h : Nat.ble f 206
  · exact d243_e n f a H
  · exact d242_e n f a H)
noncomputable def d245 (bd : B3) (call : FuncId → List V → Heap → Option R) (n : Nat) (f : FuncId) (a : List V) (H : Heap) : Option R := (bif Nat.ble f 205 then d241 bd call n f a H else d244 bd call n f a H)
theorem d245_e (n : Nat) (f : FuncId) (a : List V) (H : Heap) : d245 @bdI (callA C n) n f a H = callA C (n + 1) f a H := by
  unfold d245
  exact (by
  cases h : Nat.ble f 205
  · exact d244_e n f a H
  · exact d241_e n f a H)
noncomputable def d246 (bd : B3) (call : FuncId → List V → Heap → Option R) (n : Nat) (f : FuncId) (a : List V) (H : Heap) : Option R := (bif Nat.ble f 204 then d240 bd call n f a H else d245 bd call n f a H)
theorem d246_e (n : Nat) (f : FuncId) (a : List V) (H : Heap) : d246 @bdI (callA C n) n f a H = callA C (n + 1) f a H := by
  unfold d246
  exact (by
  cases h : Nat.ble f 204
  · exact d245_e n f a H
  · exact d240_e n f a H)
noncomputable def d247 (bd : B3) (call : FuncId → List V → Heap → Option R) (n : Nat) (f : FuncId) (a : List V) (H : Heap) : Option R := (bif Nat.ble f 202 then d237 bd call n f a H else d246 bd call n f a H)
theorem d247_e (n : Nat) (f : FuncId) (a : List V) (H : Heap) : d247 @bdI (callA C n) n f a H = callA C (n + 1) f a H := by
  unfold d247
  exact (by
  cases h : Nat.ble f 202
  · exact d246_e n f a H
  · exact d237_e n f a H)
noncomputable def d248 (bd : B3) (call : FuncId → List V → Heap → Option R) (n : Nat) (f : FuncId) (a : List V) (H : Heap) : Option R := (bif Nat.ble f 182 then d230 bd call n f a H else d247 bd call n f a H)
theorem d248_e (n : Nat) (f : FuncId) (a : List V) (H : Heap) : d248 @bdI (callA C n) n f a H = callA C (n + 1) f a H := by
  unfold d248
  exact (by
  cases h : Nat.ble f 182
  · exact d247_e n f a H
  · exact d230_e n f a H)
noncomputable def d249 (bd : B3) (call : FuncId → List V → Heap → Option R) (n : Nat) (f : FuncId) (a : List V) (H : Heap) : Option R := (bif Nat.beq f 211 then arena_Arena_Live.rf bd call n a H else bodyA C (fcall call) n f a H)
theorem d249_e (n : Nat) (f : FuncId) (a : List V) (H : Heap) : d249 @bdI (callA C n) n f a H = callA C (n + 1) f a H := by
  unfold d249
  exact (by
  cases h : Nat.beq f 211
  · exact bodyA_e
  · have h := Nat.eq_of_beq_eq_true h; subst h; exact arena_Arena_Live.rf_e n a H)
noncomputable def d250 (bd : B3) (call : FuncId → List V → Heap → Option R) (n : Nat) (f : FuncId) (a : List V) (H : Heap) : Option R := (bif Nat.beq f 212 then whole_norm.rf bd call n a H else bodyA C (fcall call) n f a H)
theorem d250_e (n : Nat) (f : FuncId) (a : List V) (H : Heap) : d250 @bdI (callA C n) n f a H = callA C (n + 1) f a H := by
  unfold d250
  exact (by
  cases h : Nat.beq f 212
  · exact bodyA_e
  · have h := Nat.eq_of_beq_eq_true h; subst h; exact whole_norm.rf_e n a H)
noncomputable def d251 (bd : B3) (call : FuncId → List V → Heap → Option R) (n : Nat) (f : FuncId) (a : List V) (H : Heap) : Option R := (bif Nat.ble f 211 then d249 bd call n f a H else d250 bd call n f a H)
theorem d251_e (n : Nat) (f : FuncId) (a : List V) (H : Heap) : d251 @bdI (callA C n) n f a H = callA C (n + 1) f a H := by
  unfold d251
  exact (by
  cases h : Nat.ble f 211
  · exact d250_e n f a H
  · exact d249_e n f a H)
noncomputable def d252 (bd : B3) (call : FuncId → List V → Heap → Option R) (n : Nat) (f : FuncId) (a : List V) (H : Heap) : Option R := (bif Nat.beq f 213 then nat_Mul.rf bd call n a H else bodyA C (fcall call) n f a H)
theorem d252_e (n : Nat) (f : FuncId) (a : List V) (H : Heap) : d252 @bdI (callA C n) n f a H = callA C (n + 1) f a H := by
  unfold d252
  exact (by
  cases h : Nat.beq f 213
  · exact bodyA_e
  · have h := Nat.eq_of_beq_eq_true h; subst h; exact nat_Mul.rf_e n a H)
noncomputable def d253 (bd : B3) (call : FuncId → List V → Heap → Option R) (n : Nat) (f : FuncId) (a : List V) (H : Heap) : Option R := (bif Nat.beq f 214 then nat_Of.rf bd call n a H else bodyA C (fcall call) n f a H)
theorem d253_e (n : Nat) (f : FuncId) (a : List V) (H : Heap) : d253 @bdI (callA C n) n f a H = callA C (n + 1) f a H := by
  unfold d253
  exact (by
  cases h : Nat.beq f 214
  · exact bodyA_e
  · have h := Nat.eq_of_beq_eq_true h; subst h; exact nat_Of.rf_e n a H)
noncomputable def d254 (bd : B3) (call : FuncId → List V → Heap → Option R) (n : Nat) (f : FuncId) (a : List V) (H : Heap) : Option R := (bif Nat.ble f 213 then d252 bd call n f a H else d253 bd call n f a H)
theorem d254_e (n : Nat) (f : FuncId) (a : List V) (H : Heap) : d254 @bdI (callA C n) n f a H = callA C (n + 1) f a H := by
  unfold d254
  exact (by
  cases h : Nat.ble f 213
  · exact d253_e n f a H
  · exact d252_e n f a H)
noncomputable def d255 (bd : B3) (call : FuncId → List V → Heap → Option R) (n : Nat) (f : FuncId) (a : List V) (H : Heap) : Option R := (bif Nat.ble f 212 then d251 bd call n f a H else d254 bd call n f a H)
theorem d255_e (n : Nat) (f : FuncId) (a : List V) (H : Heap) : d255 @bdI (callA C n) n f a H = callA C (n + 1) f a H := by
  unfold d255
  exact (by
  cases h : Nat.ble f 212
  · exact d254_e n f a H
  · exact d251_e n f a H)
noncomputable def d256 (bd : B3) (call : FuncId → List V → Heap → Option R) (n : Nat) (f : FuncId) (a : List V) (H : Heap) : Option R := (bif Nat.beq f 215 then pred_Dist2.rf bd call n a H else bodyA C (fcall call) n f a H)
theorem d256_e (n : Nat) (f : FuncId) (a : List V) (H : Heap) : d256 @bdI (callA C n) n f a H = callA C (n + 1) f a H := by
  unfold d256
  exact (by
  cases h : Nat.beq f 215
  · exact bodyA_e
  · have h := Nat.eq_of_beq_eq_true h; subst h; exact pred_Dist2.rf_e n a H)
noncomputable def d257 (bd : B3) (call : FuncId → List V → Heap → Option R) (n : Nat) (f : FuncId) (a : List V) (H : Heap) : Option R := (bif Nat.beq f 216 then whole_sign.rf bd call n a H else bodyA C (fcall call) n f a H)
theorem d257_e (n : Nat) (f : FuncId) (a : List V) (H : Heap) : d257 @bdI (callA C n) n f a H = callA C (n + 1) f a H := by
  unfold d257
  exact (by
  cases h : Nat.beq f 216
  · exact bodyA_e
  · have h := Nat.eq_of_beq_eq_true h; subst h; exact whole_sign.rf_e n a H)
noncomputable def d258 (bd : B3) (call : FuncId → List V → Heap → Option R) (n : Nat) (f : FuncId) (a : List V) (H : Heap) : Option R := (bif Nat.ble f 215 then d256 bd call n f a H else d257 bd call n f a H)
theorem d258_e (n : Nat) (f : FuncId) (a : List V) (H : Heap) : d258 @bdI (callA C n) n f a H = callA C (n + 1) f a H := by
  unfold d258
  exact (by
  cases h : Nat.ble f 215
  · exact d257_e n f a H
  · exact d256_e n f a H)
noncomputable def d259 (bd : B3) (call : FuncId → List V → Heap → Option R) (n : Nat) (f : FuncId) (a : List V) (H : Heap) : Option R := (bif Nat.beq f 217 then nat_Cmp.rf bd call n a H else bodyA C (fcall call) n f a H)
theorem d259_e (n : Nat) (f : FuncId) (a : List V) (H : Heap) : d259 @bdI (callA C n) n f a H = callA C (n + 1) f a H := by
  unfold d259
  exact (by
  cases h : Nat.beq f 217
  · exact bodyA_e
  · have h := Nat.eq_of_beq_eq_true h; subst h; exact nat_Cmp.rf_e n a H)
noncomputable def d260 (bd : B3) (call : FuncId → List V → Heap → Option R) (n : Nat) (f : FuncId) (a : List V) (H : Heap) : Option R := (bif Nat.beq f 218 then whole_OfQuad.rf bd call n a H else bodyA C (fcall call) n f a H)
theorem d260_e (n : Nat) (f : FuncId) (a : List V) (H : Heap) : d260 @bdI (callA C n) n f a H = callA C (n + 1) f a H := by
  unfold d260
  exact (by
  cases h : Nat.beq f 218
  · exact bodyA_e
  · have h := Nat.eq_of_beq_eq_true h; subst h; exact whole_OfQuad.rf_e n a H)
noncomputable def d261 (bd : B3) (call : FuncId → List V → Heap → Option R) (n : Nat) (f : FuncId) (a : List V) (H : Heap) : Option R := (bif Nat.beq f 219 then quad_Of.rf bd call n a H else bodyA C (fcall call) n f a H)
theorem d261_e (n : Nat) (f : FuncId) (a : List V) (H : Heap) : d261 @bdI (callA C n) n f a H = callA C (n + 1) f a H := by
  unfold d261
  exact (by
  cases h : Nat.beq f 219
  · exact bodyA_e
  · have h := Nat.eq_of_beq_eq_true h; subst h; exact quad_Of.rf_e n a H)
noncomputable def d262 (bd : B3) (call : FuncId → List V → Heap → Option R) (n : Nat) (f : FuncId) (a : List V) (H : Heap) : Option R := (bif Nat.ble f 218 then d260 bd call n f a H else d261 bd call n f a H)
theorem d262_e (n : Nat) (f : FuncId) (a : List V) (H : Heap) : d262 @bdI (callA C n) n f a H = callA C (n + 1) f a H := by
  unfold d262
  exact (by
  cases h : Nat.ble f 218
  · exact d261_e n f a H
  · exact d260_e n f a H)
noncomputable def d263 (bd : B3) (call : FuncId → List V → Heap → Option R) (n : Nat) (f : FuncId) (a : List V) (H : Heap) : Option R := (bif Nat.ble f 217 then d259 bd call n f a H else d262 bd call n f a H)
theorem d263_e (n : Nat) (f : FuncId) (a : List V) (H : Heap) : d263 @bdI (callA C n) n f a H = callA C (n + 1) f a H := by
  unfold d263
  exact (by
  cases h : Nat.ble f 217
  · exact d262_e n f a H
  · exact d259_e n f a H)
noncomputable def d264 (bd : B3) (call : FuncId → List V → Heap → Option R) (n : Nat) (f : FuncId) (a : List V) (H : Heap) : Option R := (bif Nat.ble f 216 then d258 bd call n f a H else d263 bd call n f a H)
theorem d264_e (n : Nat) (f : FuncId) (a : List V) (H : Heap) : d264 @bdI (callA C n) n f a H = callA C (n + 1) f a H := by
  unfold d264
  exact (by
  cases h : Nat.ble f 216
  · exact d263_e n f a H
  · exact d258_e n f a H)
noncomputable def d265 (bd : B3) (call : FuncId → List V → Heap → Option R) (n : Nat) (f : FuncId) (a : List V) (H : Heap) : Option R := (bif Nat.ble f 214 then d255 bd call n f a H else d264 bd call n f a H)
theorem d265_e (n : Nat) (f : FuncId) (a : List V) (H : Heap) : d265 @bdI (callA C n) n f a H = callA C (n + 1) f a H := by
  unfold d265
  exact (by
  cases h : Nat.ble f 214
  · exact d264_e n f a H
  · exact d255_e n f a H)
noncomputable def d266 (bd : B3) (call : FuncId → List V → Heap → Option R) (n : Nat) (f : FuncId) (a : List V) (H : Heap) : Option R := (bif Nat.beq f 237 then wide_Neg.rf bd call n a H else bodyA C (fcall call) n f a H)
theorem d266_e (n : Nat) (f : FuncId) (a : List V) (H : Heap) : d266 @bdI (callA C n) n f a H = callA C (n + 1) f a H := by
  unfold d266
  exact (by
  cases h : Nat.beq f 237
  · exact bodyA_e
  · have h := Nat.eq_of_beq_eq_true h; subst h; exact wide_Neg.rf_e n a H)
noncomputable def d267 (bd : B3) (call : FuncId → List V → Heap → Option R) (n : Nat) (f : FuncId) (a : List V) (H : Heap) : Option R := (bif Nat.beq f 238 then cmp_isNaN_int64.rf bd call n a H else bodyA C (fcall call) n f a H)
theorem d267_e (n : Nat) (f : FuncId) (a : List V) (H : Heap) : d267 @bdI (callA C n) n f a H = callA C (n + 1) f a H := by
  unfold d267
  exact (by
  cases h : Nat.beq f 238
  · exact bodyA_e
  · have h := Nat.eq_of_beq_eq_true h; subst h; exact cmp_isNaN_int64.rf_e n a H)
noncomputable def d268 (bd : B3) (call : FuncId → List V → Heap → Option R) (n : Nat) (f : FuncId) (a : List V) (H : Heap) : Option R := (bif Nat.ble f 237 then d266 bd call n f a H else d267 bd call n f a H)
theorem d268_e (n : Nat) (f : FuncId) (a : List V) (H : Heap) : d268 @bdI (callA C n) n f a H = callA C (n + 1) f a H := by
  unfold d268
  exact (by
  cases h : Nat.ble f 237
  · exact d267_e n f a H
  · exact d266_e n f a H)
noncomputable def d269 (bd : B3) (call : FuncId → List V → Heap → Option R) (n : Nat) (f : FuncId) (a : List V) (H : Heap) : Option R := (bif Nat.beq f 243 then nat_Trim.rf bd call n a H else bodyA C (fcall call) n f a H)
theorem d269_e (n : Nat) (f : FuncId) (a : List V) (H : Heap) : d269 @bdI (callA C n) n f a H = callA C (n + 1) f a H := by
  unfold d269
  exact (by
  cases h : Nat.beq f 243
  · exact bodyA_e
  · have h := Nat.eq_of_beq_eq_true h; subst h; exact nat_Trim.rf_e n a H)
noncomputable def d270 (bd : B3) (call : FuncId → List V → Heap → Option R) (n : Nat) (f : FuncId) (a : List V) (H : Heap) : Option R := (bif Nat.beq f 244 then nat_trim.rf bd call n a H else bodyA C (fcall call) n f a H)
theorem d270_e (n : Nat) (f : FuncId) (a : List V) (H : Heap) : d270 @bdI (callA C n) n f a H = callA C (n + 1) f a H := by
  unfold d270
  exact (by
  cases h : Nat.beq f 244
  · exact bodyA_e
  · have h := Nat.eq_of_beq_eq_true h; subst h; exact nat_trim.rf_e n a H)
noncomputable def d271 (bd : B3) (call : FuncId → List V → Heap → Option R) (n : Nat) (f : FuncId) (a : List V) (H : Heap) : Option R := (bif Nat.ble f 243 then d269 bd call n f a H else d270 bd call n f a H)
theorem d271_e (n : Nat) (f : FuncId) (a : List V) (H : Heap) : d271 @bdI (callA C n) n f a H = callA C (n + 1) f a H := by
  unfold d271
  exact (by
  cases h : Nat.ble f 243
  · exact d270_e n f a H
  · exact d269_e n f a H)
noncomputable def d272 (bd : B3) (call : FuncId → List V → Heap → Option R) (n : Nat) (f : FuncId) (a : List V) (H : Heap) : Option R := (bif Nat.ble f 238 then d268 bd call n f a H else d271 bd call n f a H)
theorem d272_e (n : Nat) (f : FuncId) (a : List V) (H : Heap) : d272 @bdI (callA C n) n f a H = callA C (n + 1) f a H := by
  unfold d272
  exact (by
  cases h : Nat.ble f 238
  · exact d271_e n f a H
  · exact d268_e n f a H)
noncomputable def d273 (bd : B3) (call : FuncId → List V → Heap → Option R) (n : Nat) (f : FuncId) (a : List V) (H : Heap) : Option R := (bif Nat.beq f 245 then slices_Clone_api_Nat_uint32.rf bd call n a H else bodyA C (fcall call) n f a H)
theorem d273_e (n : Nat) (f : FuncId) (a : List V) (H : Heap) : d273 @bdI (callA C n) n f a H = callA C (n + 1) f a H := by
  unfold d273
  exact (by
  cases h : Nat.beq f 245
  · exact bodyA_e
  · have h := Nat.eq_of_beq_eq_true h; subst h; exact slices_Clone_api_Nat_uint32.rf_e n a H)
noncomputable def d274 (bd : B3) (call : FuncId → List V → Heap → Option R) (n : Nat) (f : FuncId) (a : List V) (H : Heap) : Option R := (bif Nat.beq f 246 then nat_Bits.rf bd call n a H else bodyA C (fcall call) n f a H)
theorem d274_e (n : Nat) (f : FuncId) (a : List V) (H : Heap) : d274 @bdI (callA C n) n f a H = callA C (n + 1) f a H := by
  unfold d274
  exact (by
  cases h : Nat.beq f 246
  · exact bodyA_e
  · have h := Nat.eq_of_beq_eq_true h; subst h; exact nat_Bits.rf_e n a H)
noncomputable def d275 (bd : B3) (call : FuncId → List V → Heap → Option R) (n : Nat) (f : FuncId) (a : List V) (H : Heap) : Option R := (bif Nat.ble f 245 then d273 bd call n f a H else d274 bd call n f a H)
theorem d275_e (n : Nat) (f : FuncId) (a : List V) (H : Heap) : d275 @bdI (callA C n) n f a H = callA C (n + 1) f a H := by
  unfold d275
  exact (by
  cases h : Nat.ble f 245
  · exact d274_e n f a H
  · exact d273_e n f a H)
noncomputable def d276 (bd : B3) (call : FuncId → List V → Heap → Option R) (n : Nat) (f : FuncId) (a : List V) (H : Heap) : Option R := (bif Nat.beq f 247 then nat_cmp.rf bd call n a H else bodyA C (fcall call) n f a H)
theorem d276_e (n : Nat) (f : FuncId) (a : List V) (H : Heap) : d276 @bdI (callA C n) n f a H = callA C (n + 1) f a H := by
  unfold d276
  exact (by
  cases h : Nat.beq f 247
  · exact bodyA_e
  · have h := Nat.eq_of_beq_eq_true h; subst h; exact nat_cmp.rf_e n a H)
noncomputable def d277 (bd : B3) (call : FuncId → List V → Heap → Option R) (n : Nat) (f : FuncId) (a : List V) (H : Heap) : Option R := (bif Nat.beq f 249 then quad_of.rf bd call n a H else bodyA C (fcall call) n f a H)
theorem d277_e (n : Nat) (f : FuncId) (a : List V) (H : Heap) : d277 @bdI (callA C n) n f a H = callA C (n + 1) f a H := by
  unfold d277
  exact (by
  cases h : Nat.beq f 249
  · exact bodyA_e
  · have h := Nat.eq_of_beq_eq_true h; subst h; exact quad_of.rf_e n a H)
noncomputable def d278 (bd : B3) (call : FuncId → List V → Heap → Option R) (n : Nat) (f : FuncId) (a : List V) (H : Heap) : Option R := (bif Nat.beq f 266 then nat_size.rf bd call n a H else bodyA C (fcall call) n f a H)
theorem d278_e (n : Nat) (f : FuncId) (a : List V) (H : Heap) : d278 @bdI (callA C n) n f a H = callA C (n + 1) f a H := by
  unfold d278
  exact (by
  cases h : Nat.beq f 266
  · exact bodyA_e
  · have h := Nat.eq_of_beq_eq_true h; subst h; exact nat_size.rf_e n a H)
noncomputable def d279 (bd : B3) (call : FuncId → List V → Heap → Option R) (n : Nat) (f : FuncId) (a : List V) (H : Heap) : Option R := (bif Nat.ble f 249 then d277 bd call n f a H else d278 bd call n f a H)
theorem d279_e (n : Nat) (f : FuncId) (a : List V) (H : Heap) : d279 @bdI (callA C n) n f a H = callA C (n + 1) f a H := by
  unfold d279
  exact (by
  cases h : Nat.ble f 249
  · exact d278_e n f a H
  · exact d277_e n f a H)
noncomputable def d280 (bd : B3) (call : FuncId → List V → Heap → Option R) (n : Nat) (f : FuncId) (a : List V) (H : Heap) : Option R := (bif Nat.ble f 247 then d276 bd call n f a H else d279 bd call n f a H)
theorem d280_e (n : Nat) (f : FuncId) (a : List V) (H : Heap) : d280 @bdI (callA C n) n f a H = callA C (n + 1) f a H := by
  unfold d280
  exact (by
  cases h : Nat.ble f 247
  · exact d279_e n f a H
  · exact d276_e n f a H)
noncomputable def d281 (bd : B3) (call : FuncId → List V → Heap → Option R) (n : Nat) (f : FuncId) (a : List V) (H : Heap) : Option R := (bif Nat.ble f 246 then d275 bd call n f a H else d280 bd call n f a H)
theorem d281_e (n : Nat) (f : FuncId) (a : List V) (H : Heap) : d281 @bdI (callA C n) n f a H = callA C (n + 1) f a H := by
  unfold d281
  exact (by
  cases h : Nat.ble f 246
  · exact d280_e n f a H
  · exact d275_e n f a H)
noncomputable def d282 (bd : B3) (call : FuncId → List V → Heap → Option R) (n : Nat) (f : FuncId) (a : List V) (H : Heap) : Option R := (bif Nat.ble f 244 then d272 bd call n f a H else d281 bd call n f a H)
theorem d282_e (n : Nat) (f : FuncId) (a : List V) (H : Heap) : d282 @bdI (callA C n) n f a H = callA C (n + 1) f a H := by
  unfold d282
  exact (by
  cases h : Nat.ble f 244
  · exact d281_e n f a H
  · exact d272_e n f a H)
noncomputable def d283 (bd : B3) (call : FuncId → List V → Heap → Option R) (n : Nat) (f : FuncId) (a : List V) (H : Heap) : Option R := (bif Nat.ble f 219 then d265 bd call n f a H else d282 bd call n f a H)
theorem d283_e (n : Nat) (f : FuncId) (a : List V) (H : Heap) : d283 @bdI (callA C n) n f a H = callA C (n + 1) f a H := by
  unfold d283
  exact (by
  cases h : Nat.ble f 219
  · exact d282_e n f a H
  · exact d265_e n f a H)
noncomputable def d284 (bd : B3) (call : FuncId → List V → Heap → Option R) (n : Nat) (f : FuncId) (a : List V) (H : Heap) : Option R := (bif Nat.ble f 207 then d248 bd call n f a H else d283 bd call n f a H)
theorem d284_e (n : Nat) (f : FuncId) (a : List V) (H : Heap) : d284 @bdI (callA C n) n f a H = callA C (n + 1) f a H := by
  unfold d284
  exact (by
  cases h : Nat.ble f 207
  · exact d283_e n f a H
  · exact d248_e n f a H)
noncomputable def d285 (bd : B3) (call : FuncId → List V → Heap → Option R) (n : Nat) (f : FuncId) (a : List V) (H : Heap) : Option R := (bif Nat.ble f 170 then d213 bd call n f a H else d284 bd call n f a H)
theorem d285_e (n : Nat) (f : FuncId) (a : List V) (H : Heap) : d285 @bdI (callA C n) n f a H = callA C (n + 1) f a H := by
  unfold d285
  exact (by
  cases h : Nat.ble f 170
  · exact d284_e n f a H
  · exact d213_e n f a H)
noncomputable def d286 (bd : B3) (call : FuncId → List V → Heap → Option R) (n : Nat) (f : FuncId) (a : List V) (H : Heap) : Option R := (bif Nat.ble f 113 then d142 bd call n f a H else d285 bd call n f a H)
theorem d286_e (n : Nat) (f : FuncId) (a : List V) (H : Heap) : d286 @bdI (callA C n) n f a H = callA C (n + 1) f a H := by
  unfold d286
  exact (by
  cases h : Nat.ble f 113
  · exact d285_e n f a H
  · exact d142_e n f a H)
noncomputable def ev (bd : B3) (n : Nat) : FuncId → List V → Heap → Option R := Nat.rec (motive := fun _ => FuncId → List V → Heap → Option R) (fun _ _ _ => none) (fun n ih => d286 bd ih n) n
theorem ev_e (n : Nat) : ev @bf n = callA C n := by
  rw [bf_is]
  induction n with
  | zero => funext f a H; unfold callA; rfl
  | succ n ih => funext f a H; exact (congrArg (fun c => d286 @bdI c n f a H) ih).trans (d286_e n f a H)
end Go.AM.L
end
