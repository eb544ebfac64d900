/- Merged by program from: UvLR4 UvLR5 UvLR6 UvLR7 UvLR8. -/
import Derived.Test.YtklnjhedbafknaaGreatX5
section
set_option linter.unusedVariables false
set_option linter.unusedSimpArgs false
set_option maxRecDepth 1000000
set_option linter.unusedVariables false
namespace Go.AM.L
noncomputable def pred_Area2.r (bd : B3) (call : FuncId → List V → Heap → Option R) (n : Nat) (v0 v1 v2 : V) (H : Heap) : Option R :=
 (bd (boxA ty_api_Point v0) fun o1 =>
 (bd (boxA ty_api_Point v1) fun o2 =>
 (bd (boxA ty_api_Point v2) fun o3 =>
 (bd (ldN 2 (.ptr (some (H.n, 0))) ((((H.push o1).push o2).push o3).push (.cells [(.int .i64 0), (.int .u64 0)] ty_api_Wide false))) fun t7_4 =>
 (bd (ldN 2 (.ptr (some ((H.push o1).n, 0))) ((((H.push o1).push o2).push o3).push (.cells [(.int .i64 0), (.int .u64 0)] ty_api_Wide false))) fun t8_5 =>
 (bd (ldN 2 (.ptr (some (((H.push o1).push o2).n, 0))) ((((H.push o1).push o2).push o3).push (.cells [(.int .i64 0), (.int .u64 0)] ty_api_Wide false))) fun t9_6 =>
 (bd (bSl 2 ty_api_Point [(.int .i64 0), (.int .i64 0)] 3 [(0, t7_4), (1, t8_5), (2, t9_6)]) fun o7 =>
 (bd (call 88 [(.slice ⟨some (((((H.push o1).push o2).push o3).push (.cells [(.int .i64 0), (.int .u64 0)] ty_api_Wide false)).n, 0), 3, 2, false⟩)] (((((H.push o1).push o2).push o3).push (.cells [(.int .i64 0), (.int .u64 0)] ty_api_Wide false)).push o7)) fun r8 =>
 (bd (unA .not r8.1) fun t12_9 =>
 (bd (asB t12_9) fun b10 =>
 if b10 = true then
 (bd (flA [(0, 1), (1, 1)] [(.int .i64 0), (.int .u64 0)] []) fun t13_11 =>
 (bd (stA 2 (.ptr (some ((((H.push o1).push o2).push o3).n, 0))) t13_11 r8.2) fun H12 =>
 (bd (ldN 2 (.ptr (some ((((H.push o1).push o2).push o3).n, 0))) H12) fun t13 =>
 (some (t13, H12)))))
 else
 (bd (ldN 2 (.ptr (some (H.n, 0))) (r8.2.more 0)) fun t14_14 =>
 (bd (ldN 2 (.ptr (some ((H.push o1).n, 0))) (r8.2.more 0)) fun t15_15 =>
 (bd (call 92 [t14_14, t15_15] (r8.2.more 0)) fun r16 =>
 (bd (ldN 2 (.ptr (some (H.n, 0))) r16.2) fun t17_17 =>
 (bd (chk (ldN 2 (.ptr (some (H.n, 0))) (r8.2.more 0)) t17_17) fun _ =>
 (bd (ldN 2 (.ptr (some (((H.push o1).push o2).n, 0))) r16.2) fun t18_18 =>
 (bd (chk (ldN 2 (.ptr (some (((H.push o1).push o2).n, 0))) (r8.2.more 0)) t18_18) fun _ =>
 (bd (call 92 [t17_17, t18_18] r16.2) fun r19 =>
 (bd (call 91 [r16.1, r19.1] r19.2) fun r20 =>
 (bd (stA 2 (.ptr (some ((((H.push o1).push o2).push o3).n, 0))) r20.1 r20.2) fun H21 =>
 (bd (ldN 2 (.ptr (some ((((H.push o1).push o2).push o3).n, 0))) H21) fun t22 =>
 (some (t22, H21)))))))))))))))))))))))
theorem pred_Area2.r_e (n : Nat) (v0 v1 v2 : V) (H : Heap) : pred_Area2.r @bdI (callA C n) n v0 v1 v2 H = E C n 56 [] (argsA 0 [v0, v1, v2]) H (kR C 56) := by
  unfold pred_Area2.r
  kernel_rfl
noncomputable def pred_Area2.rf (bd : B3) (call : FuncId → List V → Heap → Option R) (n : Nat) (a : List V) (H : Heap) : Option R := pureA a H fun a => (match a with | [v0, v1, v2] => pred_Area2.r bd call n v0 v1 v2 ⟨0, .nil⟩ | a => E C n 56 [] (argsA 0 a) ⟨0, .nil⟩ (kR C 56))
theorem pred_Area2.rf_b (n : Nat) (a : List V) (H : Heap) : (match a with | [v0, v1, v2] => pred_Area2.r @bdI (callA C n) n v0 v1 v2 H | a => E C n 56 [] (argsA 0 a) H (kR C 56)) = E C n 56 [] (argsA 0 a) H (kR C 56) := by
  split
  · exact pred_Area2.r_e n _ _ _ H
  · rfl
theorem pred_Area2.rf_e (n : Nat) (a : List V) (H : Heap) : pred_Area2.rf @bdI (callA C n) n a H = callA C (n + 1) 56 a H := by
  unfold pred_Area2.rf
  refine (congrArg (pureA a H) (funext fun a => pred_Area2.rf_b n a ⟨0, .nil⟩)).trans ?_
  kernel_rfl
noncomputable def unfold_side.r (bd : B3) (call : FuncId → List V → Heap → Option R) (n : Nat) (v0 v1 : V) (H : Heap) : Option R :=
 (bd (boxA ty_api_Tri v0) fun o1 =>
 (bd (arA .add v1 (.int .i64 1)) fun t7_2 =>
 (bd (arA .rem t7_2 (.int .i64 3)) fun t8_3 =>
 (bd (faA 3 (.ptr (some (H.n, 0)))) fun t18_4 =>
 (bd (idxP 3 2 t18_4 t8_3) fun t19_5 =>
 (bd (ldN 2 t19_5 (((H.push o1).push (.cells [(.int .i64 0), (.int .i64 0), (.int .i64 0), (.int .i64 0)] ty_unfold_edge false)).more 0)) fun t20_6 =>
 (bd (faA 3 (.ptr (some (H.n, 0)))) fun t22_7 =>
 (bd (idxP 3 2 t22_7 v1) fun t23_8 =>
 (bd (ldN 2 t23_8 (((H.push o1).push (.cells [(.int .i64 0), (.int .i64 0), (.int .i64 0), (.int .i64 0)] ty_unfold_edge false)).more 0)) fun t24_9 =>
 (bd (call 58 [t20_6, t24_9] (((H.push o1).push (.cells [(.int .i64 0), (.int .i64 0), (.int .i64 0), (.int .i64 0)] ty_unfold_edge false)).more 0)) fun r10 =>
 (bd (faA 0 (.ptr (some (H.n, 0)))) fun t10_11 =>
 (bd (idxP 3 1 t10_11 v1) fun t11_12 =>
 (bd (ld1 t11_12 r10.2) fun t12_13 =>
 (bd (chk (ld1 t11_12 (((H.push o1).push (.cells [(.int .i64 0), (.int .i64 0), (.int .i64 0), (.int .i64 0)] ty_unfold_edge false)).more 0)) t12_13) fun _ =>
 (bd (faA 0 (.ptr (some (H.n, 0)))) fun t14_14 =>
 (bd (idxP 3 1 t14_14 t8_3) fun t15_15 =>
 (bd (ld1 t15_15 r10.2) fun t16_16 =>
 (bd (chk (ld1 t15_15 (((H.push o1).push (.cells [(.int .i64 0), (.int .i64 0), (.int .i64 0), (.int .i64 0)] ty_unfold_edge false)).more 0)) t16_16) fun _ =>
 (bd (flA [(0, 1), (1, 1), (2, 2)] [(.int .i64 0), (.int .i64 0), (.int .i64 0), (.int .i64 0)] [(0, t12_13), (1, t16_16), (2, r10.1)]) fun t26_17 =>
 (bd (stA 4 (.ptr (some ((H.push o1).n, 0))) t26_17 r10.2) fun H18 =>
 (bd (ldN 4 (.ptr (some ((H.push o1).n, 0))) H18) fun t19 =>
 (some (t19, H18)))))))))))))))))))))))
theorem unfold_side.r_e (n : Nat) (v0 v1 : V) (H : Heap) : unfold_side.r @bdI (callA C n) n v0 v1 H = E C n 57 [] (argsA 0 [v0, v1]) H (kR C 57) := by
  unfold unfold_side.r
  kernel_rfl
noncomputable def unfold_side.rf (bd : B3) (call : FuncId → List V → Heap → Option R) (n : Nat) (a : List V) (H : Heap) : Option R := pureA a H fun a => (match a with | [v0, v1] => unfold_side.r bd call n v0 v1 ⟨0, .nil⟩ | a => E C n 57 [] (argsA 0 a) ⟨0, .nil⟩ (kR C 57))
theorem unfold_side.rf_b (n : Nat) (a : List V) (H : Heap) : (match a with | [v0, v1] => unfold_side.r @bdI (callA C n) n v0 v1 H | a => E C n 57 [] (argsA 0 a) H (kR C 57)) = E C n 57 [] (argsA 0 a) H (kR C 57) := by
  split
  · exact unfold_side.r_e n _ _ H
  · rfl
theorem unfold_side.rf_e (n : Nat) (a : List V) (H : Heap) : unfold_side.rf @bdI (callA C n) n a H = callA C (n + 1) 57 a H := by
  unfold unfold_side.rf
  refine (congrArg (pureA a H) (funext fun a => unfold_side.rf_b n a ⟨0, .nil⟩)).trans ?_
  kernel_rfl
noncomputable def lift_Less.r (bd : B3) (call : FuncId → List V → Heap → Option R) (n : Nat) (v0 v1 : V) (H : Heap) : Option R :=
 (bd (boxA ty_api_Off v0) fun o1 =>
 (bd (boxA ty_api_Off v1) fun o2 =>
 (bd (faA 0 (.ptr (some (H.n, 0)))) fun t5_3 =>
 (bd (ld1 t5_3 (((H.push o1).push o2).push (.cells [(.int .i64 0), (.int .i64 0)] ty_api_Off false))) fun t6_4 =>
 (bd (faA 0 (.ptr (some ((H.push o1).n, 0)))) fun t7_5 =>
 (bd (ld1 t7_5 (((H.push o1).push o2).push (.cells [(.int .i64 0), (.int .i64 0)] ty_api_Off false))) fun t8_6 =>
 (bd (arA .sub t6_4 t8_6) fun t9_7 =>
 (bd (faA 1 (.ptr (some (H.n, 0)))) fun t10_8 =>
 (bd (ld1 t10_8 (((H.push o1).push o2).push (.cells [(.int .i64 0), (.int .i64 0)] ty_api_Off false))) fun t11_9 =>
 (bd (faA 1 (.ptr (some ((H.push o1).n, 0)))) fun t12_10 =>
 (bd (ld1 t12_10 (((H.push o1).push o2).push (.cells [(.int .i64 0), (.int .i64 0)] ty_api_Off false))) fun t13_11 =>
 (bd (arA .sub t11_9 t13_11) fun t14_12 =>
 (bd (flA [(0, 1), (1, 1)] [(.int .i64 0), (.int .i64 0)] [(0, t9_7), (1, t14_12)]) fun t15_13 =>
 (bd (stA 2 (.ptr (some (((H.push o1).push o2).n, 0))) t15_13 (((H.push o1).push o2).push (.cells [(.int .i64 0), (.int .i64 0)] ty_api_Off false))) fun H14 =>
 (bd (ldN 2 (.ptr (some (((H.push o1).push o2).n, 0))) H14) fun t15 =>
 (some (t15, H14)))))))))))))))))
theorem lift_Less.r_e (n : Nat) (v0 v1 : V) (H : Heap) : lift_Less.r @bdI (callA C n) n v0 v1 H = E C n 58 [] (argsA 0 [v0, v1]) H (kR C 58) := by
  unfold lift_Less.r
  kernel_rfl
noncomputable def lift_Less.rf (bd : B3) (call : FuncId → List V → Heap → Option R) (n : Nat) (a : List V) (H : Heap) : Option R := pureA a H fun a => (match a with | [v0, v1] => lift_Less.r bd call n v0 v1 ⟨0, .nil⟩ | a => E C n 58 [] (argsA 0 a) ⟨0, .nil⟩ (kR C 58))
theorem lift_Less.rf_b (n : Nat) (a : List V) (H : Heap) : (match a with | [v0, v1] => lift_Less.r @bdI (callA C n) n v0 v1 H | a => E C n 58 [] (argsA 0 a) H (kR C 58)) = E C n 58 [] (argsA 0 a) H (kR C 58) := by
  split
  · exact lift_Less.r_e n _ _ H
  · rfl
theorem lift_Less.rf_e (n : Nat) (a : List V) (H : Heap) : lift_Less.rf @bdI (callA C n) n a H = callA C (n + 1) 58 a H := by
  unfold lift_Less.rf
  refine (congrArg (pureA a H) (funext fun a => lift_Less.rf_b n a ⟨0, .nil⟩)).trans ?_
  kernel_rfl
noncomputable def math_bits_Mul64.r (bd : B3) (call : FuncId → List V → Heap → Option R) (n : Nat) (v0 v1 : V) (H : Heap) : Option R :=
 (bd (arA .and v0 (.int .u64 4294967295)) fun t15_1 =>
 (bd (shA .shr v0 (.int .u64 32)) fun t17_2 =>
 (bd (arA .and v1 (.int .u64 4294967295)) fun t19_3 =>
 (bd (shA .shr v1 (.int .u64 32)) fun t21_4 =>
 (bd (arA .mul t15_1 t19_3) fun t24_5 =>
 (bd (arA .mul t17_2 t19_3) fun t27_6 =>
 (bd (shA .shr t24_5 (.int .u64 32)) fun t29_7 =>
 (bd (arA .add t27_6 t29_7) fun t30_8 =>
 (bd (arA .and t30_8 (.int .u64 4294967295)) fun t32_9 =>
 (bd (shA .shr t30_8 (.int .u64 32)) fun t34_10 =>
 (bd (arA .mul t15_1 t21_4) fun t38_11 =>
 (bd (arA .add t32_9 t38_11) fun t39_12 =>
 (bd (arA .mul t17_2 t21_4) fun t42_13 =>
 (bd (arA .add t42_13 t34_10) fun t44_14 =>
 (bd (shA .shr t39_12 (.int .u64 32)) fun t46_15 =>
 (bd (arA .add t44_14 t46_15) fun t47_16 =>
 (bd (arA .mul v0 v1) fun t50_17 =>
 (some (.tuple [t47_16, t50_17], H)))))))))))))))))))
theorem math_bits_Mul64.r_e (n : Nat) (v0 v1 : V) (H : Heap) : math_bits_Mul64.r @bdI (callA C n) n v0 v1 H = E C n 59 [] (argsA 0 [v0, v1]) H (kR C 59) := by
  unfold math_bits_Mul64.r
  kernel_rfl
noncomputable def math_bits_Mul64.rf (bd : B3) (call : FuncId → List V → Heap → Option R) (n : Nat) (a : List V) (H : Heap) : Option R := (match a with | [v0, v1] => math_bits_Mul64.r bd call n v0 v1 H | a => E C n 59 [] (argsA 0 a) H (kR C 59))
theorem math_bits_Mul64.rf_b (n : Nat) (a : List V) (H : Heap) : (match a with | [v0, v1] => math_bits_Mul64.r @bdI (callA C n) n v0 v1 H | a => E C n 59 [] (argsA 0 a) H (kR C 59)) = E C n 59 [] (argsA 0 a) H (kR C 59) := by
  split
  · exact math_bits_Mul64.r_e n _ _ H
  · rfl
theorem math_bits_Mul64.rf_e (n : Nat) (a : List V) (H : Heap) : math_bits_Mul64.rf @bdI (callA C n) n a H = callA C (n + 1) 59 a H := by
  unfold math_bits_Mul64.rf
  refine (math_bits_Mul64.rf_b n a H).trans ?_
  kernel_rfl
noncomputable def lift_Sum.r (bd : B3) (call : FuncId → List V → Heap → Option R) (n : Nat) (v0 v1 : V) (H : Heap) : Option R :=
 (bd (boxA ty_api_Off v0) fun o1 =>
 (bd (boxA ty_api_Off v1) fun o2 =>
 (bd (faA 0 (.ptr (some (H.n, 0)))) fun t5_3 =>
 (bd (ld1 t5_3 (((H.push o1).push o2).push (.cells [(.int .i64 0), (.int .i64 0)] ty_api_Off false))) fun t6_4 =>
 (bd (faA 0 (.ptr (some ((H.push o1).n, 0)))) fun t7_5 =>
 (bd (ld1 t7_5 (((H.push o1).push o2).push (.cells [(.int .i64 0), (.int .i64 0)] ty_api_Off false))) fun t8_6 =>
 (bd (arA .add t6_4 t8_6) fun t9_7 =>
 (bd (faA 1 (.ptr (some (H.n, 0)))) fun t10_8 =>
 (bd (ld1 t10_8 (((H.push o1).push o2).push (.cells [(.int .i64 0), (.int .i64 0)] ty_api_Off false))) fun t11_9 =>
 (bd (faA 1 (.ptr (some ((H.push o1).n, 0)))) fun t12_10 =>
 (bd (ld1 t12_10 (((H.push o1).push o2).push (.cells [(.int .i64 0), (.int .i64 0)] ty_api_Off false))) fun t13_11 =>
 (bd (arA .add t11_9 t13_11) fun t14_12 =>
 (bd (flA [(0, 1), (1, 1)] [(.int .i64 0), (.int .i64 0)] [(0, t9_7), (1, t14_12)]) fun t15_13 =>
 (bd (stA 2 (.ptr (some (((H.push o1).push o2).n, 0))) t15_13 (((H.push o1).push o2).push (.cells [(.int .i64 0), (.int .i64 0)] ty_api_Off false))) fun H14 =>
 (bd (ldN 2 (.ptr (some (((H.push o1).push o2).n, 0))) H14) fun t15 =>
 (some (t15, H14)))))))))))))))))
theorem lift_Sum.r_e (n : Nat) (v0 v1 : V) (H : Heap) : lift_Sum.r @bdI (callA C n) n v0 v1 H = E C n 60 [] (argsA 0 [v0, v1]) H (kR C 60) := by
  unfold lift_Sum.r
  kernel_rfl
noncomputable def lift_Sum.rf (bd : B3) (call : FuncId → List V → Heap → Option R) (n : Nat) (a : List V) (H : Heap) : Option R := pureA a H fun a => (match a with | [v0, v1] => lift_Sum.r bd call n v0 v1 ⟨0, .nil⟩ | a => E C n 60 [] (argsA 0 a) ⟨0, .nil⟩ (kR C 60))
theorem lift_Sum.rf_b (n : Nat) (a : List V) (H : Heap) : (match a with | [v0, v1] => lift_Sum.r @bdI (callA C n) n v0 v1 H | a => E C n 60 [] (argsA 0 a) H (kR C 60)) = E C n 60 [] (argsA 0 a) H (kR C 60) := by
  split
  · exact lift_Sum.r_e n _ _ H
  · rfl
theorem lift_Sum.rf_e (n : Nat) (a : List V) (H : Heap) : lift_Sum.rf @bdI (callA C n) n a H = callA C (n + 1) 60 a H := by
  unfold lift_Sum.rf
  refine (congrArg (pureA a H) (funext fun a => lift_Sum.rf_b n a ⟨0, .nil⟩)).trans ?_
  kernel_rfl
noncomputable def tie_Conflict.r (bd : B3) (call : FuncId → List V → Heap → Option R) (n : Nat) (v0 v1 v2 v3 : V) (H : Heap) : Option R :=
 (bd (boxA ty_api_Point v0) fun o1 =>
 (bd (boxA ty_api_Point v1) fun o2 =>
 (bd (boxA ty_api_Point v2) fun o3 =>
 (bd (boxA ty_api_Point v3) fun o4 =>
 (bd (ldN 2 (.ptr (some ((((H.push o1).push o2).push o3).n, 0))) ((((H.push o1).push o2).push o3).push o4)) fun t9_5 =>
 (bd (call 93 [t9_5] ((((H.push o1).push o2).push o3).push o4)) fun r6 =>
 (bd (asB r6.1) fun b7 =>
 if b7 = true then
 (bd (ldN 2 (.ptr (some (H.n, 0))) r6.2) fun t12_8 =>
 (bd (ldN 2 (.ptr (some ((H.push o1).n, 0))) r6.2) fun t13_9 =>
 (bd (ldN 2 (.ptr (some (((H.push o1).push o2).n, 0))) r6.2) fun t14_10 =>
 (bd (ldN 2 (.ptr (some ((((H.push o1).push o2).push o3).n, 0))) r6.2) fun t15_11 =>
 (bd (call 94 [t12_8, t13_9, t14_10, t15_11] r6.2) fun r12 =>
 (some (r12.1, r12.2)))))))
 else
 (some ((.bool false), r6.2)))))))))
theorem tie_Conflict.r_e (n : Nat) (v0 v1 v2 v3 : V) (H : Heap) : tie_Conflict.r @bdI (callA C n) n v0 v1 v2 v3 H = E C n 61 [] (argsA 0 [v0, v1, v2, v3]) H (kR C 61) := by
  unfold tie_Conflict.r
  kernel_rfl
noncomputable def tie_Conflict.rf (bd : B3) (call : FuncId → List V → Heap → Option R) (n : Nat) (a : List V) (H : Heap) : Option R := pureA a H fun a => (match a with | [v0, v1, v2, v3] => tie_Conflict.r bd call n v0 v1 v2 v3 ⟨0, .nil⟩ | a => E C n 61 [] (argsA 0 a) ⟨0, .nil⟩ (kR C 61))
theorem tie_Conflict.rf_b (n : Nat) (a : List V) (H : Heap) : (match a with | [v0, v1, v2, v3] => tie_Conflict.r @bdI (callA C n) n v0 v1 v2 v3 H | a => E C n 61 [] (argsA 0 a) H (kR C 61)) = E C n 61 [] (argsA 0 a) H (kR C 61) := by
  split
  · exact tie_Conflict.r_e n _ _ _ _ H
  · rfl
theorem tie_Conflict.rf_e (n : Nat) (a : List V) (H : Heap) : tie_Conflict.rf @bdI (callA C n) n a H = callA C (n + 1) 61 a H := by
  unfold tie_Conflict.rf
  refine (congrArg (pureA a H) (funext fun a => tie_Conflict.rf_b n a ⟨0, .nil⟩)).trans ?_
  kernel_rfl
@[irreducible] noncomputable def pdt_lay.l0 (n m0 : Nat) (v5 v6 v23 v24 v25 : V) (H : Heap) : Option R := Lp C n 63 [1, 1, 1, 0, 1, 0, 0] m0 [(5, v5), (6, v6), (23, v23), (24, v24), (25, v25)] H (kB 0 (kC C n 63 [1, 1, 1, 1] (kR C 63)))
@[irreducible] noncomputable def pdt_lay.p1 (n : Nat) (v5 v6 : V) (H : Heap) : Option R := E C n 63 [1, 1, 1, 1] [(5, v5), (6, v6)] H (kR C 63)
@[irreducible] noncomputable def pdt_lay.l2 (n m0 : Nat) (v5 v57 v58 v59 : V) (H : Heap) : Option R := Lp C n 63 [1, 1, 1, 1, 0, 1, 0, 0] m0 [(5, v5), (57, v57), (58, v58), (59, v59)] H (kB 2 (kC C n 63 [1, 1, 1, 1, 1] (kR C 63)))
noncomputable def pdt_lay.r_l2 (bd : B3) (call : FuncId → List V → Heap → Option R) (n : Nat) (s0 : V → V → V → V → Heap → Option R) (v5 v57 v58 v59 : V) (H : Heap) : Option R :=
 (bd (arA .lss v59 v58) fun t60_1 =>
 (bd (asB t60_1) fun b2 =>
 if b2 = true then
 (bd (idxS 10 v57 v59) fun t61_3 =>
 (bd (ldN 10 t61_3 H) fun t62_4 =>
 (bd (stA 10 (.ptr (some (H.n, 0))) t62_4 (H.push (.cells [(.int .i64 0), (.int .i64 0), (.int .i64 0), (.int .i64 0), (.int .i64 0), (.int .i64 0), (.int .i64 0), (.int .i64 0), (.int .i64 0), (.int .i64 0)] ty_api_Cell false))) fun H5 =>
 (bd (faA 0 (.ptr (some (H.n, 0)))) fun t64_6 =>
 (bd (ld1 t64_6 H5) fun t65_7 =>
 (bd (bSl 1 ty_int [(.int .i64 0)] 1 [(0, t65_7)]) fun o8 =>
 (bd (call 106 [v5, (.slice ⟨some (H5.n, 0), 1, 1, false⟩)] (H5.push o8)) fun r9 =>
 (bd (arA .add v59 (.int .i64 1)) fun t68_10 =>
 (s0 v5 v57 v58 t68_10 r9.2)))))))))
 else
 (some (v5, H))))
theorem pdt_lay.r_l2_e (n m0 : Nat) : pdt_lay.r_l2 @bdI (callA C n) n (pdt_lay.l2 n m0) = pdt_lay.l2 n (m0 + 1) := by
  funext v5 v57 v58 v59 H
  unfold pdt_lay.r_l2
  kernel_rfl
noncomputable def pdt_lay.r_l2_lp (bd : B3) (call : FuncId → List V → Heap → Option R) (n : Nat) (m : Nat) : V → V → V → V → Heap → Option R := Nat.rec (motive := fun _ => V → V → V → V → Heap → Option R) (fun _ _ _ _ _ => none) (fun _ self => pdt_lay.r_l2 bd call n self) m
theorem pdt_lay.r_l2_lp_e (n : Nat) : pdt_lay.r_l2_lp @bdI (callA C n) n = pdt_lay.l2 n := by
  funext m
  induction m with
  | zero => funext v5 v57 v58 v59 H; kernel_rfl
  | succ k ih => exact (congrArg (pdt_lay.r_l2 @bdI (callA C n) n) ih).trans (pdt_lay.r_l2_e n k)
noncomputable def pdt_lay.r_p1 (bd : B3) (call : FuncId → List V → Heap → Option R) (n : Nat) (v5 v6 : V) (H : Heap) : Option R :=
 (bd (faA 2 v6) fun t56_1 =>
 (bd (ld1 t56_1 H) fun t57_2 =>
 (bd (lenSl t57_2) fun t58_3 =>
 (pdt_lay.r_l2_lp bd call n n v5 t57_2 t58_3 (.int .i64 0) H))))
theorem pdt_lay.r_p1_e (n : Nat) : pdt_lay.r_p1 @bdI (callA C n) n = pdt_lay.p1 n := by
  funext v5 v6 H
  unfold pdt_lay.r_p1
  rewrite [pdt_lay.r_l2_lp_e]
  kernel_rfl
noncomputable def pdt_lay.r_l0 (bd : B3) (call : FuncId → List V → Heap → Option R) (n : Nat) (s0 : V → V → V → V → V → Heap → Option R) (v5 v6 v23 v24 v25 : V) (H : Heap) : Option R :=
 (bd (arA .lss v25 v24) fun t26_1 =>
 (bd (asB t26_1) fun b2 =>
 if b2 = true then
 (bd (idxS 4 v23 v25) fun t27_3 =>
 (bd (ldN 4 t27_3 H) fun t28_4 =>
 (bd (stA 4 (.ptr (some (H.n, 0))) t28_4 (H.push (.cells [(.int .i64 0), (.int .i64 0), (.int .i64 0), (.int .i64 0)] ty_api_Vert false))) fun H5 =>
 (bd (nilC v5) fun t30_6 =>
 (bd (faA 1 t30_6) fun t31_7 =>
 (bd (ld1 t31_7 (H5.more 0)) fun t32_8 =>
 (bd (faA 0 (.ptr (some (H.n, 0)))) fun t33_9 =>
 (bd (ld1 t33_9 (H5.more 0)) fun t34_10 =>
 (bd (faA 1 (.ptr (some (H.n, 0)))) fun t35_11 =>
 (bd (ldN 2 t35_11 (H5.more 0)) fun t36_12 =>
 (bd (call 105 [t32_8, t34_10, t36_12] (H5.more 0)) fun r13 =>
 (bd (nilC v5) fun t45_14 =>
 (bd (faA 4 t45_14) fun t46_15 =>
 (bd (ld1 t46_15 (r13.2.more 1)) fun t47_16 =>
 (bd (faA 3 (.ptr (some (H.n, 0)))) fun t48_17 =>
 (bd (ld1 t48_17 (r13.2.more 1)) fun t49_18 =>
 (bd (lookM P ty_int (.slice ⟨none, 0, 0, false⟩) t47_16 t49_18 false (r13.2.more 1)) fun t50_19 =>
 (bd (faA 0 (.ptr (some (H.n, 0)))) fun t51_20 =>
 (bd (ld1 t51_20 (r13.2.more 1)) fun t52_21 =>
 (bd (bSl 1 ty_int [(.int .i64 0)] 1 [(0, t52_21)]) fun o22 =>
 (bd (appA 1 8 ty_int t50_19 (.slice ⟨some ((r13.2.n + 0), 0), 1, 1, false⟩) ((r13.2.more 1).set (r13.2.n + 0) o22)) fun p23 =>
 (bd (nilC v5) fun t39_24 =>
 (bd (faA 4 t39_24) fun t40_25 =>
 (bd (ld1 t40_25 p23.2) fun t41_26 =>
 (bd (chk (ld1 t40_25 (r13.2.more 1)) t41_26) fun _ =>
 (bd (faA 3 (.ptr (some (H.n, 0)))) fun t42_27 =>
 (bd (ld1 t42_27 p23.2) fun t43_28 =>
 (bd (chk (ld1 t42_27 (r13.2.more 1)) t43_28) fun _ =>
 (bd (updM P ty_int t41_26 t43_28 p23.1 p23.2) fun H29 =>
 (bd (arA .add v25 (.int .i64 1)) fun t55_30 =>
 (s0 v5 v6 v23 v24 t55_30 H29)))))))))))))))))))))))))))))))
 else
 (pdt_lay.r_p1 bd call n v5 v6 H)))
theorem pdt_lay.r_l0_e (n m0 : Nat) : pdt_lay.r_l0 @bdI (callA C n) n (pdt_lay.l0 n m0) = pdt_lay.l0 n (m0 + 1) := by
  funext v5 v6 v23 v24 v25 H
  unfold pdt_lay.r_l0
  rewrite [pdt_lay.r_p1_e]
  kernel_rfl
noncomputable def pdt_lay.r_l0_lp (bd : B3) (call : FuncId → List V → Heap → Option R) (n : Nat) (m : Nat) : V → V → V → V → V → Heap → Option R := Nat.rec (motive := fun _ => V → V → V → V → V → Heap → Option R) (fun _ _ _ _ _ _ => none) (fun _ self => pdt_lay.r_l0 bd call n self) m
theorem pdt_lay.r_l0_lp_e (n : Nat) : pdt_lay.r_l0_lp @bdI (callA C n) n = pdt_lay.l0 n := by
  funext m
  induction m with
  | zero => funext v5 v6 v23 v24 v25 H; kernel_rfl
  | succ k ih => exact (congrArg (pdt_lay.r_l0 @bdI (callA C n) n) ih).trans (pdt_lay.r_l0_e n k)
noncomputable def pdt_lay.r (bd : B3) (call : FuncId → List V → Heap → Option R) (n : Nat) (v0 v1 : V) (H : Heap) : Option R :=
 (bd (call 104 [v0] H) fun r1 =>
 (bd (call 103 [r1.1, (.int .i64 16)] r1.2) fun r2 =>
 (bd (flA [(0, 1), (1, 1), (2, 1), (3, 1), (4, 1)] [(.ptr none), (.ptr none), (.int .i64 0), (.map none), (.map none)] [(0, v0), (1, r2.1), (2, v1), (3, (.map (some r2.2.n))), (4, (.map (some (r2.2.push (.map [] 0)).n)))]) fun t18_3 =>
 (bd (boxA ty_pdt_sheet t18_3) fun o4 =>
 (bd (call 26 [v0] (((r2.2.push (.map [] 0)).push (.map [] 0)).push o4)) fun r5 =>
 (bd (stA 3 (.ptr (some (r5.2.n, 0))) r5.1 (r5.2.push (.cells [(.int .i64 0), (.slice ⟨none, 0, 0, false⟩), (.slice ⟨none, 0, 0, false⟩)] ty_api_Dump false))) fun H6 =>
 (bd (faA 1 (.ptr (some (r5.2.n, 0)))) fun t22_7 =>
 (bd (ld1 t22_7 H6) fun t23_8 =>
 (bd (lenSl t23_8) fun t24_9 =>
 (pdt_lay.r_l0_lp bd call n n (.ptr (some (((r2.2.push (.map [] 0)).push (.map [] 0)).n, 0))) (.ptr (some (r5.2.n, 0))) t23_8 t24_9 (.int .i64 0) H6))))))))))
theorem pdt_lay.r_e (n : Nat) (v0 v1 : V) (H : Heap) : pdt_lay.r @bdI (callA C n) n v0 v1 H = E C n 63 [] (argsA 0 [v0, v1]) H (kR C 63) := by
  unfold pdt_lay.r
  rewrite [pdt_lay.r_l0_lp_e]
  kernel_rfl
noncomputable def pdt_lay.rf (bd : B3) (call : FuncId → List V → Heap → Option R) (n : Nat) (a : List V) (H : Heap) : Option R := (match a with | [v0, v1] => pdt_lay.r bd call n v0 v1 H | a => E C n 63 [] (argsA 0 a) H (kR C 63))
theorem pdt_lay.rf_b (n : Nat) (a : List V) (H : Heap) : (match a with | [v0, v1] => pdt_lay.r @bdI (callA C n) n v0 v1 H | a => E C n 63 [] (argsA 0 a) H (kR C 63)) = E C n 63 [] (argsA 0 a) H (kR C 63) := by
  split
  · exact pdt_lay.r_e n _ _ H
  · rfl
theorem pdt_lay.rf_e (n : Nat) (a : List V) (H : Heap) : pdt_lay.rf @bdI (callA C n) n a H = callA C (n + 1) 63 a H := by
  unfold pdt_lay.rf
  refine (pdt_lay.rf_b n a H).trans ?_
  kernel_rfl
noncomputable def mesh_New.r (bd : B3) (call : FuncId → List V → Heap → Option R) (n : Nat) (v0 : V) (H : Heap) : Option R :=
 (bd (arA .lss v0 (.int .i64 1)) fun t4_1 =>
 (bd (asB t4_1) fun b2 =>
 if b2 = true then
 (some ((.ptr none), H))
 else
 (bd (arA .gtr v0 (.int .i64 17179869184)) fun t7_3 =>
 (bd (asB t7_3) fun b4 =>
 if b4 = true then
 (some ((.ptr none), H))
 else
 (bd (call 107 [] H) fun r5 =>
 (bd (call 107 [] r5.2) fun r6 =>
 (bd (flA [(0, 1), (1, 1), (2, 1), (3, 1), (4, 1), (5, 1), (6, 1)] [(.int .i64 0), (.ptr none), (.ptr none), (.slice ⟨none, 0, 0, false⟩), (.slice ⟨none, 0, 0, false⟩), (.map none), (.map none)] [(0, v0), (1, r5.1), (2, r6.1), (5, (.map (some r6.2.n))), (6, (.map (some (r6.2.push (.map [] 0)).n)))]) fun t14_7 =>
 (bd (boxA ty_mesh_Mesh t14_7) fun o8 =>
 (some ((.ptr (some (((r6.2.push (.map [] 0)).push (.map [] 0)).n, 0))), (((r6.2.push (.map [] 0)).push (.map [] 0)).push o8)))))))))))
theorem mesh_New.r_e (n : Nat) (v0 : V) (H : Heap) : mesh_New.r @bdI (callA C n) n v0 H = E C n 64 [] (argsA 0 [v0]) H (kR C 64) := by
  unfold mesh_New.r
  kernel_rfl
noncomputable def mesh_New.rf (bd : B3) (call : FuncId → List V → Heap → Option R) (n : Nat) (a : List V) (H : Heap) : Option R := (match a with | [v0] => mesh_New.r bd call n v0 H | a => E C n 64 [] (argsA 0 a) H (kR C 64))
theorem mesh_New.rf_b (n : Nat) (a : List V) (H : Heap) : (match a with | [v0] => mesh_New.r @bdI (callA C n) n v0 H | a => E C n 64 [] (argsA 0 a) H (kR C 64)) = E C n 64 [] (argsA 0 a) H (kR C 64) := by
  split
  · exact mesh_New.r_e n _ H
  · rfl
theorem mesh_New.rf_e (n : Nat) (a : List V) (H : Heap) : mesh_New.rf @bdI (callA C n) n a H = callA C (n + 1) 64 a H := by
  unfold mesh_New.rf
  refine (mesh_New.rf_b n a H).trans ?_
  kernel_rfl
@[irreducible] noncomputable def ref17_Engine_At.l0 (n m0 : Nat) (v0 v1 v5 : V) (H : Heap) : Option R := Lp C n 66 [1, 0, 1, 0, 0] m0 [(0, v0), (1, v1), (5, v5)] H (kB 0 (kC C n 66 [1, 1] (kR C 66)))
noncomputable def ref17_Engine_At.r_l0 (bd : B3) (call : FuncId → List V → Heap → Option R) (n : Nat) (s0 : V → V → V → Heap → Option R) (v0 v1 v5 : V) (H : Heap) : Option R :=
 (bd (nilC v0) fun t8_1 =>
 (bd (faA 2 t8_1) fun t9_2 =>
 (bd (ld1 t9_2 H) fun t10_3 =>
 (bd (lenSl t10_3) fun t11_4 =>
 (bd (arA .lss v5 t11_4) fun t12_5 =>
 (bd (asB t12_5) fun b6 =>
 if b6 = true then
 (bd (nilC v0) fun t16_7 =>
 (bd (faA 2 t16_7) fun t17_8 =>
 (bd (ld1 t17_8 H) fun t18_9 =>
 (bd (idxS 3 t18_9 v5) fun t20_10 =>
 (bd (faA 0 t20_10) fun t21_11 =>
 (bd (ld1 t21_11 H) fun t22_12 =>
 (bd (arA .eql t22_12 v1) fun t24_13 =>
 (bd (asB t24_13) fun b14 =>
 if b14 = true then
 (some (v5, H))
 else
 (bd (arA .add v5 (.int .i64 1)) fun t14_15 =>
 (s0 v0 v1 t14_15 H))))))))))
 else
 (some ((.int .i64 (-1)), H))))))))
theorem ref17_Engine_At.r_l0_e (n m0 : Nat) : ref17_Engine_At.r_l0 @bdI (callA C n) n (ref17_Engine_At.l0 n m0) = ref17_Engine_At.l0 n (m0 + 1) := by
  funext v0 v1 v5 H
  unfold ref17_Engine_At.r_l0
  kernel_rfl
noncomputable def ref17_Engine_At.r_l0_lp (bd : B3) (call : FuncId → List V → Heap → Option R) (n : Nat) (m : Nat) : V → V → V → Heap → Option R := Nat.rec (motive := fun _ => V → V → V → Heap → Option R) (fun _ _ _ _ => none) (fun _ self => ref17_Engine_At.r_l0 bd call n self) m
theorem ref17_Engine_At.r_l0_lp_e (n : Nat) : ref17_Engine_At.r_l0_lp @bdI (callA C n) n = ref17_Engine_At.l0 n := by
  funext m
  induction m with
  | zero => funext v0 v1 v5 H; kernel_rfl
  | succ k ih => exact (congrArg (ref17_Engine_At.r_l0 @bdI (callA C n) n) ih).trans (ref17_Engine_At.r_l0_e n k)
noncomputable def ref17_Engine_At.r (bd : B3) (call : FuncId → List V → Heap → Option R) (n : Nat) (v0 v1 : V) (H : Heap) : Option R :=
 (ref17_Engine_At.r_l0_lp bd call n n v0 v1 (.int .i64 0) H)
theorem ref17_Engine_At.r_e (n : Nat) (v0 v1 : V) (H : Heap) : ref17_Engine_At.r @bdI (callA C n) n v0 v1 H = E C n 66 [] (argsA 0 [v0, v1]) H (kR C 66) := by
  unfold ref17_Engine_At.r
  rewrite [ref17_Engine_At.r_l0_lp_e]
  kernel_rfl
noncomputable def ref17_Engine_At.rf (bd : B3) (call : FuncId → List V → Heap → Option R) (n : Nat) (a : List V) (H : Heap) : Option R := (match a with | [v0, v1] => ref17_Engine_At.r bd call n v0 v1 H | a => E C n 66 [] (argsA 0 a) H (kR C 66))
theorem ref17_Engine_At.rf_b (n : Nat) (a : List V) (H : Heap) : (match a with | [v0, v1] => ref17_Engine_At.r @bdI (callA C n) n v0 v1 H | a => E C n 66 [] (argsA 0 a) H (kR C 66)) = E C n 66 [] (argsA 0 a) H (kR C 66) := by
  split
  · exact ref17_Engine_At.r_e n _ _ H
  · rfl
theorem ref17_Engine_At.rf_e (n : Nat) (a : List V) (H : Heap) : ref17_Engine_At.rf @bdI (callA C n) n a H = callA C (n + 1) 66 a H := by
  unfold ref17_Engine_At.rf
  refine (ref17_Engine_At.rf_b n a H).trans ?_
  kernel_rfl
noncomputable def pdt_Engine_site.r (bd : B3) (call : FuncId → List V → Heap → Option R) (n : Nat) (v0 v1 : V) (H : Heap) : Option R :=
 (bd (boxA ty_api_Point v1) fun o1 =>
 (bd (faA 0 (.ptr (some (H.n, 0)))) fun t5_2 =>
 (bd (ld1 t5_2 ((H.push o1).more 0)) fun t6_3 =>
 (bd (arA .geq t6_3 (.int .i64 0)) fun t7_4 =>
 (bd (asB t7_4) fun b5 =>
 if b5 = true then
 (bd (faA 0 (.ptr (some (H.n, 0)))) fun t9_6 =>
 (bd (ld1 t9_6 ((H.push o1).more 0)) fun t10_7 =>
 (bd (nilC v0) fun t12_8 =>
 (bd (faA 0 t12_8) fun t13_9 =>
 (bd (ld1 t13_9 ((H.push o1).more 0)) fun t14_10 =>
 (bd (arA .lss t10_7 t14_10) fun t15_11 =>
 (bd (asB t15_11) fun b12 =>
 if b12 = true then
 (bd (faA 1 (.ptr (some (H.n, 0)))) fun t18_13 =>
 (bd (ld1 t18_13 ((H.push o1).more 0)) fun t19_14 =>
 (bd (arA .geq t19_14 (.int .i64 0)) fun t20_15 =>
 (bd (asB t20_15) fun b16 =>
 if b16 = true then
 (bd (faA 1 (.ptr (some (H.n, 0)))) fun t23_17 =>
 (bd (ld1 t23_17 ((H.push o1).more 0)) fun t24_18 =>
 (bd (nilC v0) fun t26_19 =>
 (bd (faA 0 t26_19) fun t27_20 =>
 (bd (ld1 t27_20 ((H.push o1).more 0)) fun t28_21 =>
 (bd (arA .lss t24_18 t28_21) fun t29_22 =>
 (some (t29_22, ((H.push o1).more 0)))))))))
 else
 (some ((.bool false), ((H.push o1).more 0)))))))
 else
 (some ((.bool false), ((H.push o1).more 0))))))))))
 else
 (some ((.bool false), ((H.push o1).more 0))))))))
theorem pdt_Engine_site.r_e (n : Nat) (v0 v1 : V) (H : Heap) : pdt_Engine_site.r @bdI (callA C n) n v0 v1 H = E C n 67 [] (argsA 0 [v0, v1]) H (kR C 67) := by
  unfold pdt_Engine_site.r
  kernel_rfl
noncomputable def pdt_Engine_site.rf (bd : B3) (call : FuncId → List V → Heap → Option R) (n : Nat) (a : List V) (H : Heap) : Option R := (match a with | [v0, v1] => pdt_Engine_site.r bd call n v0 v1 H | a => E C n 67 [] (argsA 0 a) H (kR C 67))
theorem pdt_Engine_site.rf_b (n : Nat) (a : List V) (H : Heap) : (match a with | [v0, v1] => pdt_Engine_site.r @bdI (callA C n) n v0 v1 H | a => E C n 67 [] (argsA 0 a) H (kR C 67)) = E C n 67 [] (argsA 0 a) H (kR C 67) := by
  split
  · exact pdt_Engine_site.r_e n _ _ H
  · rfl
theorem pdt_Engine_site.rf_e (n : Nat) (a : List V) (H : Heap) : pdt_Engine_site.rf @bdI (callA C n) n a H = callA C (n + 1) 67 a H := by
  unfold pdt_Engine_site.rf
  refine (pdt_Engine_site.rf_b n a H).trans ?_
  kernel_rfl
noncomputable def ref17_Engine_Site.r (bd : B3) (call : FuncId → List V → Heap → Option R) (n : Nat) (v0 v1 : V) (H : Heap) : Option R :=
 (bd (boxA ty_api_Point v1) fun o1 =>
 (bd (faA 0 (.ptr (some (H.n, 0)))) fun t5_2 =>
 (bd (ld1 t5_2 ((H.push o1).more 0)) fun t6_3 =>
 (bd (arA .geq t6_3 (.int .i64 0)) fun t7_4 =>
 (bd (asB t7_4) fun b5 =>
 if b5 = true then
 (bd (faA 0 (.ptr (some (H.n, 0)))) fun t9_6 =>
 (bd (ld1 t9_6 ((H.push o1).more 0)) fun t10_7 =>
 (bd (nilC v0) fun t12_8 =>
 (bd (faA 0 t12_8) fun t13_9 =>
 (bd (ld1 t13_9 ((H.push o1).more 0)) fun t14_10 =>
 (bd (arA .lss t10_7 t14_10) fun t15_11 =>
 (bd (asB t15_11) fun b12 =>
 if b12 = true then
 (bd (faA 1 (.ptr (some (H.n, 0)))) fun t18_13 =>
 (bd (ld1 t18_13 ((H.push o1).more 0)) fun t19_14 =>
 (bd (arA .geq t19_14 (.int .i64 0)) fun t20_15 =>
 (bd (asB t20_15) fun b16 =>
 if b16 = true then
 (bd (faA 1 (.ptr (some (H.n, 0)))) fun t23_17 =>
 (bd (ld1 t23_17 ((H.push o1).more 0)) fun t24_18 =>
 (bd (nilC v0) fun t26_19 =>
 (bd (faA 0 t26_19) fun t27_20 =>
 (bd (ld1 t27_20 ((H.push o1).more 0)) fun t28_21 =>
 (bd (arA .lss t24_18 t28_21) fun t29_22 =>
 (some (t29_22, ((H.push o1).more 0)))))))))
 else
 (some ((.bool false), ((H.push o1).more 0)))))))
 else
 (some ((.bool false), ((H.push o1).more 0))))))))))
 else
 (some ((.bool false), ((H.push o1).more 0))))))))
theorem ref17_Engine_Site.r_e (n : Nat) (v0 v1 : V) (H : Heap) : ref17_Engine_Site.r @bdI (callA C n) n v0 v1 H = E C n 69 [] (argsA 0 [v0, v1]) H (kR C 69) := by
  unfold ref17_Engine_Site.r
  kernel_rfl
noncomputable def ref17_Engine_Site.rf (bd : B3) (call : FuncId → List V → Heap → Option R) (n : Nat) (a : List V) (H : Heap) : Option R := (match a with | [v0, v1] => ref17_Engine_Site.r bd call n v0 v1 H | a => E C n 69 [] (argsA 0 a) H (kR C 69))
theorem ref17_Engine_Site.rf_b (n : Nat) (a : List V) (H : Heap) : (match a with | [v0, v1] => ref17_Engine_Site.r @bdI (callA C n) n v0 v1 H | a => E C n 69 [] (argsA 0 a) H (kR C 69)) = E C n 69 [] (argsA 0 a) H (kR C 69) := by
  split
  · exact ref17_Engine_Site.r_e n _ _ H
  · rfl
theorem ref17_Engine_Site.rf_e (n : Nat) (a : List V) (H : Heap) : ref17_Engine_Site.rf @bdI (callA C n) n a H = callA C (n + 1) 69 a H := by
  unfold ref17_Engine_Site.rf
  refine (ref17_Engine_Site.rf_b n a H).trans ?_
  kernel_rfl
@[irreducible] noncomputable def ref17_Engine_On.l0 (n m0 : Nat) (v0 v3 v5 : V) (H : Heap) : Option R := Lp C n 70 [1, 0, 1, 0, 0] m0 [(0, v0), (3, v3), (5, v5)] H (kB 0 (kC C n 70 [1, 1] (kR C 70)))
noncomputable def ref17_Engine_On.r_l0 (bd : B3) (call : FuncId → List V → Heap → Option R) (n : Nat) (s0 : V → V → V → Heap → Option R) (v0 v3 v5 : V) (H : Heap) : Option R :=
 (bd (nilC v0) fun t8_1 =>
 (bd (faA 2 t8_1) fun t9_2 =>
 (bd (ld1 t9_2 H) fun t10_3 =>
 (bd (lenSl t10_3) fun t11_4 =>
 (bd (arA .lss v5 t11_4) fun t12_5 =>
 (bd (asB t12_5) fun b6 =>
 if b6 = true then
 (bd (nilC v0) fun t16_7 =>
 (bd (faA 2 t16_7) fun t17_8 =>
 (bd (ld1 t17_8 (H.more 0)) fun t18_9 =>
 (bd (idxS 3 t18_9 v5) fun t20_10 =>
 (bd (faA 1 t20_10) fun t21_11 =>
 (bd (ldN 2 t21_11 (H.more 0)) fun t22_12 =>
 (bd (ldN 2 v3 (H.more 0)) fun t23_13 =>
 (bd (eqlA P ty_api_Point t22_12 t23_13) fun t24_14 =>
 (bd (asB t24_14) fun b15 =>
 if b15 = true then
 (some (v5, (H.more 0)))
 else
 (bd (arA .add v5 (.int .i64 1)) fun t14_16 =>
 (s0 v0 v3 t14_16 (H.more 0))))))))))))
 else
 (some ((.int .i64 (-1)), H))))))))
theorem ref17_Engine_On.r_l0_e (n m0 : Nat) : ref17_Engine_On.r_l0 @bdI (callA C n) n (ref17_Engine_On.l0 n m0) = ref17_Engine_On.l0 n (m0 + 1) := by
  funext v0 v3 v5 H
  unfold ref17_Engine_On.r_l0
  kernel_rfl
noncomputable def ref17_Engine_On.r_l0_lp (bd : B3) (call : FuncId → List V → Heap → Option R) (n : Nat) (m : Nat) : V → V → V → Heap → Option R := Nat.rec (motive := fun _ => V → V → V → Heap → Option R) (fun _ _ _ _ => none) (fun _ self => ref17_Engine_On.r_l0 bd call n self) m
theorem ref17_Engine_On.r_l0_lp_e (n : Nat) : ref17_Engine_On.r_l0_lp @bdI (callA C n) n = ref17_Engine_On.l0 n := by
  funext m
  induction m with
  | zero => funext v0 v3 v5 H; kernel_rfl
  | succ k ih => exact (congrArg (ref17_Engine_On.r_l0 @bdI (callA C n) n) ih).trans (ref17_Engine_On.r_l0_e n k)
noncomputable def ref17_Engine_On.r (bd : B3) (call : FuncId → List V → Heap → Option R) (n : Nat) (v0 v1 : V) (H : Heap) : Option R :=
 (bd (boxA ty_api_Point v1) fun o1 =>
 (ref17_Engine_On.r_l0_lp bd call n n v0 (.ptr (some (H.n, 0))) (.int .i64 0) (H.push o1)))
theorem ref17_Engine_On.r_e (n : Nat) (v0 v1 : V) (H : Heap) : ref17_Engine_On.r @bdI (callA C n) n v0 v1 H = E C n 70 [] (argsA 0 [v0, v1]) H (kR C 70) := by
  unfold ref17_Engine_On.r
  rewrite [ref17_Engine_On.r_l0_lp_e]
  kernel_rfl
noncomputable def ref17_Engine_On.rf (bd : B3) (call : FuncId → List V → Heap → Option R) (n : Nat) (a : List V) (H : Heap) : Option R := (match a with | [v0, v1] => ref17_Engine_On.r bd call n v0 v1 H | a => E C n 70 [] (argsA 0 a) H (kR C 70))
theorem ref17_Engine_On.rf_b (n : Nat) (a : List V) (H : Heap) : (match a with | [v0, v1] => ref17_Engine_On.r @bdI (callA C n) n v0 v1 H | a => E C n 70 [] (argsA 0 a) H (kR C 70)) = E C n 70 [] (argsA 0 a) H (kR C 70) := by
  split
  · exact ref17_Engine_On.r_e n _ _ H
  · rfl
theorem ref17_Engine_On.rf_e (n : Nat) (a : List V) (H : Heap) : ref17_Engine_On.rf @bdI (callA C n) n a H = callA C (n + 1) 70 a H := by
  unfold ref17_Engine_On.rf
  refine (ref17_Engine_On.rf_b n a H).trans ?_
  kernel_rfl
@[irreducible] noncomputable def ref17_Put.l0 (n m0 : Nat) (v0 v3 v5 v6 v7 : V) (H : Heap) : Option R := Lp C n 72 [1, 1, 0, 1, 0, 0] m0 [(0, v0), (3, v3), (5, v5), (6, v6), (7, v7)] H (kB 0 (kC C n 72 [1, 1, 1] (kR C 72)))
@[irreducible] noncomputable def ref17_Put.p1 (n m0 : Nat) (v0 v3 v5 v6 v7 : V) (H : Heap) : Option R := E C n 72 [1, 1, 0, 1, 0, 0, 1, 0, 0, 1] [(0, v0), (3, v3), (5, v5), (6, v6), (7, v7)] H (kB 1 (kC C n 72 [1, 1, 0, 1, 0, 0, 1, 1] (kL C n 72 [1, 1, 0, 1, 0, 0] m0 (kB 0 (kC C n 72 [1, 1, 1] (kR C 72))))))
@[irreducible] noncomputable def ref17_Put.p2 (n : Nat) (v3 v5 v6 : V) (H : Heap) : Option R := E C n 72 [1, 1, 1] [(3, v3), (5, v5), (6, v6)] H (kR C 72)
noncomputable def ref17_Put.r_p1 (bd : B3) (call : FuncId → List V → Heap → Option R) (n : Nat) (s0 : V → V → V → V → V → Heap → Option R) (v0 v3 v5 v6 v7 : V) (H : Heap) : Option R :=
 (bd (idxS 3 v0 v7) fun t34_1 =>
 (bd (ldN 3 t34_1 H) fun t35_2 =>
 (bd (bSl 3 ty_api_Place [(.int .i64 0), (.int .i64 0), (.int .i64 0)] 1 [(0, t35_2)]) fun o3 =>
 (bd (appA 3 24 ty_api_Place v5 (.slice ⟨some (H.n, 0), 1, 3, false⟩) (H.push o3)) fun p4 =>
 (bd (arA .add v7 (.int .i64 1)) fun t14_5 =>
 (s0 v0 v3 p4.1 v6 t14_5 p4.2))))))
theorem ref17_Put.r_p1_e (n : Nat) (m0 : Nat) : ref17_Put.r_p1 @bdI (callA C n) n (ref17_Put.l0 n m0) = ref17_Put.p1 n m0 := by
  funext v0 v3 v5 v6 v7 H
  unfold ref17_Put.r_p1
  kernel_rfl
noncomputable def ref17_Put.r_p2 (bd : B3) (call : FuncId → List V → Heap → Option R) (n : Nat) (v3 v5 v6 : V) (H : Heap) : Option R :=
 (bd (unA .not v6) fun t39_1 =>
 (bd (asB t39_1) fun b2 =>
 if b2 = true then
 (bd (ldN 3 v3 H) fun t41_3 =>
 (bd (bSl 3 ty_api_Place [(.int .i64 0), (.int .i64 0), (.int .i64 0)] 1 [(0, t41_3)]) fun o4 =>
 (bd (appA 3 24 ty_api_Place v5 (.slice ⟨some (H.n, 0), 1, 3, false⟩) (H.push o4)) fun p5 =>
 (frzR p5.1 p5.2))))
 else
 (frzR v5 H)))
theorem ref17_Put.r_p2_e (n : Nat) : ref17_Put.r_p2 @bdI (callA C n) n = ref17_Put.p2 n := by
  funext v3 v5 v6 H
  unfold ref17_Put.r_p2
  kernel_rfl
noncomputable def ref17_Put.r_l0 (bd : B3) (call : FuncId → List V → Heap → Option R) (n : Nat) (s0 : V → V → V → V → V → Heap → Option R) (v0 v3 v5 v6 v7 : V) (H : Heap) : Option R :=
 (bd (lenSl v0) fun t11_1 =>
 (bd (arA .lss v7 t11_1) fun t12_2 =>
 (bd (asB t12_2) fun b3 =>
 if b3 = true then
 (bd (unA .not v6) fun t16_4 =>
 (bd (asB t16_4) fun b5 =>
 if b5 = true then
 (bd (idxS 3 v0 v7) fun t20_6 =>
 (bd (faA 0 t20_6) fun t21_7 =>
 (bd (ld1 t21_7 (H.more 0)) fun t22_8 =>
 (bd (faA 0 v3) fun t23_9 =>
 (bd (ld1 t23_9 (H.more 0)) fun t24_10 =>
 (bd (arA .gtr t22_8 t24_10) fun t25_11 =>
 (bd (asB t25_11) fun b12 =>
 if b12 = true then
 (bd (ldN 3 v3 (H.more 0)) fun t28_13 =>
 (bd (bSl 3 ty_api_Place [(.int .i64 0), (.int .i64 0), (.int .i64 0)] 1 [(0, t28_13)]) fun o14 =>
 (bd (appA 3 24 ty_api_Place v5 (.slice ⟨some ((H.more 0).n, 0), 1, 3, false⟩) ((H.more 0).push o14)) fun p15 =>
 (ref17_Put.r_p1 bd call n s0 v0 v3 p15.1 (.bool true) v7 p15.2))))
 else
 (ref17_Put.r_p1 bd call n s0 v0 v3 v5 v6 v7 (H.more 0)))))))))
 else
 (ref17_Put.r_p1 bd call n s0 v0 v3 v5 v6 v7 (H.more 0))))
 else
 (ref17_Put.r_p2 bd call n v3 v5 v6 H))))
theorem ref17_Put.r_l0_e (n m0 : Nat) : ref17_Put.r_l0 @bdI (callA C n) n (ref17_Put.l0 n m0) = ref17_Put.l0 n (m0 + 1) := by
  funext v0 v3 v5 v6 v7 H
  unfold ref17_Put.r_l0
  rewrite [ref17_Put.r_p1_e]
  rewrite [ref17_Put.r_p2_e]
  kernel_rfl
noncomputable def ref17_Put.r_l0_lp (bd : B3) (call : FuncId → List V → Heap → Option R) (n : Nat) (m : Nat) : V → V → V → V → V → Heap → Option R := Nat.rec (motive := fun _ => V → V → V → V → V → Heap → Option R) (fun _ _ _ _ _ _ => none) (fun _ self => ref17_Put.r_l0 bd call n self) m
theorem ref17_Put.r_l0_lp_e (n : Nat) : ref17_Put.r_l0_lp @bdI (callA C n) n = ref17_Put.l0 n := by
  funext m
  induction m with
  | zero => funext v0 v3 v5 v6 v7 H; kernel_rfl
  | succ k ih => exact (congrArg (ref17_Put.r_l0 @bdI (callA C n) n) ih).trans (ref17_Put.r_l0_e n k)
noncomputable def ref17_Put.r (bd : B3) (call : FuncId → List V → Heap → Option R) (n : Nat) (v0 v1 : V) (H : Heap) : Option R :=
 (bd (boxA ty_api_Place v1) fun o1 =>
 (bd (bSl 3 ty_api_Place [(.int .i64 0), (.int .i64 0), (.int .i64 0)] 0 []) fun o2 =>
 (ref17_Put.r_l0_lp bd call n n v0 (.ptr (some (H.n, 0))) (.slice ⟨some ((H.push o1).n, 0), 0, 3, false⟩) (.bool false) (.int .i64 0) ((H.push o1).push o2))))
theorem ref17_Put.r_e (n : Nat) (v0 v1 : V) (H : Heap) : ref17_Put.r @bdI (callA C n) n v0 v1 H = E C n 72 [] (argsA 0 [v0, v1]) H (kR C 72) := by
  unfold ref17_Put.r
  rewrite [ref17_Put.r_l0_lp_e]
  kernel_rfl
noncomputable def ref17_Put.rf (bd : B3) (call : FuncId → List V → Heap → Option R) (n : Nat) (a : List V) (H : Heap) : Option R := pureA a H fun a => (match a with | [v0, v1] => ref17_Put.r bd call n v0 v1 ⟨0, .nil⟩ | a => E C n 72 [] (argsA 0 a) ⟨0, .nil⟩ (kR C 72))
theorem ref17_Put.rf_b (n : Nat) (a : List V) (H : Heap) : (match a with | [v0, v1] => ref17_Put.r @bdI (callA C n) n v0 v1 H | a => E C n 72 [] (argsA 0 a) H (kR C 72)) = E C n 72 [] (argsA 0 a) H (kR C 72) := by
  split
  · exact ref17_Put.r_e n _ _ H
  · rfl
theorem ref17_Put.rf_e (n : Nat) (a : List V) (H : Heap) : ref17_Put.rf @bdI (callA C n) n a H = callA C (n + 1) 72 a H := by
  unfold ref17_Put.rf
  refine (congrArg (pureA a H) (funext fun a => ref17_Put.rf_b n a ⟨0, .nil⟩)).trans ?_
  kernel_rfl
end Go.AM.L
end
section
set_option linter.unusedVariables false
set_option linter.unusedSimpArgs false
set_option maxRecDepth 1000000
set_option linter.unusedVariables false
namespace Go.AM.L
@[irreducible] noncomputable def cover_turned.l0 (n m0 : Nat) (v1 v2 v4 v5 v8 : V) (H : Heap) : Option R := Lp C n 73 [1, 1, 0, 1, 0, 0] m0 [(1, v1), (2, v2), (4, v4), (5, v5), (8, v8)] H (kB 0 (kC C n 73 [1, 1, 1] (kR C 73)))
noncomputable def cover_turned.r_l0 (bd : B3) (call : FuncId → List V → Heap → Option R) (n : Nat) (s0 : V → V → V → V → V → Heap → Option R) (v1 v2 v4 v5 v8 : V) (H : Heap) : Option R :=
 (bd (arA .lss v8 (.int .i64 3)) fun t9_1 =>
 (bd (asB t9_1) fun b2 =>
 if b2 = true then
 (bd (arA .add v1 v8) fun t13_3 =>
 (bd (arA .rem t13_3 (.int .i64 3)) fun t14_4 =>
 (bd (faA 3 v2) fun t22_5 =>
 (bd (idxP 3 2 t22_5 t14_4) fun t23_6 =>
 (bd (ldN 2 t23_6 (H.more 0)) fun t24_7 =>
 (bd (faA 3 v2) fun t26_8 =>
 (bd (idxP 3 2 t26_8 v1) fun t27_9 =>
 (bd (ldN 2 t27_9 (H.more 0)) fun t28_10 =>
 (bd (call 58 [t24_7, t28_10] (H.more 0)) fun r11 =>
 (bd (faA 0 v2) fun t18_12 =>
 (bd (idxP 3 1 t18_12 t14_4) fun t19_13 =>
 (bd (ld1 t19_13 r11.2) fun t20_14 =>
 (bd (chk (ld1 t19_13 (H.more 0)) t20_14) fun _ =>
 (bd (faA 0 v5) fun t30_15 =>
 (bd (idxP 3 1 t30_15 v8) fun t31_16 =>
 (bd (stA 1 t31_16 t20_14 r11.2) fun H17 =>
 (bd (faA 3 v5) fun t32_18 =>
 (bd (idxP 3 2 t32_18 v8) fun t33_19 =>
 (bd (stA 2 t33_19 r11.1 H17) fun H20 =>
 (bd (arA .add v8 (.int .i64 1)) fun t34_21 =>
 (s0 v1 v2 v4 v5 t34_21 H20)))))))))))))))))))))
 else
 (bd (ldN 9 v5 H) fun t35_22 =>
 (bd (stA 9 v4 t35_22 H) fun H23 =>
 (bd (ldN 9 v4 H23) fun t24 =>
 (some (t24, H23)))))))
theorem cover_turned.r_l0_e (n m0 : Nat) : cover_turned.r_l0 @bdI (callA C n) n (cover_turned.l0 n m0) = cover_turned.l0 n (m0 + 1) := by
  funext v1 v2 v4 v5 v8 H
  unfold cover_turned.r_l0
  kernel_rfl
noncomputable def cover_turned.r_l0_lp (bd : B3) (call : FuncId → List V → Heap → Option R) (n : Nat) (m : Nat) : V → V → V → V → V → Heap → Option R := Nat.rec (motive := fun _ => V → V → V → V → V → Heap → Option R) (fun _ _ _ _ _ _ => none) (fun _ self => cover_turned.r_l0 bd call n self) m
theorem cover_turned.r_l0_lp_e (n : Nat) : cover_turned.r_l0_lp @bdI (callA C n) n = cover_turned.l0 n := by
  funext m
  induction m with
  | zero => funext v1 v2 v4 v5 v8 H; kernel_rfl
  | succ k ih => exact (congrArg (cover_turned.r_l0 @bdI (callA C n) n) ih).trans (cover_turned.r_l0_e n k)
noncomputable def cover_turned.r (bd : B3) (call : FuncId → List V → Heap → Option R) (n : Nat) (v0 v1 : V) (H : Heap) : Option R :=
 (bd (boxA ty_api_Tri v0) fun o1 =>
 (cover_turned.r_l0_lp bd call n n v1 (.ptr (some (H.n, 0))) (.ptr (some ((H.push o1).n, 0))) (.ptr (some (((H.push o1).push (.cells [(.int .i64 0), (.int .i64 0), (.int .i64 0), (.int .i64 0), (.int .i64 0), (.int .i64 0), (.int .i64 0), (.int .i64 0), (.int .i64 0)] ty_api_Tri false)).n, 0))) (.int .i64 0) (((H.push o1).push (.cells [(.int .i64 0), (.int .i64 0), (.int .i64 0), (.int .i64 0), (.int .i64 0), (.int .i64 0), (.int .i64 0), (.int .i64 0), (.int .i64 0)] ty_api_Tri false)).push (.cells [(.int .i64 0), (.int .i64 0), (.int .i64 0), (.int .i64 0), (.int .i64 0), (.int .i64 0), (.int .i64 0), (.int .i64 0), (.int .i64 0)] ty_api_Tri false))))
theorem cover_turned.r_e (n : Nat) (v0 v1 : V) (H : Heap) : cover_turned.r @bdI (callA C n) n v0 v1 H = E C n 73 [] (argsA 0 [v0, v1]) H (kR C 73) := by
  unfold cover_turned.r
  rewrite [cover_turned.r_l0_lp_e]
  kernel_rfl
noncomputable def cover_turned.rf (bd : B3) (call : FuncId → List V → Heap → Option R) (n : Nat) (a : List V) (H : Heap) : Option R := pureA a H fun a => (match a with | [v0, v1] => cover_turned.r bd call n v0 v1 ⟨0, .nil⟩ | a => E C n 73 [] (argsA 0 a) ⟨0, .nil⟩ (kR C 73))
theorem cover_turned.rf_b (n : Nat) (a : List V) (H : Heap) : (match a with | [v0, v1] => cover_turned.r @bdI (callA C n) n v0 v1 H | a => E C n 73 [] (argsA 0 a) H (kR C 73)) = E C n 73 [] (argsA 0 a) H (kR C 73) := by
  split
  · exact cover_turned.r_e n _ _ H
  · rfl
theorem cover_turned.rf_e (n : Nat) (a : List V) (H : Heap) : cover_turned.rf @bdI (callA C n) n a H = callA C (n + 1) 73 a H := by
  unfold cover_turned.rf
  refine (congrArg (pureA a H) (funext fun a => cover_turned.rf_b n a ⟨0, .nil⟩)).trans ?_
  kernel_rfl
@[irreducible] noncomputable def slices_insertionSortCmpFunc_api_Tri.l0 (n m0 : Nat) (v0 v1 v2 v3 v8 : V) (H : Heap) : Option R := Lp C n 74 [1, 0, 0] m0 [(0, v0), (1, v1), (2, v2), (3, v3), (8, v8)] H (kB 0 (kR C 74))
@[irreducible] noncomputable def slices_insertionSortCmpFunc_api_Tri.l1 (n m0 m1 : Nat) (v0 v1 v2 v3 v8 v9 : V) (H : Heap) : Option R := Lp C n 74 [1, 0, 0, 1, 0, 0, 1, 0, 0] m1 [(0, v0), (1, v1), (2, v2), (3, v3), (8, v8), (9, v9)] H (kB 2 (kB 1 (kC C n 74 [1, 0, 0, 1, 1] (kL C n 74 [1, 0, 0] m0 (kB 0 (kR C 74))))))
noncomputable def slices_insertionSortCmpFunc_api_Tri.r_l1 (bd : B3) (call : FuncId → List V → Heap → Option R) (n : Nat) (s0 : V → V → V → V → V → Heap → Option R) (s1 : V → V → V → V → V → V → Heap → Option R) (v0 v1 v2 v3 v8 v9 : V) (H : Heap) : Option R :=
 (bd (arA .gtr v9 v1) fun t20_1 =>
 (bd (asB t20_1) fun b2 =>
 if b2 = true then
 (bd (idxS 9 v0 v9) fun t25_3 =>
 (bd (ldN 9 t25_3 (H.more 0)) fun t26_4 =>
 (bd (arA .sub v9 (.int .i64 1)) fun t29_5 =>
 (bd (idxS 9 v0 t29_5) fun t30_6 =>
 (bd (ldN 9 t30_6 (H.more 0)) fun t31_7 =>
 (bd (callV call v3 [t26_4, t31_7] (H.more 0)) fun r8 =>
 (bd (arA .lss r8.1 (.int .i64 0)) fun t33_9 =>
 (bd (asB t33_9) fun b10 =>
 if b10 = true then
 (bd (arA .sub v9 (.int .i64 1)) fun t44_11 =>
 (bd (idxS 9 v0 t44_11) fun t45_12 =>
 (bd (ldN 9 t45_12 (r8.2.more 0)) fun t46_13 =>
 (bd (idxS 9 v0 v9) fun t49_14 =>
 (bd (ldN 9 t49_14 (r8.2.more 0)) fun t50_15 =>
 (bd (idxS 9 v0 v9) fun t51_16 =>
 (bd (stA 9 t51_16 t46_13 (r8.2.more 0)) fun H17 =>
 (bd (arA .sub v9 (.int .i64 1)) fun t41_18 =>
 (bd (idxS 9 v0 t41_18) fun t52_19 =>
 (bd (stA 9 t52_19 t50_15 H17) fun H20 =>
 (bd (arA .sub v9 (.int .i64 1)) fun t36_21 =>
 (s1 v0 v1 v2 v3 v8 t36_21 H20))))))))))))
 else
 (bd (arA .add v8 (.int .i64 1)) fun t16_22 =>
 (s0 v0 v1 v2 v3 t16_22 r8.2))))))))))
 else
 (bd (arA .add v8 (.int .i64 1)) fun t16_23 =>
 (s0 v0 v1 v2 v3 t16_23 (H.more 0)))))
theorem slices_insertionSortCmpFunc_api_Tri.r_l1_e (n m0 m1 : Nat) : slices_insertionSortCmpFunc_api_Tri.r_l1 @bdI (callA C n) n (slices_insertionSortCmpFunc_api_Tri.l0 n m0) (slices_insertionSortCmpFunc_api_Tri.l1 n m0 m1) = slices_insertionSortCmpFunc_api_Tri.l1 n m0 (m1 + 1) := by
  funext v0 v1 v2 v3 v8 v9 H
  unfold slices_insertionSortCmpFunc_api_Tri.r_l1
  kernel_rfl
noncomputable def slices_insertionSortCmpFunc_api_Tri.r_l1_lp (bd : B3) (call : FuncId → List V → Heap → Option R) (n : Nat) (s0 : V → V → V → V → V → Heap → Option R) (m : Nat) : V → V → V → V → V → V → Heap → Option R := Nat.rec (motive := fun _ => V → V → V → V → V → V → Heap → Option R) (fun _ _ _ _ _ _ _ => none) (fun _ self => slices_insertionSortCmpFunc_api_Tri.r_l1 bd call n s0 self) m
theorem slices_insertionSortCmpFunc_api_Tri.r_l1_lp_e (n m0 : Nat) : slices_insertionSortCmpFunc_api_Tri.r_l1_lp @bdI (callA C n) n (slices_insertionSortCmpFunc_api_Tri.l0 n m0) = slices_insertionSortCmpFunc_api_Tri.l1 n m0 := by
  funext m
  induction m with
  | zero => funext v0 v1 v2 v3 v8 v9 H; kernel_rfl
  | succ k ih => exact (congrArg (slices_insertionSortCmpFunc_api_Tri.r_l1 @bdI (callA C n) n (slices_insertionSortCmpFunc_api_Tri.l0 n m0)) ih).trans (slices_insertionSortCmpFunc_api_Tri.r_l1_e n m0 k)
noncomputable def slices_insertionSortCmpFunc_api_Tri.r_l0 (bd : B3) (call : FuncId → List V → Heap → Option R) (n : Nat) (s0 : V → V → V → V → V → Heap → Option R) (v0 v1 v2 v3 v8 : V) (H : Heap) : Option R :=
 (bd (arA .lss v8 v2) fun t14_1 =>
 (bd (asB t14_1) fun b2 =>
 if b2 = true then
 (slices_insertionSortCmpFunc_api_Tri.r_l1_lp bd call n s0 n v0 v1 v2 v3 v8 v8 H)
 else
 (some (.tuple [], H))))
theorem slices_insertionSortCmpFunc_api_Tri.r_l0_e (n m0 : Nat) : slices_insertionSortCmpFunc_api_Tri.r_l0 @bdI (callA C n) n (slices_insertionSortCmpFunc_api_Tri.l0 n m0) = slices_insertionSortCmpFunc_api_Tri.l0 n (m0 + 1) := by
  funext v0 v1 v2 v3 v8 H
  unfold slices_insertionSortCmpFunc_api_Tri.r_l0
  rewrite [slices_insertionSortCmpFunc_api_Tri.r_l1_lp_e]
  kernel_rfl
noncomputable def slices_insertionSortCmpFunc_api_Tri.r_l0_lp (bd : B3) (call : FuncId → List V → Heap → Option R) (n : Nat) (m : Nat) : V → V → V → V → V → Heap → Option R := Nat.rec (motive := fun _ => V → V → V → V → V → Heap → Option R) (fun _ _ _ _ _ _ => none) (fun _ self => slices_insertionSortCmpFunc_api_Tri.r_l0 bd call n self) m
theorem slices_insertionSortCmpFunc_api_Tri.r_l0_lp_e (n : Nat) : slices_insertionSortCmpFunc_api_Tri.r_l0_lp @bdI (callA C n) n = slices_insertionSortCmpFunc_api_Tri.l0 n := by
  funext m
  induction m with
  | zero => funext v0 v1 v2 v3 v8 H; kernel_rfl
  | succ k ih => exact (congrArg (slices_insertionSortCmpFunc_api_Tri.r_l0 @bdI (callA C n) n) ih).trans (slices_insertionSortCmpFunc_api_Tri.r_l0_e n k)
noncomputable def slices_insertionSortCmpFunc_api_Tri.r (bd : B3) (call : FuncId → List V → Heap → Option R) (n : Nat) (v0 v1 v2 v3 : V) (H : Heap) : Option R :=
 (bd (arA .add v1 (.int .i64 1)) fun t11_1 =>
 (slices_insertionSortCmpFunc_api_Tri.r_l0_lp bd call n n v0 v1 v2 v3 t11_1 H))
theorem slices_insertionSortCmpFunc_api_Tri.r_e (n : Nat) (v0 v1 v2 v3 : V) (H : Heap) : slices_insertionSortCmpFunc_api_Tri.r @bdI (callA C n) n v0 v1 v2 v3 H = E C n 74 [] (argsA 0 [v0, v1, v2, v3]) H (kR C 74) := by
  unfold slices_insertionSortCmpFunc_api_Tri.r
  rewrite [slices_insertionSortCmpFunc_api_Tri.r_l0_lp_e]
  kernel_rfl
noncomputable def slices_insertionSortCmpFunc_api_Tri.rf (bd : B3) (call : FuncId → List V → Heap → Option R) (n : Nat) (a : List V) (H : Heap) : Option R := (match a with | [v0, v1, v2, v3] => slices_insertionSortCmpFunc_api_Tri.r bd call n v0 v1 v2 v3 H | a => E C n 74 [] (argsA 0 a) H (kR C 74))
theorem slices_insertionSortCmpFunc_api_Tri.rf_b (n : Nat) (a : List V) (H : Heap) : (match a with | [v0, v1, v2, v3] => slices_insertionSortCmpFunc_api_Tri.r @bdI (callA C n) n v0 v1 v2 v3 H | a => E C n 74 [] (argsA 0 a) H (kR C 74)) = E C n 74 [] (argsA 0 a) H (kR C 74) := by
  split
  · exact slices_insertionSortCmpFunc_api_Tri.r_e n _ _ _ _ H
  · rfl
theorem slices_insertionSortCmpFunc_api_Tri.rf_e (n : Nat) (a : List V) (H : Heap) : slices_insertionSortCmpFunc_api_Tri.rf @bdI (callA C n) n a H = callA C (n + 1) 74 a H := by
  unfold slices_insertionSortCmpFunc_api_Tri.rf
  refine (slices_insertionSortCmpFunc_api_Tri.rf_b n a H).trans ?_
  kernel_rfl
@[irreducible] noncomputable def slices_partitionCmpFunc_api_Tri.l0 (n m0 : Nat) (v0 v1 v4 v12 v13 : V) (H : Heap) : Option R := Lp C n 81 [1, 1, 1, 0, 0, 0] m0 [(0, v0), (1, v1), (4, v4), (12, v12), (13, v13)] H (kB 0 (kC C n 81 [1, 1, 1, 1] (kR C 81)))
@[irreducible] noncomputable def slices_partitionCmpFunc_api_Tri.p1 (n : Nat) (v0 v1 v4 v12 v13 : V) (H : Heap) : Option R := E C n 81 [1, 1, 1, 1] [(0, v0), (1, v1), (4, v4), (12, v12), (13, v13)] H (kR C 81)
@[irreducible] noncomputable def slices_partitionCmpFunc_api_Tri.l2 (n m0 : Nat) (v0 v1 v4 v12 v13 : V) (H : Heap) : Option R := Lp C n 81 [1, 1, 1, 1, 0, 0, 0] m0 [(0, v0), (1, v1), (4, v4), (12, v12), (13, v13)] H (kB 2 (kC C n 81 [1, 1, 1, 1, 1] (kR C 81)))
@[irreducible] noncomputable def slices_partitionCmpFunc_api_Tri.p3 (n : Nat) (v0 v1 v4 v12 v13 : V) (H : Heap) : Option R := E C n 81 [1, 1, 1, 1, 1] [(0, v0), (1, v1), (4, v4), (12, v12), (13, v13)] H (kR C 81)
@[irreducible] noncomputable def slices_partitionCmpFunc_api_Tri.l4 (n m0 : Nat) (v0 v1 v4 v12 v13 : V) (H : Heap) : Option R := Lp C n 81 [1, 1, 1, 1, 1, 1, 1, 1, 1, 0, 0, 0] m0 [(0, v0), (1, v1), (4, v4), (12, v12), (13, v13)] H (kB 4 (kC C n 81 [1, 1, 1, 1, 1, 1, 1, 1, 1, 1] (kR C 81)))
@[irreducible] noncomputable def slices_partitionCmpFunc_api_Tri.l5 (n m0 m1 : Nat) (v0 v1 v4 v12 v13 : V) (H : Heap) : Option R := Lp C n 81 [1, 1, 1, 1, 1, 1, 1, 1, 1, 0, 0, 0, 0, 0, 0, 0] m1 [(0, v0), (1, v1), (4, v4), (12, v12), (13, v13)] H (kB 6 (kC C n 81 [1, 1, 1, 1, 1, 1, 1, 1, 1, 0, 0, 0, 0, 1] (kB 5 (kL C n 81 [1, 1, 1, 1, 1, 1, 1, 1, 1, 0, 0, 0] m0 (kB 4 (kC C n 81 [1, 1, 1, 1, 1, 1, 1, 1, 1, 1] (kR C 81)))))))
@[irreducible] noncomputable def slices_partitionCmpFunc_api_Tri.p6 (n m0 : Nat) (v0 v1 v4 v12 v13 : V) (H : Heap) : Option R := E C n 81 [1, 1, 1, 1, 1, 1, 1, 1, 1, 0, 0, 0, 0, 1] [(0, v0), (1, v1), (4, v4), (12, v12), (13, v13)] H (kB 5 (kL C n 81 [1, 1, 1, 1, 1, 1, 1, 1, 1, 0, 0, 0] m0 (kB 4 (kC C n 81 [1, 1, 1, 1, 1, 1, 1, 1, 1, 1] (kR C 81)))))
@[irreducible] noncomputable def slices_partitionCmpFunc_api_Tri.l7 (n m0 m1 : Nat) (v0 v1 v4 v12 v13 : V) (H : Heap) : Option R := Lp C n 81 [1, 1, 1, 1, 1, 1, 1, 1, 1, 0, 0, 0, 0, 1, 0, 0, 0] m1 [(0, v0), (1, v1), (4, v4), (12, v12), (13, v13)] H (kB 8 (kC C n 81 [1, 1, 1, 1, 1, 1, 1, 1, 1, 0, 0, 0, 0, 1, 1] (kB 5 (kL C n 81 [1, 1, 1, 1, 1, 1, 1, 1, 1, 0, 0, 0] m0 (kB 4 (kC C n 81 [1, 1, 1, 1, 1, 1, 1, 1, 1, 1] (kR C 81)))))))
@[irreducible] noncomputable def slices_partitionCmpFunc_api_Tri.p8 (n m0 : Nat) (v0 v1 v4 v12 v13 : V) (H : Heap) : Option R := E C n 81 [1, 1, 1, 1, 1, 1, 1, 1, 1, 0, 0, 0, 0, 1, 1] [(0, v0), (1, v1), (4, v4), (12, v12), (13, v13)] H (kB 5 (kL C n 81 [1, 1, 1, 1, 1, 1, 1, 1, 1, 0, 0, 0] m0 (kB 4 (kC C n 81 [1, 1, 1, 1, 1, 1, 1, 1, 1, 1] (kR C 81)))))
@[irreducible] noncomputable def slices_partitionCmpFunc_api_Tri.p9 (n : Nat) (v0 v1 v13 : V) (H : Heap) : Option R := E C n 81 [1, 1, 1, 1, 1, 1, 1, 1, 1, 1] [(0, v0), (1, v1), (13, v13)] H (kR C 81)
noncomputable def slices_partitionCmpFunc_api_Tri.r_p9 (bd : B3) (call : FuncId → List V → Heap → Option R) (n : Nat) (v0 v1 v13 : V) (H : Heap) : Option R :=
 (bd (idxS 9 v0 v1) fun t169_1 =>
 (bd (ldN 9 t169_1 (H.more 0)) fun t170_2 =>
 (bd (idxS 9 v0 v13) fun t173_3 =>
 (bd (ldN 9 t173_3 (H.more 0)) fun t174_4 =>
 (bd (idxS 9 v0 v13) fun t175_5 =>
 (bd (stA 9 t175_5 t170_2 (H.more 0)) fun H6 =>
 (bd (idxS 9 v0 v1) fun t176_7 =>
 (bd (stA 9 t176_7 t174_4 H6) fun H8 =>
 (some (.tuple [v13, (.bool false)], H8))))))))))
theorem slices_partitionCmpFunc_api_Tri.r_p9_e (n : Nat) : slices_partitionCmpFunc_api_Tri.r_p9 @bdI (callA C n) n = slices_partitionCmpFunc_api_Tri.p9 n := by
  funext v0 v1 v13 H
  unfold slices_partitionCmpFunc_api_Tri.r_p9
  kernel_rfl
noncomputable def slices_partitionCmpFunc_api_Tri.r_p8 (bd : B3) (call : FuncId → List V → Heap → Option R) (n : Nat) (s0 : V → V → V → V → V → Heap → Option R) (v0 v1 v4 v12 v13 : V) (H : Heap) : Option R :=
 (bd (arA .gtr v12 v13) fun t144_1 =>
 (bd (asB t144_1) fun b2 =>
 if b2 = true then
 (slices_partitionCmpFunc_api_Tri.r_p9 bd call n v0 v1 v13 H)
 else
 (bd (idxS 9 v0 v13) fun t151_3 =>
 (bd (ldN 9 t151_3 (H.more 0)) fun t152_4 =>
 (bd (idxS 9 v0 v12) fun t155_5 =>
 (bd (ldN 9 t155_5 (H.more 0)) fun t156_6 =>
 (bd (idxS 9 v0 v12) fun t157_7 =>
 (bd (stA 9 t157_7 t152_4 (H.more 0)) fun H8 =>
 (bd (idxS 9 v0 v13) fun t158_9 =>
 (bd (stA 9 t158_9 t156_6 H8) fun H10 =>
 (bd (arA .add v12 (.int .i64 1)) fun t160_11 =>
 (bd (arA .sub v13 (.int .i64 1)) fun t162_12 =>
 (s0 v0 v1 v4 t160_11 t162_12 H10)))))))))))))
theorem slices_partitionCmpFunc_api_Tri.r_p8_e (n : Nat) (m0 : Nat) : slices_partitionCmpFunc_api_Tri.r_p8 @bdI (callA C n) n (slices_partitionCmpFunc_api_Tri.l4 n m0) = slices_partitionCmpFunc_api_Tri.p8 n m0 := by
  funext v0 v1 v4 v12 v13 H
  unfold slices_partitionCmpFunc_api_Tri.r_p8
  rewrite [slices_partitionCmpFunc_api_Tri.r_p9_e]
  kernel_rfl
noncomputable def slices_partitionCmpFunc_api_Tri.r_l7 (bd : B3) (call : FuncId → List V → Heap → Option R) (n : Nat) (s0 : V → V → V → V → V → Heap → Option R) (s1 : V → V → V → V → V → Heap → Option R) (v0 v1 v4 v12 v13 : V) (H : Heap) : Option R :=
 (bd (arA .leq v12 v13) fun t125_1 =>
 (bd (asB t125_1) fun b2 =>
 if b2 = true then
 (bd (idxS 9 v0 v13) fun t130_3 =>
 (bd (ldN 9 t130_3 (H.more 0)) fun t131_4 =>
 (bd (idxS 9 v0 v1) fun t134_5 =>
 (bd (ldN 9 t134_5 (H.more 0)) fun t135_6 =>
 (bd (callV call v4 [t131_4, t135_6] (H.more 0)) fun r7 =>
 (bd (arA .lss r7.1 (.int .i64 0)) fun t137_8 =>
 (bd (unA .not t137_8) fun t138_9 =>
 (bd (asB t138_9) fun b10 =>
 if b10 = true then
 (bd (arA .sub v13 (.int .i64 1)) fun t141_11 =>
 (s1 v0 v1 v4 v12 t141_11 r7.2))
 else
 (slices_partitionCmpFunc_api_Tri.r_p8 bd call n s0 v0 v1 v4 v12 v13 r7.2)))))))))
 else
 (slices_partitionCmpFunc_api_Tri.r_p8 bd call n s0 v0 v1 v4 v12 v13 (H.more 0))))
theorem slices_partitionCmpFunc_api_Tri.r_l7_e (n m0 m1 : Nat) : slices_partitionCmpFunc_api_Tri.r_l7 @bdI (callA C n) n (slices_partitionCmpFunc_api_Tri.l4 n m0) (slices_partitionCmpFunc_api_Tri.l7 n m0 m1) = slices_partitionCmpFunc_api_Tri.l7 n m0 (m1 + 1) := by
  funext v0 v1 v4 v12 v13 H
  unfold slices_partitionCmpFunc_api_Tri.r_l7
  rewrite [slices_partitionCmpFunc_api_Tri.r_p8_e]
  kernel_rfl
noncomputable def slices_partitionCmpFunc_api_Tri.r_l7_lp (bd : B3) (call : FuncId → List V → Heap → Option R) (n : Nat) (s0 : V → V → V → V → V → Heap → Option R) (m : Nat) : V → V → V → V → V → Heap → Option R := Nat.rec (motive := fun _ => V → V → V → V → V → Heap → Option R) (fun _ _ _ _ _ _ => none) (fun _ self => slices_partitionCmpFunc_api_Tri.r_l7 bd call n s0 self) m
theorem slices_partitionCmpFunc_api_Tri.r_l7_lp_e (n m0 : Nat) : slices_partitionCmpFunc_api_Tri.r_l7_lp @bdI (callA C n) n (slices_partitionCmpFunc_api_Tri.l4 n m0) = slices_partitionCmpFunc_api_Tri.l7 n m0 := by
  funext m
  induction m with
  | zero => funext v0 v1 v4 v12 v13 H; kernel_rfl
  | succ k ih => exact (congrArg (slices_partitionCmpFunc_api_Tri.r_l7 @bdI (callA C n) n (slices_partitionCmpFunc_api_Tri.l4 n m0)) ih).trans (slices_partitionCmpFunc_api_Tri.r_l7_e n m0 k)
noncomputable def slices_partitionCmpFunc_api_Tri.r_p6 (bd : B3) (call : FuncId → List V → Heap → Option R) (n : Nat) (s0 : V → V → V → V → V → Heap → Option R) (v0 v1 v4 v12 v13 : V) (H : Heap) : Option R :=
 (slices_partitionCmpFunc_api_Tri.r_l7_lp bd call n s0 n v0 v1 v4 v12 v13 H)
theorem slices_partitionCmpFunc_api_Tri.r_p6_e (n : Nat) (m0 : Nat) : slices_partitionCmpFunc_api_Tri.r_p6 @bdI (callA C n) n (slices_partitionCmpFunc_api_Tri.l4 n m0) = slices_partitionCmpFunc_api_Tri.p6 n m0 := by
  funext v0 v1 v4 v12 v13 H
  unfold slices_partitionCmpFunc_api_Tri.r_p6
  rewrite [slices_partitionCmpFunc_api_Tri.r_l7_lp_e]
  kernel_rfl
noncomputable def slices_partitionCmpFunc_api_Tri.r_l5 (bd : B3) (call : FuncId → List V → Heap → Option R) (n : Nat) (s0 : V → V → V → V → V → Heap → Option R) (s1 : V → V → V → V → V → Heap → Option R) (v0 v1 v4 v12 v13 : V) (H : Heap) : Option R :=
 (bd (arA .leq v12 v13) fun t107_1 =>
 (bd (asB t107_1) fun b2 =>
 if b2 = true then
 (bd (idxS 9 v0 v12) fun t112_3 =>
 (bd (ldN 9 t112_3 (H.more 0)) fun t113_4 =>
 (bd (idxS 9 v0 v1) fun t116_5 =>
 (bd (ldN 9 t116_5 (H.more 0)) fun t117_6 =>
 (bd (callV call v4 [t113_4, t117_6] (H.more 0)) fun r7 =>
 (bd (arA .lss r7.1 (.int .i64 0)) fun t119_8 =>
 (bd (asB t119_8) fun b9 =>
 if b9 = true then
 (bd (arA .add v12 (.int .i64 1)) fun t122_10 =>
 (s1 v0 v1 v4 t122_10 v13 r7.2))
 else
 (slices_partitionCmpFunc_api_Tri.r_p6 bd call n s0 v0 v1 v4 v12 v13 r7.2))))))))
 else
 (slices_partitionCmpFunc_api_Tri.r_p6 bd call n s0 v0 v1 v4 v12 v13 (H.more 0))))
theorem slices_partitionCmpFunc_api_Tri.r_l5_e (n m0 m1 : Nat) : slices_partitionCmpFunc_api_Tri.r_l5 @bdI (callA C n) n (slices_partitionCmpFunc_api_Tri.l4 n m0) (slices_partitionCmpFunc_api_Tri.l5 n m0 m1) = slices_partitionCmpFunc_api_Tri.l5 n m0 (m1 + 1) := by
  funext v0 v1 v4 v12 v13 H
  unfold slices_partitionCmpFunc_api_Tri.r_l5
  rewrite [slices_partitionCmpFunc_api_Tri.r_p6_e]
  kernel_rfl
noncomputable def slices_partitionCmpFunc_api_Tri.r_l5_lp (bd : B3) (call : FuncId → List V → Heap → Option R) (n : Nat) (s0 : V → V → V → V → V → Heap → Option R) (m : Nat) : V → V → V → V → V → Heap → Option R := Nat.rec (motive := fun _ => V → V → V → V → V → Heap → Option R) (fun _ _ _ _ _ _ => none) (fun _ self => slices_partitionCmpFunc_api_Tri.r_l5 bd call n s0 self) m
theorem slices_partitionCmpFunc_api_Tri.r_l5_lp_e (n m0 : Nat) : slices_partitionCmpFunc_api_Tri.r_l5_lp @bdI (callA C n) n (slices_partitionCmpFunc_api_Tri.l4 n m0) = slices_partitionCmpFunc_api_Tri.l5 n m0 := by
  funext m
  induction m with
  | zero => funext v0 v1 v4 v12 v13 H; kernel_rfl
  | succ k ih => exact (congrArg (slices_partitionCmpFunc_api_Tri.r_l5 @bdI (callA C n) n (slices_partitionCmpFunc_api_Tri.l4 n m0)) ih).trans (slices_partitionCmpFunc_api_Tri.r_l5_e n m0 k)
noncomputable def slices_partitionCmpFunc_api_Tri.r_l4 (bd : B3) (call : FuncId → List V → Heap → Option R) (n : Nat) (s0 : V → V → V → V → V → Heap → Option R) (v0 v1 v4 v12 v13 : V) (H : Heap) : Option R :=
 (slices_partitionCmpFunc_api_Tri.r_l5_lp bd call n s0 n v0 v1 v4 v12 v13 H)
theorem slices_partitionCmpFunc_api_Tri.r_l4_e (n m0 : Nat) : slices_partitionCmpFunc_api_Tri.r_l4 @bdI (callA C n) n (slices_partitionCmpFunc_api_Tri.l4 n m0) = slices_partitionCmpFunc_api_Tri.l4 n (m0 + 1) := by
  funext v0 v1 v4 v12 v13 H
  unfold slices_partitionCmpFunc_api_Tri.r_l4
  rewrite [slices_partitionCmpFunc_api_Tri.r_l5_lp_e]
  kernel_rfl
noncomputable def slices_partitionCmpFunc_api_Tri.r_l4_lp (bd : B3) (call : FuncId → List V → Heap → Option R) (n : Nat) (m : Nat) : V → V → V → V → V → Heap → Option R := Nat.rec (motive := fun _ => V → V → V → V → V → Heap → Option R) (fun _ _ _ _ _ _ => none) (fun _ self => slices_partitionCmpFunc_api_Tri.r_l4 bd call n self) m
theorem slices_partitionCmpFunc_api_Tri.r_l4_lp_e (n : Nat) : slices_partitionCmpFunc_api_Tri.r_l4_lp @bdI (callA C n) n = slices_partitionCmpFunc_api_Tri.l4 n := by
  funext m
  induction m with
  | zero => funext v0 v1 v4 v12 v13 H; kernel_rfl
  | succ k ih => exact (congrArg (slices_partitionCmpFunc_api_Tri.r_l4 @bdI (callA C n) n) ih).trans (slices_partitionCmpFunc_api_Tri.r_l4_e n k)
noncomputable def slices_partitionCmpFunc_api_Tri.r_p3 (bd : B3) (call : FuncId → List V → Heap → Option R) (n : Nat) (v0 v1 v4 v12 v13 : V) (H : Heap) : Option R :=
 (bd (arA .gtr v12 v13) fun t71_1 =>
 (bd (asB t71_1) fun b2 =>
 if b2 = true then
 (bd (idxS 9 v0 v1) fun t78_3 =>
 (bd (ldN 9 t78_3 (H.more 0)) fun t79_4 =>
 (bd (idxS 9 v0 v13) fun t82_5 =>
 (bd (ldN 9 t82_5 (H.more 0)) fun t83_6 =>
 (bd (idxS 9 v0 v13) fun t84_7 =>
 (bd (stA 9 t84_7 t79_4 (H.more 0)) fun H8 =>
 (bd (idxS 9 v0 v1) fun t85_9 =>
 (bd (stA 9 t85_9 t83_6 H8) fun H10 =>
 (some (.tuple [v13, (.bool true)], H10))))))))))
 else
 (bd (idxS 9 v0 v13) fun t93_11 =>
 (bd (ldN 9 t93_11 (H.more 0)) fun t94_12 =>
 (bd (idxS 9 v0 v12) fun t97_13 =>
 (bd (ldN 9 t97_13 (H.more 0)) fun t98_14 =>
 (bd (idxS 9 v0 v12) fun t99_15 =>
 (bd (stA 9 t99_15 t94_12 (H.more 0)) fun H16 =>
 (bd (idxS 9 v0 v13) fun t100_17 =>
 (bd (stA 9 t100_17 t98_14 H16) fun H18 =>
 (bd (arA .add v12 (.int .i64 1)) fun t102_19 =>
 (bd (arA .sub v13 (.int .i64 1)) fun t104_20 =>
 (slices_partitionCmpFunc_api_Tri.r_l4_lp bd call n n v0 v1 v4 t102_19 t104_20 H18)))))))))))))
theorem slices_partitionCmpFunc_api_Tri.r_p3_e (n : Nat) : slices_partitionCmpFunc_api_Tri.r_p3 @bdI (callA C n) n = slices_partitionCmpFunc_api_Tri.p3 n := by
  funext v0 v1 v4 v12 v13 H
  unfold slices_partitionCmpFunc_api_Tri.r_p3
  rewrite [slices_partitionCmpFunc_api_Tri.r_l4_lp_e]
  kernel_rfl
noncomputable def slices_partitionCmpFunc_api_Tri.r_l2 (bd : B3) (call : FuncId → List V → Heap → Option R) (n : Nat) (s0 : V → V → V → V → V → Heap → Option R) (v0 v1 v4 v12 v13 : V) (H : Heap) : Option R :=
 (bd (arA .leq v12 v13) fun t52_1 =>
 (bd (asB t52_1) fun b2 =>
 if b2 = true then
 (bd (idxS 9 v0 v13) fun t57_3 =>
 (bd (ldN 9 t57_3 (H.more 0)) fun t58_4 =>
 (bd (idxS 9 v0 v1) fun t61_5 =>
 (bd (ldN 9 t61_5 (H.more 0)) fun t62_6 =>
 (bd (callV call v4 [t58_4, t62_6] (H.more 0)) fun r7 =>
 (bd (arA .lss r7.1 (.int .i64 0)) fun t64_8 =>
 (bd (unA .not t64_8) fun t65_9 =>
 (bd (asB t65_9) fun b10 =>
 if b10 = true then
 (bd (arA .sub v13 (.int .i64 1)) fun t68_11 =>
 (s0 v0 v1 v4 v12 t68_11 r7.2))
 else
 (slices_partitionCmpFunc_api_Tri.r_p3 bd call n v0 v1 v4 v12 v13 r7.2)))))))))
 else
 (slices_partitionCmpFunc_api_Tri.r_p3 bd call n v0 v1 v4 v12 v13 (H.more 0))))
theorem slices_partitionCmpFunc_api_Tri.r_l2_e (n m0 : Nat) : slices_partitionCmpFunc_api_Tri.r_l2 @bdI (callA C n) n (slices_partitionCmpFunc_api_Tri.l2 n m0) = slices_partitionCmpFunc_api_Tri.l2 n (m0 + 1) := by
  funext v0 v1 v4 v12 v13 H
  unfold slices_partitionCmpFunc_api_Tri.r_l2
  rewrite [slices_partitionCmpFunc_api_Tri.r_p3_e]
  kernel_rfl
noncomputable def slices_partitionCmpFunc_api_Tri.r_l2_lp (bd : B3) (call : FuncId → List V → Heap → Option R) (n : Nat) (m : Nat) : V → V → V → V → V → Heap → Option R := Nat.rec (motive := fun _ => V → V → V → V → V → Heap → Option R) (fun _ _ _ _ _ _ => none) (fun _ self => slices_partitionCmpFunc_api_Tri.r_l2 bd call n self) m
theorem slices_partitionCmpFunc_api_Tri.r_l2_lp_e (n : Nat) : slices_partitionCmpFunc_api_Tri.r_l2_lp @bdI (callA C n) n = slices_partitionCmpFunc_api_Tri.l2 n := by
  funext m
  induction m with
  | zero => funext v0 v1 v4 v12 v13 H; kernel_rfl
  | succ k ih => exact (congrArg (slices_partitionCmpFunc_api_Tri.r_l2 @bdI (callA C n) n) ih).trans (slices_partitionCmpFunc_api_Tri.r_l2_e n k)
noncomputable def slices_partitionCmpFunc_api_Tri.r_p1 (bd : B3) (call : FuncId → List V → Heap → Option R) (n : Nat) (v0 v1 v4 v12 v13 : V) (H : Heap) : Option R :=
 (slices_partitionCmpFunc_api_Tri.r_l2_lp bd call n n v0 v1 v4 v12 v13 H)
theorem slices_partitionCmpFunc_api_Tri.r_p1_e (n : Nat) : slices_partitionCmpFunc_api_Tri.r_p1 @bdI (callA C n) n = slices_partitionCmpFunc_api_Tri.p1 n := by
  funext v0 v1 v4 v12 v13 H
  unfold slices_partitionCmpFunc_api_Tri.r_p1
  rewrite [slices_partitionCmpFunc_api_Tri.r_l2_lp_e]
  kernel_rfl
noncomputable def slices_partitionCmpFunc_api_Tri.r_l0 (bd : B3) (call : FuncId → List V → Heap → Option R) (n : Nat) (s0 : V → V → V → V → V → Heap → Option R) (v0 v1 v4 v12 v13 : V) (H : Heap) : Option R :=
 (bd (arA .leq v12 v13) fun t34_1 =>
 (bd (asB t34_1) fun b2 =>
 if b2 = true then
 (bd (idxS 9 v0 v12) fun t39_3 =>
 (bd (ldN 9 t39_3 (H.more 0)) fun t40_4 =>
 (bd (idxS 9 v0 v1) fun t43_5 =>
 (bd (ldN 9 t43_5 (H.more 0)) fun t44_6 =>
 (bd (callV call v4 [t40_4, t44_6] (H.more 0)) fun r7 =>
 (bd (arA .lss r7.1 (.int .i64 0)) fun t46_8 =>
 (bd (asB t46_8) fun b9 =>
 if b9 = true then
 (bd (arA .add v12 (.int .i64 1)) fun t49_10 =>
 (s0 v0 v1 v4 t49_10 v13 r7.2))
 else
 (slices_partitionCmpFunc_api_Tri.r_p1 bd call n v0 v1 v4 v12 v13 r7.2))))))))
 else
 (slices_partitionCmpFunc_api_Tri.r_p1 bd call n v0 v1 v4 v12 v13 (H.more 0))))
theorem slices_partitionCmpFunc_api_Tri.r_l0_e (n m0 : Nat) : slices_partitionCmpFunc_api_Tri.r_l0 @bdI (callA C n) n (slices_partitionCmpFunc_api_Tri.l0 n m0) = slices_partitionCmpFunc_api_Tri.l0 n (m0 + 1) := by
  funext v0 v1 v4 v12 v13 H
  unfold slices_partitionCmpFunc_api_Tri.r_l0
  rewrite [slices_partitionCmpFunc_api_Tri.r_p1_e]
  kernel_rfl
noncomputable def slices_partitionCmpFunc_api_Tri.r_l0_lp (bd : B3) (call : FuncId → List V → Heap → Option R) (n : Nat) (m : Nat) : V → V → V → V → V → Heap → Option R := Nat.rec (motive := fun _ => V → V → V → V → V → Heap → Option R) (fun _ _ _ _ _ _ => none) (fun _ self => slices_partitionCmpFunc_api_Tri.r_l0 bd call n self) m
theorem slices_partitionCmpFunc_api_Tri.r_l0_lp_e (n : Nat) : slices_partitionCmpFunc_api_Tri.r_l0_lp @bdI (callA C n) n = slices_partitionCmpFunc_api_Tri.l0 n := by
  funext m
  induction m with
  | zero => funext v0 v1 v4 v12 v13 H; kernel_rfl
  | succ k ih => exact (congrArg (slices_partitionCmpFunc_api_Tri.r_l0 @bdI (callA C n) n) ih).trans (slices_partitionCmpFunc_api_Tri.r_l0_e n k)
noncomputable def slices_partitionCmpFunc_api_Tri.r (bd : B3) (call : FuncId → List V → Heap → Option R) (n : Nat) (v0 v1 v2 v3 v4 : V) (H : Heap) : Option R :=
 (bd (idxS 9 v0 v3) fun t20_1 =>
 (bd (ldN 9 t20_1 (H.more 0)) fun t21_2 =>
 (bd (idxS 9 v0 v1) fun t24_3 =>
 (bd (ldN 9 t24_3 (H.more 0)) fun t25_4 =>
 (bd (idxS 9 v0 v1) fun t26_5 =>
 (bd (stA 9 t26_5 t21_2 (H.more 0)) fun H6 =>
 (bd (idxS 9 v0 v3) fun t27_7 =>
 (bd (stA 9 t27_7 t25_4 H6) fun H8 =>
 (bd (arA .add v1 (.int .i64 1)) fun t29_9 =>
 (bd (arA .sub v2 (.int .i64 1)) fun t31_10 =>
 (slices_partitionCmpFunc_api_Tri.r_l0_lp bd call n n v0 v1 v4 t29_9 t31_10 H8)))))))))))
theorem slices_partitionCmpFunc_api_Tri.r_e (n : Nat) (v0 v1 v2 v3 v4 : V) (H : Heap) : slices_partitionCmpFunc_api_Tri.r @bdI (callA C n) n v0 v1 v2 v3 v4 H = E C n 81 [] (argsA 0 [v0, v1, v2, v3, v4]) H (kR C 81) := by
  unfold slices_partitionCmpFunc_api_Tri.r
  rewrite [slices_partitionCmpFunc_api_Tri.r_l0_lp_e]
  kernel_rfl
noncomputable def slices_partitionCmpFunc_api_Tri.rf (bd : B3) (call : FuncId → List V → Heap → Option R) (n : Nat) (a : List V) (H : Heap) : Option R := (match a with | [v0, v1, v2, v3, v4] => slices_partitionCmpFunc_api_Tri.r bd call n v0 v1 v2 v3 v4 H | a => E C n 81 [] (argsA 0 a) H (kR C 81))
theorem slices_partitionCmpFunc_api_Tri.rf_b (n : Nat) (a : List V) (H : Heap) : (match a with | [v0, v1, v2, v3, v4] => slices_partitionCmpFunc_api_Tri.r @bdI (callA C n) n v0 v1 v2 v3 v4 H | a => E C n 81 [] (argsA 0 a) H (kR C 81)) = E C n 81 [] (argsA 0 a) H (kR C 81) := by
  split
  · exact slices_partitionCmpFunc_api_Tri.r_e n _ _ _ _ _ H
  · rfl
theorem slices_partitionCmpFunc_api_Tri.rf_e (n : Nat) (a : List V) (H : Heap) : slices_partitionCmpFunc_api_Tri.rf @bdI (callA C n) n a H = callA C (n + 1) 81 a H := by
  unfold slices_partitionCmpFunc_api_Tri.rf
  refine (slices_partitionCmpFunc_api_Tri.rf_b n a H).trans ?_
  kernel_rfl
@[irreducible] noncomputable def math_bits_Len32.p0 (n : Nat) (v0 v2 : V) (H : Heap) : Option R := E C n 82 [1, 1] [(0, v0), (2, v2)] H (kR C 82)
@[irreducible] noncomputable def math_bits_Len32.p1 (n : Nat) (v0 v2 : V) (H : Heap) : Option R := E C n 82 [1, 1, 1] [(0, v0), (2, v2)] H (kR C 82)
noncomputable def math_bits_Len32.r_p1 (bd : B3) (call : FuncId → List V → Heap → Option R) (n : Nat) (v0 v2 : V) (H : Heap) : Option R :=
 (bd (cvInt .u8 v0) fun t15_1 =>
 (bd (ixStr (.str [0, 1, 2, 2, 3, 3, 3, 3, 4, 4, 4, 4, 4, 4, 4, 4, 5, 5, 5, 5, 5, 5, 5, 5, 5, 5, 5, 5, 5, 5, 5, 5, 6, 6, 6, 6, 6, 6, 6, 6, 6, 6, 6, 6, 6, 6, 6, 6, 6, 6, 6, 6, 6, 6, 6, 6, 6, 6, 6, 6, 6, 6, 6, 6, 7, 7, 7, 7, 7, 7, 7, 7, 7, 7, 7, 7, 7, 7, 7, 7, 7, 7, 7, 7, 7, 7, 7, 7, 7, 7, 7, 7, 7, 7, 7, 7, 7, 7, 7, 7, 7, 7, 7, 7, 7, 7, 7, 7, 7, 7, 7, 7, 7, 7, 7, 7, 7, 7, 7, 7, 7, 7, 7, 7, 7, 7, 7, 7, 8, 8, 8, 8, 8, 8, 8, 8, 8, 8, 8, 8, 8, 8, 8, 8, 8, 8, 8, 8, 8, 8, 8, 8, 8, 8, 8, 8, 8, 8, 8, 8, 8, 8, 8, 8, 8, 8, 8, 8, 8, 8, 8, 8, 8, 8, 8, 8, 8, 8, 8, 8, 8, 8, 8, 8, 8, 8, 8, 8, 8, 8, 8, 8, 8, 8, 8, 8, 8, 8, 8, 8, 8, 8, 8, 8, 8, 8, 8, 8, 8, 8, 8, 8, 8, 8, 8, 8, 8, 8, 8, 8, 8, 8, 8, 8, 8, 8, 8, 8, 8, 8, 8, 8, 8, 8, 8, 8, 8, 8, 8, 8, 8, 8, 8, 8, 8, 8, 8, 8, 8, 8, 8, 8, 8, 8, 8, 8]) t15_1) fun t16_2 =>
 (bd (cvInt .i64 t16_2) fun t17_3 =>
 (bd (arA .add v2 t17_3) fun t18_4 =>
 (some (t18_4, H))))))
theorem math_bits_Len32.r_p1_e (n : Nat) : math_bits_Len32.r_p1 @bdI (callA C n) n = math_bits_Len32.p1 n := by
  funext v0 v2 H
  unfold math_bits_Len32.r_p1
  kernel_rfl
noncomputable def math_bits_Len32.r_p0 (bd : B3) (call : FuncId → List V → Heap → Option R) (n : Nat) (v0 v2 : V) (H : Heap) : Option R :=
 (bd (arA .geq v0 (.int .u32 256)) fun t8_1 =>
 (bd (asB t8_1) fun b2 =>
 if b2 = true then
 (bd (shA .shr v0 (.int .u64 8)) fun t10_3 =>
 (bd (arA .add v2 (.int .i64 8)) fun t12_4 =>
 (math_bits_Len32.r_p1 bd call n t10_3 t12_4 H)))
 else
 (math_bits_Len32.r_p1 bd call n v0 v2 H)))
theorem math_bits_Len32.r_p0_e (n : Nat) : math_bits_Len32.r_p0 @bdI (callA C n) n = math_bits_Len32.p0 n := by
  funext v0 v2 H
  unfold math_bits_Len32.r_p0
  rewrite [math_bits_Len32.r_p1_e]
  kernel_rfl
noncomputable def math_bits_Len32.r (bd : B3) (call : FuncId → List V → Heap → Option R) (n : Nat) (v0 : V) (H : Heap) : Option R :=
 (bd (arA .geq v0 (.int .u32 65536)) fun t4_1 =>
 (bd (asB t4_1) fun b2 =>
 if b2 = true then
 (bd (shA .shr v0 (.int .u64 16)) fun t6_3 =>
 (math_bits_Len32.r_p0 bd call n t6_3 (.int .i64 16) H))
 else
 (math_bits_Len32.r_p0 bd call n v0 (.int .i64 0) H)))
theorem math_bits_Len32.r_e (n : Nat) (v0 : V) (H : Heap) : math_bits_Len32.r @bdI (callA C n) n v0 H = E C n 82 [] (argsA 0 [v0]) H (kR C 82) := by
  unfold math_bits_Len32.r
  rewrite [math_bits_Len32.r_p0_e]
  kernel_rfl
noncomputable def math_bits_Len32.rf (bd : B3) (call : FuncId → List V → Heap → Option R) (n : Nat) (a : List V) (H : Heap) : Option R := (match a with | [v0] => math_bits_Len32.r bd call n v0 H | a => E C n 82 [] (argsA 0 a) H (kR C 82))
theorem math_bits_Len32.rf_b (n : Nat) (a : List V) (H : Heap) : (match a with | [v0] => math_bits_Len32.r @bdI (callA C n) n v0 H | a => E C n 82 [] (argsA 0 a) H (kR C 82)) = E C n 82 [] (argsA 0 a) H (kR C 82) := by
  split
  · exact math_bits_Len32.r_e n _ H
  · rfl
theorem math_bits_Len32.rf_e (n : Nat) (a : List V) (H : Heap) : math_bits_Len32.rf @bdI (callA C n) n a H = callA C (n + 1) 82 a H := by
  unfold math_bits_Len32.rf
  refine (math_bits_Len32.rf_b n a H).trans ?_
  kernel_rfl
@[irreducible] noncomputable def math_bits_Len64.p0 (n : Nat) (v0 v2 : V) (H : Heap) : Option R := E C n 83 [1, 1] [(0, v0), (2, v2)] H (kR C 83)
@[irreducible] noncomputable def math_bits_Len64.p1 (n : Nat) (v0 v2 : V) (H : Heap) : Option R := E C n 83 [1, 1, 1] [(0, v0), (2, v2)] H (kR C 83)
@[irreducible] noncomputable def math_bits_Len64.p2 (n : Nat) (v0 v2 : V) (H : Heap) : Option R := E C n 83 [1, 1, 1, 1] [(0, v0), (2, v2)] H (kR C 83)
noncomputable def math_bits_Len64.r_p2 (bd : B3) (call : FuncId → List V → Heap → Option R) (n : Nat) (v0 v2 : V) (H : Heap) : Option R :=
 (bd (cvInt .u8 v0) fun t21_1 =>
 (bd (ixStr (.str [0, 1, 2, 2, 3, 3, 3, 3, 4, 4, 4, 4, 4, 4, 4, 4, 5, 5, 5, 5, 5, 5, 5, 5, 5, 5, 5, 5, 5, 5, 5, 5, 6, 6, 6, 6, 6, 6, 6, 6, 6, 6, 6, 6, 6, 6, 6, 6, 6, 6, 6, 6, 6, 6, 6, 6, 6, 6, 6, 6, 6, 6, 6, 6, 7, 7, 7, 7, 7, 7, 7, 7, 7, 7, 7, 7, 7, 7, 7, 7, 7, 7, 7, 7, 7, 7, 7, 7, 7, 7, 7, 7, 7, 7, 7, 7, 7, 7, 7, 7, 7, 7, 7, 7, 7, 7, 7, 7, 7, 7, 7, 7, 7, 7, 7, 7, 7, 7, 7, 7, 7, 7, 7, 7, 7, 7, 7, 7, 8, 8, 8, 8, 8, 8, 8, 8, 8, 8, 8, 8, 8, 8, 8, 8, 8, 8, 8, 8, 8, 8, 8, 8, 8, 8, 8, 8, 8, 8, 8, 8, 8, 8, 8, 8, 8, 8, 8, 8, 8, 8, 8, 8, 8, 8, 8, 8, 8, 8, 8, 8, 8, 8, 8, 8, 8, 8, 8, 8, 8, 8, 8, 8, 8, 8, 8, 8, 8, 8, 8, 8, 8, 8, 8, 8, 8, 8, 8, 8, 8, 8, 8, 8, 8, 8, 8, 8, 8, 8, 8, 8, 8, 8, 8, 8, 8, 8, 8, 8, 8, 8, 8, 8, 8, 8, 8, 8, 8, 8, 8, 8, 8, 8, 8, 8, 8, 8, 8, 8, 8, 8, 8, 8, 8, 8, 8, 8]) t21_1) fun t22_2 =>
 (bd (cvInt .i64 t22_2) fun t23_3 =>
 (bd (arA .add v2 t23_3) fun t24_4 =>
 (some (t24_4, H))))))
theorem math_bits_Len64.r_p2_e (n : Nat) : math_bits_Len64.r_p2 @bdI (callA C n) n = math_bits_Len64.p2 n := by
  funext v0 v2 H
  unfold math_bits_Len64.r_p2
  kernel_rfl
noncomputable def math_bits_Len64.r_p1 (bd : B3) (call : FuncId → List V → Heap → Option R) (n : Nat) (v0 v2 : V) (H : Heap) : Option R :=
 (bd (arA .geq v0 (.int .u64 256)) fun t14_1 =>
 (bd (asB t14_1) fun b2 =>
 if b2 = true then
 (bd (shA .shr v0 (.int .u64 8)) fun t16_3 =>
 (bd (arA .add v2 (.int .i64 8)) fun t18_4 =>
 (math_bits_Len64.r_p2 bd call n t16_3 t18_4 H)))
 else
 (math_bits_Len64.r_p2 bd call n v0 v2 H)))
theorem math_bits_Len64.r_p1_e (n : Nat) : math_bits_Len64.r_p1 @bdI (callA C n) n = math_bits_Len64.p1 n := by
  funext v0 v2 H
  unfold math_bits_Len64.r_p1
  rewrite [math_bits_Len64.r_p2_e]
  kernel_rfl
noncomputable def math_bits_Len64.r_p0 (bd : B3) (call : FuncId → List V → Heap → Option R) (n : Nat) (v0 v2 : V) (H : Heap) : Option R :=
 (bd (arA .geq v0 (.int .u64 65536)) fun t8_1 =>
 (bd (asB t8_1) fun b2 =>
 if b2 = true then
 (bd (shA .shr v0 (.int .u64 16)) fun t10_3 =>
 (bd (arA .add v2 (.int .i64 16)) fun t12_4 =>
 (math_bits_Len64.r_p1 bd call n t10_3 t12_4 H)))
 else
 (math_bits_Len64.r_p1 bd call n v0 v2 H)))
theorem math_bits_Len64.r_p0_e (n : Nat) : math_bits_Len64.r_p0 @bdI (callA C n) n = math_bits_Len64.p0 n := by
  funext v0 v2 H
  unfold math_bits_Len64.r_p0
  rewrite [math_bits_Len64.r_p1_e]
  kernel_rfl
noncomputable def math_bits_Len64.r (bd : B3) (call : FuncId → List V → Heap → Option R) (n : Nat) (v0 : V) (H : Heap) : Option R :=
 (bd (arA .geq v0 (.int .u64 4294967296)) fun t4_1 =>
 (bd (asB t4_1) fun b2 =>
 if b2 = true then
 (bd (shA .shr v0 (.int .u64 32)) fun t6_3 =>
 (math_bits_Len64.r_p0 bd call n t6_3 (.int .i64 32) H))
 else
 (math_bits_Len64.r_p0 bd call n v0 (.int .i64 0) H)))
theorem math_bits_Len64.r_e (n : Nat) (v0 : V) (H : Heap) : math_bits_Len64.r @bdI (callA C n) n v0 H = E C n 83 [] (argsA 0 [v0]) H (kR C 83) := by
  unfold math_bits_Len64.r
  rewrite [math_bits_Len64.r_p0_e]
  kernel_rfl
noncomputable def math_bits_Len64.rf (bd : B3) (call : FuncId → List V → Heap → Option R) (n : Nat) (a : List V) (H : Heap) : Option R := (match a with | [v0] => math_bits_Len64.r bd call n v0 H | a => E C n 83 [] (argsA 0 a) H (kR C 83))
theorem math_bits_Len64.rf_b (n : Nat) (a : List V) (H : Heap) : (match a with | [v0] => math_bits_Len64.r @bdI (callA C n) n v0 H | a => E C n 83 [] (argsA 0 a) H (kR C 83)) = E C n 83 [] (argsA 0 a) H (kR C 83) := by
  split
  · exact math_bits_Len64.r_e n _ H
  · rfl
theorem math_bits_Len64.rf_e (n : Nat) (a : List V) (H : Heap) : math_bits_Len64.rf @bdI (callA C n) n a H = callA C (n + 1) 83 a H := by
  unfold math_bits_Len64.rf
  refine (math_bits_Len64.rf_b n a H).trans ?_
  kernel_rfl
@[irreducible] noncomputable def cmp_Or_int.l0 (n m0 : Nat) (v3 v6 v7 v8 : V) (H : Heap) : Option R := Lp C n 84 [1, 1, 0, 1, 0, 0] m0 [(3, v3), (6, v6), (7, v7), (8, v8)] H (kB 0 (kC C n 84 [1, 1, 1] (kR C 84)))
noncomputable def cmp_Or_int.r_l0 (bd : B3) (call : FuncId → List V → Heap → Option R) (n : Nat) (s0 : V → V → V → V → Heap → Option R) (v3 v6 v7 v8 : V) (H : Heap) : Option R :=
 (bd (arA .lss v8 v7) fun t9_1 =>
 (bd (asB t9_1) fun b2 =>
 if b2 = true then
 (bd (idxS 1 v6 v8) fun t10_3 =>
 (bd (ld1 t10_3 H) fun t11_4 =>
 (bd (arA .neq t11_4 v3) fun t14_5 =>
 (bd (asB t14_5) fun b6 =>
 if b6 = true then
 (some (t11_4, H))
 else
 (bd (arA .add v8 (.int .i64 1)) fun t16_7 =>
 (s0 v3 v6 v7 t16_7 H))))))
 else
 (some (v3, H))))
theorem cmp_Or_int.r_l0_e (n m0 : Nat) : cmp_Or_int.r_l0 @bdI (callA C n) n (cmp_Or_int.l0 n m0) = cmp_Or_int.l0 n (m0 + 1) := by
  funext v3 v6 v7 v8 H
  unfold cmp_Or_int.r_l0
  kernel_rfl
noncomputable def cmp_Or_int.r_l0_lp (bd : B3) (call : FuncId → List V → Heap → Option R) (n : Nat) (m : Nat) : V → V → V → V → Heap → Option R := Nat.rec (motive := fun _ => V → V → V → V → Heap → Option R) (fun _ _ _ _ _ => none) (fun _ self => cmp_Or_int.r_l0 bd call n self) m
theorem cmp_Or_int.r_l0_lp_e (n : Nat) : cmp_Or_int.r_l0_lp @bdI (callA C n) n = cmp_Or_int.l0 n := by
  funext m
  induction m with
  | zero => funext v3 v6 v7 v8 H; kernel_rfl
  | succ k ih => exact (congrArg (cmp_Or_int.r_l0 @bdI (callA C n) n) ih).trans (cmp_Or_int.r_l0_e n k)
noncomputable def cmp_Or_int.r (bd : B3) (call : FuncId → List V → Heap → Option R) (n : Nat) (v0 : V) (H : Heap) : Option R :=
 (bd (lenSl v0) fun t7_1 =>
 (cmp_Or_int.r_l0_lp bd call n n (.int .i64 0) v0 t7_1 (.int .i64 0) H))
theorem cmp_Or_int.r_e (n : Nat) (v0 : V) (H : Heap) : cmp_Or_int.r @bdI (callA C n) n v0 H = E C n 84 [] (argsA 0 [v0]) H (kR C 84) := by
  unfold cmp_Or_int.r
  rewrite [cmp_Or_int.r_l0_lp_e]
  kernel_rfl
noncomputable def cmp_Or_int.rf (bd : B3) (call : FuncId → List V → Heap → Option R) (n : Nat) (a : List V) (H : Heap) : Option R := (match a with | [v0] => cmp_Or_int.r bd call n v0 H | a => E C n 84 [] (argsA 0 a) H (kR C 84))
theorem cmp_Or_int.rf_b (n : Nat) (a : List V) (H : Heap) : (match a with | [v0] => cmp_Or_int.r @bdI (callA C n) n v0 H | a => E C n 84 [] (argsA 0 a) H (kR C 84)) = E C n 84 [] (argsA 0 a) H (kR C 84) := by
  split
  · exact cmp_Or_int.r_e n _ H
  · rfl
theorem cmp_Or_int.rf_e (n : Nat) (a : List V) (H : Heap) : cmp_Or_int.rf @bdI (callA C n) n a H = callA C (n + 1) 84 a H := by
  unfold cmp_Or_int.rf
  refine (cmp_Or_int.rf_b n a H).trans ?_
  kernel_rfl
end Go.AM.L
end
section
set_option linter.unusedVariables false
set_option linter.unusedSimpArgs false
set_option maxRecDepth 1000000
set_option linter.unusedVariables false
namespace Go.AM.L
noncomputable def cmp_Compare_int.r (bd : B3) (call : FuncId → List V → Heap → Option R) (n : Nat) (v0 v1 : V) (H : Heap) : Option R :=
 (bd (call 119 [v0] H) fun r1 =>
 (bd (call 119 [v1] r1.2) fun r2 =>
 (bd (asB r1.1) fun b3 =>
 if b3 = true then
 (bd (asB r2.1) fun b4 =>
 if b4 = true then
 (some ((.int .i64 0), r2.2))
 else
 (some ((.int .i64 (-1)), r2.2)))
 else
 (bd (asB r2.1) fun b5 =>
 if b5 = true then
 (some ((.int .i64 1), r2.2))
 else
 (bd (arA .lss v0 v1) fun t16_6 =>
 (bd (asB t16_6) fun b7 =>
 if b7 = true then
 (some ((.int .i64 (-1)), r2.2))
 else
 (bd (arA .gtr v0 v1) fun t19_8 =>
 (bd (asB t19_8) fun b9 =>
 if b9 = true then
 (some ((.int .i64 1), r2.2))
 else
 (some ((.int .i64 0), r2.2))))))))))
theorem cmp_Compare_int.r_e (n : Nat) (v0 v1 : V) (H : Heap) : cmp_Compare_int.r @bdI (callA C n) n v0 v1 H = E C n 85 [] (argsA 0 [v0, v1]) H (kR C 85) := by
  unfold cmp_Compare_int.r
  kernel_rfl
noncomputable def cmp_Compare_int.rf (bd : B3) (call : FuncId → List V → Heap → Option R) (n : Nat) (a : List V) (H : Heap) : Option R := (match a with | [v0, v1] => cmp_Compare_int.r bd call n v0 v1 H | a => E C n 85 [] (argsA 0 a) H (kR C 85))
theorem cmp_Compare_int.rf_b (n : Nat) (a : List V) (H : Heap) : (match a with | [v0, v1] => cmp_Compare_int.r @bdI (callA C n) n v0 v1 H | a => E C n 85 [] (argsA 0 a) H (kR C 85)) = E C n 85 [] (argsA 0 a) H (kR C 85) := by
  split
  · exact cmp_Compare_int.r_e n _ _ H
  · rfl
theorem cmp_Compare_int.rf_e (n : Nat) (a : List V) (H : Heap) : cmp_Compare_int.rf @bdI (callA C n) n a H = callA C (n + 1) 85 a H := by
  unfold cmp_Compare_int.rf
  refine (cmp_Compare_int.rf_b n a H).trans ?_
  kernel_rfl
noncomputable def arena_Arena_live.r (bd : B3) (call : FuncId → List V → Heap → Option R) (n : Nat) (v0 v1 : V) (H : Heap) : Option R :=
 (bd (eqlA P ty_p_arena_Arena v0 (.ptr none)) fun t8_1 =>
 (bd (asB t8_1) fun b2 =>
 if b2 = true then
 (some ((.bool false), H))
 else
 (bd (arA .lss v1 (.int .i64 0)) fun t11_3 =>
 (bd (asB t11_3) fun b4 =>
 if b4 = true then
 (some ((.bool false), H))
 else
 (bd (nilC v0) fun t16_5 =>
 (bd (faA 0 t16_5) fun t17_6 =>
 (bd (ld1 t17_6 H) fun t18_7 =>
 (bd (lenSl t18_7) fun t19_8 =>
 (bd (arA .geq v1 t19_8) fun t20_9 =>
 (bd (asB t20_9) fun b10 =>
 if b10 = true then
 (some ((.bool false), H))
 else
 (bd (nilC v0) fun t24_11 =>
 (bd (faA 0 t24_11) fun t25_12 =>
 (bd (ld1 t25_12 H) fun t26_13 =>
 (bd (idxS 1 t26_13 v1) fun t28_14 =>
 (bd (ld1 t28_14 H) fun t29_15 =>
 (bd (asOk ty_int (.int .i64 0) t29_15) fun t30_16 =>
 (bd (extA t30_16 0) fun t31_17 =>
 (bd (extA t30_16 1) fun t32_18 =>
 (bd (asB t32_18) fun b19 =>
 if b19 = true then
 (bd (arA .eql t31_17 (.int .i64 (-2))) fun t36_20 =>
 (some (t36_20, H)))
 else
 (some ((.bool false), H)))))))))))))))))))))
theorem arena_Arena_live.r_e (n : Nat) (v0 v1 : V) (H : Heap) : arena_Arena_live.r @bdI (callA C n) n v0 v1 H = E C n 86 [] (argsA 0 [v0, v1]) H (kR C 86) := by
  unfold arena_Arena_live.r
  kernel_rfl
noncomputable def arena_Arena_live.rf (bd : B3) (call : FuncId → List V → Heap → Option R) (n : Nat) (a : List V) (H : Heap) : Option R := (match a with | [v0, v1] => arena_Arena_live.r bd call n v0 v1 H | a => E C n 86 [] (argsA 0 a) H (kR C 86))
theorem arena_Arena_live.rf_b (n : Nat) (a : List V) (H : Heap) : (match a with | [v0, v1] => arena_Arena_live.r @bdI (callA C n) n v0 v1 H | a => E C n 86 [] (argsA 0 a) H (kR C 86)) = E C n 86 [] (argsA 0 a) H (kR C 86) := by
  split
  · exact arena_Arena_live.r_e n _ _ H
  · rfl
theorem arena_Arena_live.rf_e (n : Nat) (a : List V) (H : Heap) : arena_Arena_live.rf @bdI (callA C n) n a H = callA C (n + 1) 86 a H := by
  unfold arena_Arena_live.rf
  refine (arena_Arena_live.rf_b n a H).trans ?_
  kernel_rfl
noncomputable def lift_At.r (bd : B3) (call : FuncId → List V → Heap → Option R) (n : Nat) (v0 v1 v2 : V) (H : Heap) : Option R :=
 (bd (boxA ty_api_Point v0) fun o1 =>
 (bd (boxA ty_api_Off v1) fun o2 =>
 (bd (ldN 2 (.ptr (some (H.n, 0))) (((H.push o1).push o2).push (.cells [(.int .i64 0), (.int .i64 0)] ty_api_Point false))) fun t8_3 =>
 (bd (ldN 2 (.ptr (some ((H.push o1).n, 0))) (((H.push o1).push o2).push (.cells [(.int .i64 0), (.int .i64 0)] ty_api_Point false))) fun t9_4 =>
 (bd (call 120 [t8_3, t9_4, v2] (((H.push o1).push o2).push (.cells [(.int .i64 0), (.int .i64 0)] ty_api_Point false))) fun r5 =>
 (bd (extA r5.1 0) fun t12_6 =>
 (bd (extA r5.1 1) fun t13_7 =>
 (bd (stA 2 (.ptr (some (((H.push o1).push o2).n, 0))) t12_6 r5.2) fun H8 =>
 (bd (ldN 2 (.ptr (some (((H.push o1).push o2).n, 0))) H8) fun t9 =>
 (some (.tuple [t9, t13_7], H8)))))))))))
theorem lift_At.r_e (n : Nat) (v0 v1 v2 : V) (H : Heap) : lift_At.r @bdI (callA C n) n v0 v1 v2 H = E C n 87 [] (argsA 0 [v0, v1, v2]) H (kR C 87) := by
  unfold lift_At.r
  kernel_rfl
noncomputable def lift_At.rf (bd : B3) (call : FuncId → List V → Heap → Option R) (n : Nat) (a : List V) (H : Heap) : Option R := pureA a H fun a => (match a with | [v0, v1, v2] => lift_At.r bd call n v0 v1 v2 ⟨0, .nil⟩ | a => E C n 87 [] (argsA 0 a) ⟨0, .nil⟩ (kR C 87))
theorem lift_At.rf_b (n : Nat) (a : List V) (H : Heap) : (match a with | [v0, v1, v2] => lift_At.r @bdI (callA C n) n v0 v1 v2 H | a => E C n 87 [] (argsA 0 a) H (kR C 87)) = E C n 87 [] (argsA 0 a) H (kR C 87) := by
  split
  · exact lift_At.r_e n _ _ _ H
  · rfl
theorem lift_At.rf_e (n : Nat) (a : List V) (H : Heap) : lift_At.rf @bdI (callA C n) n a H = callA C (n + 1) 87 a H := by
  unfold lift_At.rf
  refine (congrArg (pureA a H) (funext fun a => lift_At.rf_b n a ⟨0, .nil⟩)).trans ?_
  kernel_rfl
@[irreducible] noncomputable def pred_can.l0 (n m0 : Nat) (v5 v6 v7 : V) (H : Heap) : Option R := Lp C n 88 [1, 0, 1, 0, 0] m0 [(5, v5), (6, v6), (7, v7)] H (kB 0 (kC C n 88 [1, 1] (kR C 88)))
noncomputable def pred_can.r_l0 (bd : B3) (call : FuncId → List V → Heap → Option R) (n : Nat) (s0 : V → V → V → Heap → Option R) (v5 v6 v7 : V) (H : Heap) : Option R :=
 (bd (arA .lss v7 v6) fun t8_1 =>
 (bd (asB t8_1) fun b2 =>
 if b2 = true then
 (bd (idxS 2 v5 v7) fun t9_3 =>
 (bd (ldN 2 t9_3 H) fun t10_4 =>
 (bd (stA 2 (.ptr (some (H.n, 0))) t10_4 (H.push (.cells [(.int .i64 0), (.int .i64 0)] ty_api_Point false))) fun H5 =>
 (bd (ldN 2 (.ptr (some (H.n, 0))) H5) fun t11_6 =>
 (bd (call 93 [t11_6] H5) fun r7 =>
 (bd (unA .not r7.1) fun t13_8 =>
 (bd (asB t13_8) fun b9 =>
 if b9 = true then
 (some ((.bool false), r7.2))
 else
 (bd (arA .add v7 (.int .i64 1)) fun t14_10 =>
 (s0 v5 v6 t14_10 r7.2)))))))))
 else
 (some ((.bool true), H))))
theorem pred_can.r_l0_e (n m0 : Nat) : pred_can.r_l0 @bdI (callA C n) n (pred_can.l0 n m0) = pred_can.l0 n (m0 + 1) := by
  funext v5 v6 v7 H
  unfold pred_can.r_l0
  kernel_rfl
noncomputable def pred_can.r_l0_lp (bd : B3) (call : FuncId → List V → Heap → Option R) (n : Nat) (m : Nat) : V → V → V → Heap → Option R := Nat.rec (motive := fun _ => V → V → V → Heap → Option R) (fun _ _ _ _ => none) (fun _ self => pred_can.r_l0 bd call n self) m
theorem pred_can.r_l0_lp_e (n : Nat) : pred_can.r_l0_lp @bdI (callA C n) n = pred_can.l0 n := by
  funext m
  induction m with
  | zero => funext v5 v6 v7 H; kernel_rfl
  | succ k ih => exact (congrArg (pred_can.r_l0 @bdI (callA C n) n) ih).trans (pred_can.r_l0_e n k)
noncomputable def pred_can.r (bd : B3) (call : FuncId → List V → Heap → Option R) (n : Nat) (v0 : V) (H : Heap) : Option R :=
 (bd (lenSl v0) fun t6_1 =>
 (pred_can.r_l0_lp bd call n n v0 t6_1 (.int .i64 0) H))
theorem pred_can.r_e (n : Nat) (v0 : V) (H : Heap) : pred_can.r @bdI (callA C n) n v0 H = E C n 88 [] (argsA 0 [v0]) H (kR C 88) := by
  unfold pred_can.r
  rewrite [pred_can.r_l0_lp_e]
  kernel_rfl
noncomputable def pred_can.rf (bd : B3) (call : FuncId → List V → Heap → Option R) (n : Nat) (a : List V) (H : Heap) : Option R := pureA a H fun a => (match a with | [v0] => pred_can.r bd call n v0 ⟨0, .nil⟩ | a => E C n 88 [] (argsA 0 a) ⟨0, .nil⟩ (kR C 88))
theorem pred_can.rf_b (n : Nat) (a : List V) (H : Heap) : (match a with | [v0] => pred_can.r @bdI (callA C n) n v0 H | a => E C n 88 [] (argsA 0 a) H (kR C 88)) = E C n 88 [] (argsA 0 a) H (kR C 88) := by
  split
  · exact pred_can.r_e n _ H
  · rfl
theorem pred_can.rf_e (n : Nat) (a : List V) (H : Heap) : pred_can.rf @bdI (callA C n) n a H = callA C (n + 1) 88 a H := by
  unfold pred_can.rf
  refine (congrArg (pureA a H) (funext fun a => pred_can.rf_b n a ⟨0, .nil⟩)).trans ?_
  kernel_rfl
noncomputable def pred_orient.r (bd : B3) (call : FuncId → List V → Heap → Option R) (n : Nat) (v0 v1 v2 : V) (H : Heap) : Option R :=
 (bd (boxA ty_api_Point v0) fun o1 =>
 (bd (boxA ty_api_Point v1) fun o2 =>
 (bd (boxA ty_api_Point v2) fun o3 =>
 (bd (ldN 2 (.ptr (some (H.n, 0))) ((((H.push o1).push o2).push o3).more 0)) fun t7_4 =>
 (bd (ldN 2 (.ptr (some ((H.push o1).n, 0))) ((((H.push o1).push o2).push o3).more 0)) fun t8_5 =>
 (bd (call 92 [t7_4, t8_5] ((((H.push o1).push o2).push o3).more 0)) fun r6 =>
 (bd (ldN 2 (.ptr (some (H.n, 0))) r6.2) fun t10_7 =>
 (bd (chk (ldN 2 (.ptr (some (H.n, 0))) ((((H.push o1).push o2).push o3).more 0)) t10_7) fun _ =>
 (bd (ldN 2 (.ptr (some (((H.push o1).push o2).n, 0))) r6.2) fun t11_8 =>
 (bd (chk (ldN 2 (.ptr (some (((H.push o1).push o2).n, 0))) ((((H.push o1).push o2).push o3).more 0)) t11_8) fun _ =>
 (bd (call 92 [t10_7, t11_8] r6.2) fun r9 =>
 (bd (call 91 [r6.1, r9.1] r9.2) fun r10 =>
 (bd (call 121 [r10.1] r10.2) fun r11 =>
 (some (r11.1, r11.2)))))))))))))))
theorem pred_orient.r_e (n : Nat) (v0 v1 v2 : V) (H : Heap) : pred_orient.r @bdI (callA C n) n v0 v1 v2 H = E C n 89 [] (argsA 0 [v0, v1, v2]) H (kR C 89) := by
  unfold pred_orient.r
  kernel_rfl
noncomputable def pred_orient.rf (bd : B3) (call : FuncId → List V → Heap → Option R) (n : Nat) (a : List V) (H : Heap) : Option R := pureA a H fun a => (match a with | [v0, v1, v2] => pred_orient.r bd call n v0 v1 v2 ⟨0, .nil⟩ | a => E C n 89 [] (argsA 0 a) ⟨0, .nil⟩ (kR C 89))
theorem pred_orient.rf_b (n : Nat) (a : List V) (H : Heap) : (match a with | [v0, v1, v2] => pred_orient.r @bdI (callA C n) n v0 v1 v2 H | a => E C n 89 [] (argsA 0 a) H (kR C 89)) = E C n 89 [] (argsA 0 a) H (kR C 89) := by
  split
  · exact pred_orient.r_e n _ _ _ H
  · rfl
theorem pred_orient.rf_e (n : Nat) (a : List V) (H : Heap) : pred_orient.rf @bdI (callA C n) n a H = callA C (n + 1) 89 a H := by
  unfold pred_orient.rf
  refine (congrArg (pureA a H) (funext fun a => pred_orient.rf_b n a ⟨0, .nil⟩)).trans ?_
  kernel_rfl
noncomputable def wide_add.r (bd : B3) (call : FuncId → List V → Heap → Option R) (n : Nat) (v0 v1 : V) (H : Heap) : Option R :=
 (bd (boxA ty_api_Wide v0) fun o1 =>
 (bd (boxA ty_api_Wide v1) fun o2 =>
 (bd (faA 1 (.ptr (some (H.n, 0)))) fun t10_3 =>
 (bd (ld1 t10_3 (((H.push o1).push o2).push (.cells [(.int .i64 0), (.int .u64 0)] ty_api_Wide false))) fun t11_4 =>
 (bd (faA 1 (.ptr (some ((H.push o1).n, 0)))) fun t12_5 =>
 (bd (ld1 t12_5 (((H.push o1).push o2).push (.cells [(.int .i64 0), (.int .u64 0)] ty_api_Wide false))) fun t13_6 =>
 (bd (call 122 [t11_4, t13_6, (.int .u64 0)] (((H.push o1).push o2).push (.cells [(.int .i64 0), (.int .u64 0)] ty_api_Wide false))) fun r7 =>
 (bd (extA r7.1 0) fun t15_8 =>
 (bd (extA r7.1 1) fun t16_9 =>
 (bd (faA 0 (.ptr (some (H.n, 0)))) fun t18_10 =>
 (bd (ld1 t18_10 r7.2) fun t19_11 =>
 (bd (cvInt .u64 t19_11) fun t20_12 =>
 (bd (faA 0 (.ptr (some ((H.push o1).n, 0)))) fun t21_13 =>
 (bd (ld1 t21_13 r7.2) fun t22_14 =>
 (bd (cvInt .u64 t22_14) fun t23_15 =>
 (bd (call 122 [t20_12, t23_15, t16_9] r7.2) fun r16 =>
 (bd (extA r16.1 0) fun t26_17 =>
 (bd (extA r16.1 1) fun t27_18 =>
 (bd (cvInt .i64 t26_17) fun t29_19 =>
 (bd (flA [(0, 1), (1, 1)] [(.int .i64 0), (.int .u64 0)] [(0, t29_19), (1, t15_8)]) fun t31_20 =>
 (bd (stA 2 (.ptr (some (((H.push o1).push o2).n, 0))) t31_20 r16.2) fun H21 =>
 (bd (ldN 2 (.ptr (some (((H.push o1).push o2).n, 0))) H21) fun t22 =>
 (some (t22, H21))))))))))))))))))))))))
theorem wide_add.r_e (n : Nat) (v0 v1 : V) (H : Heap) : wide_add.r @bdI (callA C n) n v0 v1 H = E C n 90 [] (argsA 0 [v0, v1]) H (kR C 90) := by
  unfold wide_add.r
  kernel_rfl
noncomputable def wide_add.rf (bd : B3) (call : FuncId → List V → Heap → Option R) (n : Nat) (a : List V) (H : Heap) : Option R := pureA a H fun a => (match a with | [v0, v1] => wide_add.r bd call n v0 v1 ⟨0, .nil⟩ | a => E C n 90 [] (argsA 0 a) ⟨0, .nil⟩ (kR C 90))
theorem wide_add.rf_b (n : Nat) (a : List V) (H : Heap) : (match a with | [v0, v1] => wide_add.r @bdI (callA C n) n v0 v1 H | a => E C n 90 [] (argsA 0 a) H (kR C 90)) = E C n 90 [] (argsA 0 a) H (kR C 90) := by
  split
  · exact wide_add.r_e n _ _ H
  · rfl
theorem wide_add.rf_e (n : Nat) (a : List V) (H : Heap) : wide_add.rf @bdI (callA C n) n a H = callA C (n + 1) 90 a H := by
  unfold wide_add.rf
  refine (congrArg (pureA a H) (funext fun a => wide_add.rf_b n a ⟨0, .nil⟩)).trans ?_
  kernel_rfl
noncomputable def pred_across.r (bd : B3) (call : FuncId → List V → Heap → Option R) (n : Nat) (v0 v1 : V) (H : Heap) : Option R :=
 (bd (boxA ty_api_Point v0) fun o1 =>
 (bd (boxA ty_api_Point v1) fun o2 =>
 (bd (faA 0 (.ptr (some (H.n, 0)))) fun t5_3 =>
 (bd (ld1 t5_3 ((((H.push o1).push o2).push (.cells [(.int .i64 0), (.int .u64 0)] ty_api_Wide false)).more 0)) fun t6_4 =>
 (bd (faA 1 (.ptr (some ((H.push o1).n, 0)))) fun t7_5 =>
 (bd (ld1 t7_5 ((((H.push o1).push o2).push (.cells [(.int .i64 0), (.int .u64 0)] ty_api_Wide false)).more 0)) fun t8_6 =>
 (bd (call 29 [t6_4, t8_6] ((((H.push o1).push o2).push (.cells [(.int .i64 0), (.int .u64 0)] ty_api_Wide false)).more 0)) fun r7 =>
 (bd (faA 1 (.ptr (some (H.n, 0)))) fun t10_8 =>
 (bd (ld1 t10_8 r7.2) fun t11_9 =>
 (bd (chk (ld1 t10_8 ((((H.push o1).push o2).push (.cells [(.int .i64 0), (.int .u64 0)] ty_api_Wide false)).more 0)) t11_9) fun _ =>
 (bd (faA 0 (.ptr (some ((H.push o1).n, 0)))) fun t12_10 =>
 (bd (ld1 t12_10 r7.2) fun t13_11 =>
 (bd (chk (ld1 t12_10 ((((H.push o1).push o2).push (.cells [(.int .i64 0), (.int .u64 0)] ty_api_Wide false)).more 0)) t13_11) fun _ =>
 (bd (call 29 [t11_9, t13_11] r7.2) fun r12 =>
 (bd (call 123 [r7.1, r12.1] r12.2) fun r13 =>
 (bd (stA 2 (.ptr (some (((H.push o1).push o2).n, 0))) r13.1 r13.2) fun H14 =>
 (bd (ldN 2 (.ptr (some (((H.push o1).push o2).n, 0))) H14) fun t15 =>
 (some (t15, H14)))))))))))))))))))
theorem pred_across.r_e (n : Nat) (v0 v1 : V) (H : Heap) : pred_across.r @bdI (callA C n) n v0 v1 H = E C n 91 [] (argsA 0 [v0, v1]) H (kR C 91) := by
  unfold pred_across.r
  kernel_rfl
noncomputable def pred_across.rf (bd : B3) (call : FuncId → List V → Heap → Option R) (n : Nat) (a : List V) (H : Heap) : Option R := pureA a H fun a => (match a with | [v0, v1] => pred_across.r bd call n v0 v1 ⟨0, .nil⟩ | a => E C n 91 [] (argsA 0 a) ⟨0, .nil⟩ (kR C 91))
theorem pred_across.rf_b (n : Nat) (a : List V) (H : Heap) : (match a with | [v0, v1] => pred_across.r @bdI (callA C n) n v0 v1 H | a => E C n 91 [] (argsA 0 a) H (kR C 91)) = E C n 91 [] (argsA 0 a) H (kR C 91) := by
  split
  · exact pred_across.r_e n _ _ H
  · rfl
theorem pred_across.rf_e (n : Nat) (a : List V) (H : Heap) : pred_across.rf @bdI (callA C n) n a H = callA C (n + 1) 91 a H := by
  unfold pred_across.rf
  refine (congrArg (pureA a H) (funext fun a => pred_across.rf_b n a ⟨0, .nil⟩)).trans ?_
  kernel_rfl
noncomputable def pred_way.r (bd : B3) (call : FuncId → List V → Heap → Option R) (n : Nat) (v0 v1 : V) (H : Heap) : Option R :=
 (bd (boxA ty_api_Point v0) fun o1 =>
 (bd (boxA ty_api_Point v1) fun o2 =>
 (bd (faA 0 (.ptr (some ((H.push o1).n, 0)))) fun t5_3 =>
 (bd (ld1 t5_3 (((H.push o1).push o2).push (.cells [(.int .i64 0), (.int .i64 0)] ty_api_Point false))) fun t6_4 =>
 (bd (faA 0 (.ptr (some (H.n, 0)))) fun t7_5 =>
 (bd (ld1 t7_5 (((H.push o1).push o2).push (.cells [(.int .i64 0), (.int .i64 0)] ty_api_Point false))) fun t8_6 =>
 (bd (arA .sub t6_4 t8_6) fun t9_7 =>
 (bd (faA 1 (.ptr (some ((H.push o1).n, 0)))) fun t10_8 =>
 (bd (ld1 t10_8 (((H.push o1).push o2).push (.cells [(.int .i64 0), (.int .i64 0)] ty_api_Point false))) fun t11_9 =>
 (bd (faA 1 (.ptr (some (H.n, 0)))) fun t12_10 =>
 (bd (ld1 t12_10 (((H.push o1).push o2).push (.cells [(.int .i64 0), (.int .i64 0)] ty_api_Point false))) fun t13_11 =>
 (bd (arA .sub t11_9 t13_11) fun t14_12 =>
 (bd (flA [(0, 1), (1, 1)] [(.int .i64 0), (.int .i64 0)] [(0, t9_7), (1, t14_12)]) fun t15_13 =>
 (bd (stA 2 (.ptr (some (((H.push o1).push o2).n, 0))) t15_13 (((H.push o1).push o2).push (.cells [(.int .i64 0), (.int .i64 0)] ty_api_Point false))) fun H14 =>
 (bd (ldN 2 (.ptr (some (((H.push o1).push o2).n, 0))) H14) fun t15 =>
 (some (t15, H14)))))))))))))))))
theorem pred_way.r_e (n : Nat) (v0 v1 : V) (H : Heap) : pred_way.r @bdI (callA C n) n v0 v1 H = E C n 92 [] (argsA 0 [v0, v1]) H (kR C 92) := by
  unfold pred_way.r
  kernel_rfl
noncomputable def pred_way.rf (bd : B3) (call : FuncId → List V → Heap → Option R) (n : Nat) (a : List V) (H : Heap) : Option R := pureA a H fun a => (match a with | [v0, v1] => pred_way.r bd call n v0 v1 ⟨0, .nil⟩ | a => E C n 92 [] (argsA 0 a) ⟨0, .nil⟩ (kR C 92))
theorem pred_way.rf_b (n : Nat) (a : List V) (H : Heap) : (match a with | [v0, v1] => pred_way.r @bdI (callA C n) n v0 v1 H | a => E C n 92 [] (argsA 0 a) H (kR C 92)) = E C n 92 [] (argsA 0 a) H (kR C 92) := by
  split
  · exact pred_way.r_e n _ _ H
  · rfl
theorem pred_way.rf_e (n : Nat) (a : List V) (H : Heap) : pred_way.rf @bdI (callA C n) n a H = callA C (n + 1) 92 a H := by
  unfold pred_way.rf
  refine (congrArg (pureA a H) (funext fun a => pred_way.rf_b n a ⟨0, .nil⟩)).trans ?_
  kernel_rfl
noncomputable def lift_Can.r (bd : B3) (call : FuncId → List V → Heap → Option R) (n : Nat) (v0 : V) (H : Heap) : Option R :=
 (bd (boxA ty_api_Point v0) fun o1 =>
 (bd (ldN 2 (.ptr (some (H.n, 0))) (H.push o1)) fun t3_2 =>
 (bd (call 124 [t3_2] (H.push o1)) fun r3 =>
 (some (r3.1, r3.2)))))
theorem lift_Can.r_e (n : Nat) (v0 : V) (H : Heap) : lift_Can.r @bdI (callA C n) n v0 H = E C n 93 [] (argsA 0 [v0]) H (kR C 93) := by
  unfold lift_Can.r
  kernel_rfl
noncomputable def lift_Can.rf (bd : B3) (call : FuncId → List V → Heap → Option R) (n : Nat) (a : List V) (H : Heap) : Option R := pureA a H fun a => (match a with | [v0] => lift_Can.r bd call n v0 ⟨0, .nil⟩ | a => E C n 93 [] (argsA 0 a) ⟨0, .nil⟩ (kR C 93))
theorem lift_Can.rf_b (n : Nat) (a : List V) (H : Heap) : (match a with | [v0] => lift_Can.r @bdI (callA C n) n v0 H | a => E C n 93 [] (argsA 0 a) H (kR C 93)) = E C n 93 [] (argsA 0 a) H (kR C 93) := by
  split
  · exact lift_Can.r_e n _ H
  · rfl
theorem lift_Can.rf_e (n : Nat) (a : List V) (H : Heap) : lift_Can.rf @bdI (callA C n) n a H = callA C (n + 1) 93 a H := by
  unfold lift_Can.rf
  refine (congrArg (pureA a H) (funext fun a => lift_Can.rf_b n a ⟨0, .nil⟩)).trans ?_
  kernel_rfl
noncomputable def tie_conflict.r (bd : B3) (call : FuncId → List V → Heap → Option R) (n : Nat) (v0 v1 v2 v3 : V) (H : Heap) : Option R :=
 (bd (boxA ty_api_Point v0) fun o1 =>
 (bd (boxA ty_api_Point v1) fun o2 =>
 (bd (boxA ty_api_Point v2) fun o3 =>
 (bd (boxA ty_api_Point v3) fun o4 =>
 (bd (ldN 2 (.ptr (some (H.n, 0))) ((((H.push o1).push o2).push o3).push o4)) fun t9_5 =>
 (bd (ldN 2 (.ptr (some ((H.push o1).n, 0))) ((((H.push o1).push o2).push o3).push o4)) fun t10_6 =>
 (bd (ldN 2 (.ptr (some (((H.push o1).push o2).n, 0))) ((((H.push o1).push o2).push o3).push o4)) fun t11_7 =>
 (bd (call 54 [t9_5, t10_6, t11_7] ((((H.push o1).push o2).push o3).push o4)) fun r8 =>
 (bd (arA .neq r8.1 (.int .i64 1)) fun t13_9 =>
 (bd (asB t13_9) fun b10 =>
 if b10 = true then
 (some ((.bool false), r8.2))
 else
 (bd (ldN 2 (.ptr (some ((((H.push o1).push o2).push o3).n, 0))) r8.2) fun t15_11 =>
 (bd (ldN 2 (.ptr (some (H.n, 0))) r8.2) fun t16_12 =>
 (bd (eqlA P ty_api_Point t15_11 t16_12) fun t17_13 =>
 (bd (asB t17_13) fun b14 =>
 if b14 = true then
 (some ((.bool false), r8.2))
 else
 (bd (ldN 2 (.ptr (some ((((H.push o1).push o2).push o3).n, 0))) r8.2) fun t20_15 =>
 (bd (ldN 2 (.ptr (some ((H.push o1).n, 0))) r8.2) fun t21_16 =>
 (bd (eqlA P ty_api_Point t20_15 t21_16) fun t22_17 =>
 (bd (asB t22_17) fun b18 =>
 if b18 = true then
 (some ((.bool false), r8.2))
 else
 (bd (ldN 2 (.ptr (some ((((H.push o1).push o2).push o3).n, 0))) r8.2) fun t25_19 =>
 (bd (ldN 2 (.ptr (some (((H.push o1).push o2).n, 0))) r8.2) fun t26_20 =>
 (bd (eqlA P ty_api_Point t25_19 t26_20) fun t27_21 =>
 (bd (asB t27_21) fun b22 =>
 if b22 = true then
 (some ((.bool false), r8.2))
 else
 (bd (ldN 2 (.ptr (some (H.n, 0))) r8.2) fun t29_23 =>
 (bd (ldN 2 (.ptr (some ((H.push o1).n, 0))) r8.2) fun t30_24 =>
 (bd (ldN 2 (.ptr (some (((H.push o1).push o2).n, 0))) r8.2) fun t31_25 =>
 (bd (ldN 2 (.ptr (some ((((H.push o1).push o2).push o3).n, 0))) r8.2) fun t32_26 =>
 (bd (call 125 [t29_23, t30_24, t31_25, t32_26] r8.2) fun r27 =>
 (bd (arA .eql r27.1 (.int .i64 1)) fun t35_28 =>
 (bd (asB t35_28) fun b29 =>
 if b29 = true then
 (some ((.bool true), r27.2))
 else
 (bd (arA .eql r27.1 (.int .i64 (-1))) fun t37_30 =>
 (bd (asB t37_30) fun b31 =>
 if b31 = true then
 (some ((.bool false), r27.2))
 else
 (bd (ldN 2 (.ptr (some (H.n, 0))) r27.2) fun t38_32 =>
 (bd (ldN 2 (.ptr (some ((H.push o1).n, 0))) r27.2) fun t39_33 =>
 (bd (ldN 2 (.ptr (some (((H.push o1).push o2).n, 0))) r27.2) fun t40_34 =>
 (bd (ldN 2 (.ptr (some ((((H.push o1).push o2).push o3).n, 0))) r27.2) fun t41_35 =>
 (bd (bSl 2 ty_api_Point [(.int .i64 0), (.int .i64 0)] 4 [(0, t38_32), (1, t39_33), (2, t40_34), (3, t41_35)]) fun o36 =>
 (bd (call 126 [(.slice ⟨some (r27.2.n, 0), 4, 2, false⟩)] (r27.2.push o36)) fun r37 =>
 (bd (arA .eql r37.1 (.int .i64 0)) fun t45_38 =>
 (bd (asB t45_38) fun b39 =>
 if b39 = true then
 (bd (ldN 2 (.ptr (some ((((H.push o1).push o2).push o3).n, 0))) r37.2) fun t46_40 =>
 (bd (ldN 2 (.ptr (some ((H.push o1).n, 0))) r37.2) fun t47_41 =>
 (bd (ldN 2 (.ptr (some (((H.push o1).push o2).n, 0))) r37.2) fun t48_42 =>
 (bd (call 54 [t46_40, t47_41, t48_42] r37.2) fun r43 =>
 (bd (arA .eql r43.1 (.int .i64 1)) fun t50_44 =>
 (some (t50_44, r43.2)))))))
 else
 (bd (arA .eql r37.1 (.int .i64 1)) fun t52_45 =>
 (bd (asB t52_45) fun b46 =>
 if b46 = true then
 (bd (ldN 2 (.ptr (some (H.n, 0))) r37.2) fun t53_47 =>
 (bd (ldN 2 (.ptr (some ((((H.push o1).push o2).push o3).n, 0))) r37.2) fun t54_48 =>
 (bd (ldN 2 (.ptr (some (((H.push o1).push o2).n, 0))) r37.2) fun t55_49 =>
 (bd (call 54 [t53_47, t54_48, t55_49] r37.2) fun r50 =>
 (bd (arA .eql r50.1 (.int .i64 1)) fun t57_51 =>
 (some (t57_51, r50.2)))))))
 else
 (bd (arA .eql r37.1 (.int .i64 2)) fun t59_52 =>
 (bd (asB t59_52) fun b53 =>
 if b53 = true then
 (bd (ldN 2 (.ptr (some (H.n, 0))) r37.2) fun t60_54 =>
 (bd (ldN 2 (.ptr (some ((H.push o1).n, 0))) r37.2) fun t61_55 =>
 (bd (ldN 2 (.ptr (some ((((H.push o1).push o2).push o3).n, 0))) r37.2) fun t62_56 =>
 (bd (call 54 [t60_54, t61_55, t62_56] r37.2) fun r57 =>
 (bd (arA .eql r57.1 (.int .i64 1)) fun t64_58 =>
 (some (t64_58, r57.2)))))))
 else
 (some ((.bool false), r37.2)))))))))))))))))))))))))))))))))))))))))))))
theorem tie_conflict.r_e (n : Nat) (v0 v1 v2 v3 : V) (H : Heap) : tie_conflict.r @bdI (callA C n) n v0 v1 v2 v3 H = E C n 94 [] (argsA 0 [v0, v1, v2, v3]) H (kR C 94) := by
  unfold tie_conflict.r
  kernel_rfl
noncomputable def tie_conflict.rf (bd : B3) (call : FuncId → List V → Heap → Option R) (n : Nat) (a : List V) (H : Heap) : Option R := pureA a H fun a => (match a with | [v0, v1, v2, v3] => tie_conflict.r bd call n v0 v1 v2 v3 ⟨0, .nil⟩ | a => E C n 94 [] (argsA 0 a) ⟨0, .nil⟩ (kR C 94))
theorem tie_conflict.rf_b (n : Nat) (a : List V) (H : Heap) : (match a with | [v0, v1, v2, v3] => tie_conflict.r @bdI (callA C n) n v0 v1 v2 v3 H | a => E C n 94 [] (argsA 0 a) H (kR C 94)) = E C n 94 [] (argsA 0 a) H (kR C 94) := by
  split
  · exact tie_conflict.r_e n _ _ _ _ H
  · rfl
theorem tie_conflict.rf_e (n : Nat) (a : List V) (H : Heap) : tie_conflict.rf @bdI (callA C n) n a H = callA C (n + 1) 94 a H := by
  unfold tie_conflict.rf
  refine (congrArg (pureA a H) (funext fun a => tie_conflict.rf_b n a ⟨0, .nil⟩)).trans ?_
  kernel_rfl
@[irreducible] noncomputable def slices_insertionSortCmpFunc_api_Place.l0 (n m0 : Nat) (v0 v1 v2 v3 v8 : V) (H : Heap) : Option R := Lp C n 95 [1, 0, 0] m0 [(0, v0), (1, v1), (2, v2), (3, v3), (8, v8)] H (kB 0 (kR C 95))
@[irreducible] noncomputable def slices_insertionSortCmpFunc_api_Place.l1 (n m0 m1 : Nat) (v0 v1 v2 v3 v8 v9 : V) (H : Heap) : Option R := Lp C n 95 [1, 0, 0, 1, 0, 0, 1, 0, 0] m1 [(0, v0), (1, v1), (2, v2), (3, v3), (8, v8), (9, v9)] H (kB 2 (kB 1 (kC C n 95 [1, 0, 0, 1, 1] (kL C n 95 [1, 0, 0] m0 (kB 0 (kR C 95))))))
noncomputable def slices_insertionSortCmpFunc_api_Place.r_l1 (bd : B3) (call : FuncId → List V → Heap → Option R) (n : Nat) (s0 : V → V → V → V → V → Heap → Option R) (s1 : V → V → V → V → V → V → Heap → Option R) (v0 v1 v2 v3 v8 v9 : V) (H : Heap) : Option R :=
 (bd (arA .gtr v9 v1) fun t20_1 =>
 (bd (asB t20_1) fun b2 =>
 if b2 = true then
 (bd (idxS 3 v0 v9) fun t25_3 =>
 (bd (ldN 3 t25_3 (H.more 0)) fun t26_4 =>
 (bd (arA .sub v9 (.int .i64 1)) fun t29_5 =>
 (bd (idxS 3 v0 t29_5) fun t30_6 =>
 (bd (ldN 3 t30_6 (H.more 0)) fun t31_7 =>
 (bd (callV call v3 [t26_4, t31_7] (H.more 0)) fun r8 =>
 (bd (arA .lss r8.1 (.int .i64 0)) fun t33_9 =>
 (bd (asB t33_9) fun b10 =>
 if b10 = true then
 (bd (arA .sub v9 (.int .i64 1)) fun t44_11 =>
 (bd (idxS 3 v0 t44_11) fun t45_12 =>
 (bd (ldN 3 t45_12 (r8.2.more 0)) fun t46_13 =>
 (bd (idxS 3 v0 v9) fun t49_14 =>
 (bd (ldN 3 t49_14 (r8.2.more 0)) fun t50_15 =>
 (bd (idxS 3 v0 v9) fun t51_16 =>
 (bd (stA 3 t51_16 t46_13 (r8.2.more 0)) fun H17 =>
 (bd (arA .sub v9 (.int .i64 1)) fun t41_18 =>
 (bd (idxS 3 v0 t41_18) fun t52_19 =>
 (bd (stA 3 t52_19 t50_15 H17) fun H20 =>
 (bd (arA .sub v9 (.int .i64 1)) fun t36_21 =>
 (s1 v0 v1 v2 v3 v8 t36_21 H20))))))))))))
 else
 (bd (arA .add v8 (.int .i64 1)) fun t16_22 =>
 (s0 v0 v1 v2 v3 t16_22 r8.2))))))))))
 else
 (bd (arA .add v8 (.int .i64 1)) fun t16_23 =>
 (s0 v0 v1 v2 v3 t16_23 (H.more 0)))))
theorem slices_insertionSortCmpFunc_api_Place.r_l1_e (n m0 m1 : Nat) : slices_insertionSortCmpFunc_api_Place.r_l1 @bdI (callA C n) n (slices_insertionSortCmpFunc_api_Place.l0 n m0) (slices_insertionSortCmpFunc_api_Place.l1 n m0 m1) = slices_insertionSortCmpFunc_api_Place.l1 n m0 (m1 + 1) := by
  funext v0 v1 v2 v3 v8 v9 H
  unfold slices_insertionSortCmpFunc_api_Place.r_l1
  kernel_rfl
noncomputable def slices_insertionSortCmpFunc_api_Place.r_l1_lp (bd : B3) (call : FuncId → List V → Heap → Option R) (n : Nat) (s0 : V → V → V → V → V → Heap → Option R) (m : Nat) : V → V → V → V → V → V → Heap → Option R := Nat.rec (motive := fun _ => V → V → V → V → V → V → Heap → Option R) (fun _ _ _ _ _ _ _ => none) (fun _ self => slices_insertionSortCmpFunc_api_Place.r_l1 bd call n s0 self) m
theorem slices_insertionSortCmpFunc_api_Place.r_l1_lp_e (n m0 : Nat) : slices_insertionSortCmpFunc_api_Place.r_l1_lp @bdI (callA C n) n (slices_insertionSortCmpFunc_api_Place.l0 n m0) = slices_insertionSortCmpFunc_api_Place.l1 n m0 := by
  funext m
  induction m with
  | zero => funext v0 v1 v2 v3 v8 v9 H; kernel_rfl
  | succ k ih => exact (congrArg (slices_insertionSortCmpFunc_api_Place.r_l1 @bdI (callA C n) n (slices_insertionSortCmpFunc_api_Place.l0 n m0)) ih).trans (slices_insertionSortCmpFunc_api_Place.r_l1_e n m0 k)
noncomputable def slices_insertionSortCmpFunc_api_Place.r_l0 (bd : B3) (call : FuncId → List V → Heap → Option R) (n : Nat) (s0 : V → V → V → V → V → Heap → Option R) (v0 v1 v2 v3 v8 : V) (H : Heap) : Option R :=
 (bd (arA .lss v8 v2) fun t14_1 =>
 (bd (asB t14_1) fun b2 =>
 if b2 = true then
 (slices_insertionSortCmpFunc_api_Place.r_l1_lp bd call n s0 n v0 v1 v2 v3 v8 v8 H)
 else
 (some (.tuple [], H))))
theorem slices_insertionSortCmpFunc_api_Place.r_l0_e (n m0 : Nat) : slices_insertionSortCmpFunc_api_Place.r_l0 @bdI (callA C n) n (slices_insertionSortCmpFunc_api_Place.l0 n m0) = slices_insertionSortCmpFunc_api_Place.l0 n (m0 + 1) := by
  funext v0 v1 v2 v3 v8 H
  unfold slices_insertionSortCmpFunc_api_Place.r_l0
  rewrite [slices_insertionSortCmpFunc_api_Place.r_l1_lp_e]
  kernel_rfl
noncomputable def slices_insertionSortCmpFunc_api_Place.r_l0_lp (bd : B3) (call : FuncId → List V → Heap → Option R) (n : Nat) (m : Nat) : V → V → V → V → V → Heap → Option R := Nat.rec (motive := fun _ => V → V → V → V → V → Heap → Option R) (fun _ _ _ _ _ _ => none) (fun _ self => slices_insertionSortCmpFunc_api_Place.r_l0 bd call n self) m
theorem slices_insertionSortCmpFunc_api_Place.r_l0_lp_e (n : Nat) : slices_insertionSortCmpFunc_api_Place.r_l0_lp @bdI (callA C n) n = slices_insertionSortCmpFunc_api_Place.l0 n := by
  funext m
  induction m with
  | zero => funext v0 v1 v2 v3 v8 H; kernel_rfl
  | succ k ih => exact (congrArg (slices_insertionSortCmpFunc_api_Place.r_l0 @bdI (callA C n) n) ih).trans (slices_insertionSortCmpFunc_api_Place.r_l0_e n k)
noncomputable def slices_insertionSortCmpFunc_api_Place.r (bd : B3) (call : FuncId → List V → Heap → Option R) (n : Nat) (v0 v1 v2 v3 : V) (H : Heap) : Option R :=
 (bd (arA .add v1 (.int .i64 1)) fun t11_1 =>
 (slices_insertionSortCmpFunc_api_Place.r_l0_lp bd call n n v0 v1 v2 v3 t11_1 H))
theorem slices_insertionSortCmpFunc_api_Place.r_e (n : Nat) (v0 v1 v2 v3 : V) (H : Heap) : slices_insertionSortCmpFunc_api_Place.r @bdI (callA C n) n v0 v1 v2 v3 H = E C n 95 [] (argsA 0 [v0, v1, v2, v3]) H (kR C 95) := by
  unfold slices_insertionSortCmpFunc_api_Place.r
  rewrite [slices_insertionSortCmpFunc_api_Place.r_l0_lp_e]
  kernel_rfl
noncomputable def slices_insertionSortCmpFunc_api_Place.rf (bd : B3) (call : FuncId → List V → Heap → Option R) (n : Nat) (a : List V) (H : Heap) : Option R := (match a with | [v0, v1, v2, v3] => slices_insertionSortCmpFunc_api_Place.r bd call n v0 v1 v2 v3 H | a => E C n 95 [] (argsA 0 a) H (kR C 95))
theorem slices_insertionSortCmpFunc_api_Place.rf_b (n : Nat) (a : List V) (H : Heap) : (match a with | [v0, v1, v2, v3] => slices_insertionSortCmpFunc_api_Place.r @bdI (callA C n) n v0 v1 v2 v3 H | a => E C n 95 [] (argsA 0 a) H (kR C 95)) = E C n 95 [] (argsA 0 a) H (kR C 95) := by
  split
  · exact slices_insertionSortCmpFunc_api_Place.r_e n _ _ _ _ H
  · rfl
theorem slices_insertionSortCmpFunc_api_Place.rf_e (n : Nat) (a : List V) (H : Heap) : slices_insertionSortCmpFunc_api_Place.rf @bdI (callA C n) n a H = callA C (n + 1) 95 a H := by
  unfold slices_insertionSortCmpFunc_api_Place.rf
  refine (slices_insertionSortCmpFunc_api_Place.rf_b n a H).trans ?_
  kernel_rfl
noncomputable def bucket_New.r (bd : B3) (call : FuncId → List V → Heap → Option R) (n : Nat) (v0 v1 : V) (H : Heap) : Option R :=
 (bd (arA .lss v0 (.int .i64 1)) fun t6_1 =>
 (bd (asB t6_1) fun b2 =>
 if b2 = true then
 (some ((.ptr none), H))
 else
 (bd (arA .gtr v0 (.int .i64 17179869184)) fun t9_3 =>
 (bd (asB t9_3) fun b4 =>
 if b4 = true then
 (some ((.ptr none), H))
 else
 (bd (arA .lss v1 (.int .i64 1)) fun t13_5 =>
 (bd (asB t13_5) fun b6 =>
 if b6 = true then
 (some ((.ptr none), H))
 else
 (bd (arA .gtr v1 (.int .i64 64)) fun t17_7 =>
 (bd (asB t17_7) fun b8 =>
 if b8 = true then
 (some ((.ptr none), H))
 else
 (bd (arA .mul v1 v1) fun t23_9 =>
 (bd (mkSl 1 24 ty_sl_int [(.slice ⟨none, 0, 0, false⟩)] t23_9 t23_9) fun o10 =>
 (bd (flA [(0, 1), (1, 1), (2, 1), (3, 1)] [(.int .i64 0), (.int .i64 0), (.slice ⟨none, 0, 0, false⟩), (.int .i64 0)] [(0, v0), (1, v1), (2, (.slice ⟨some (H.n, 0), o10.2, 1, false⟩))]) fun t25_11 =>
 (bd (boxA ty_bucket_Grid t25_11) fun o12 =>
 (some ((.ptr (some ((H.push o10.1).n, 0))), ((H.push o10.1).push o12)))))))))))))))
theorem bucket_New.r_e (n : Nat) (v0 v1 : V) (H : Heap) : bucket_New.r @bdI (callA C n) n v0 v1 H = E C n 103 [] (argsA 0 [v0, v1]) H (kR C 103) := by
  unfold bucket_New.r
  kernel_rfl
noncomputable def bucket_New.rf (bd : B3) (call : FuncId → List V → Heap → Option R) (n : Nat) (a : List V) (H : Heap) : Option R := (match a with | [v0, v1] => bucket_New.r bd call n v0 v1 H | a => E C n 103 [] (argsA 0 a) H (kR C 103))
theorem bucket_New.rf_b (n : Nat) (a : List V) (H : Heap) : (match a with | [v0, v1] => bucket_New.r @bdI (callA C n) n v0 v1 H | a => E C n 103 [] (argsA 0 a) H (kR C 103)) = E C n 103 [] (argsA 0 a) H (kR C 103) := by
  split
  · exact bucket_New.r_e n _ _ H
  · rfl
theorem bucket_New.rf_e (n : Nat) (a : List V) (H : Heap) : bucket_New.rf @bdI (callA C n) n a H = callA C (n + 1) 103 a H := by
  unfold bucket_New.rf
  refine (bucket_New.rf_b n a H).trans ?_
  kernel_rfl
noncomputable def mesh_Mesh_Side.r (bd : B3) (call : FuncId → List V → Heap → Option R) (n : Nat) (v0 : V) (H : Heap) : Option R :=
 (bd (eqlA P ty_p_mesh_Mesh v0 (.ptr none)) fun t4_1 =>
 (bd (asB t4_1) fun b2 =>
 if b2 = true then
 (some ((.int .i64 0), H))
 else
 (bd (nilC v0) fun t6_3 =>
 (bd (faA 0 t6_3) fun t7_4 =>
 (bd (ld1 t7_4 H) fun t8_5 =>
 (some (t8_5, H)))))))
theorem mesh_Mesh_Side.r_e (n : Nat) (v0 : V) (H : Heap) : mesh_Mesh_Side.r @bdI (callA C n) n v0 H = E C n 104 [] (argsA 0 [v0]) H (kR C 104) := by
  unfold mesh_Mesh_Side.r
  kernel_rfl
noncomputable def mesh_Mesh_Side.rf (bd : B3) (call : FuncId → List V → Heap → Option R) (n : Nat) (a : List V) (H : Heap) : Option R := (match a with | [v0] => mesh_Mesh_Side.r bd call n v0 H | a => E C n 104 [] (argsA 0 a) H (kR C 104))
theorem mesh_Mesh_Side.rf_b (n : Nat) (a : List V) (H : Heap) : (match a with | [v0] => mesh_Mesh_Side.r @bdI (callA C n) n v0 H | a => E C n 104 [] (argsA 0 a) H (kR C 104)) = E C n 104 [] (argsA 0 a) H (kR C 104) := by
  split
  · exact mesh_Mesh_Side.r_e n _ H
  · rfl
theorem mesh_Mesh_Side.rf_e (n : Nat) (a : List V) (H : Heap) : mesh_Mesh_Side.rf @bdI (callA C n) n a H = callA C (n + 1) 104 a H := by
  unfold mesh_Mesh_Side.rf
  refine (mesh_Mesh_Side.rf_b n a H).trans ?_
  kernel_rfl
noncomputable def bucket_Grid_Put.r (bd : B3) (call : FuncId → List V → Heap → Option R) (n : Nat) (v0 v1 v2 : V) (H : Heap) : Option R :=
 (bd (boxA ty_api_Point v2) fun o1 =>
 (bd (ldN 2 (.ptr (some (H.n, 0))) (H.push o1)) fun t12_2 =>
 (bd (call 130 [v0, t12_2] (H.push o1)) fun r3 =>
 (bd (extA r3.1 0) fun t14_4 =>
 (bd (extA r3.1 1) fun t15_5 =>
 (bd (extA r3.1 2) fun t16_6 =>
 (bd (asB t16_6) fun b7 =>
 if b7 = true then
 (bd (call 131 [v0, t14_4, t15_5] r3.2) fun r8 =>
 (bd (nilC v0) fun t28_9 =>
 (bd (faA 2 t28_9) fun t29_10 =>
 (bd (ld1 t29_10 (r8.2.more 1)) fun t30_11 =>
 (bd (idxS 1 t30_11 r8.1) fun t32_12 =>
 (bd (ld1 t32_12 (r8.2.more 1)) fun t33_13 =>
 (bd (bSl 1 ty_int [(.int .i64 0)] 1 [(0, v1)]) fun o14 =>
 (bd (appA 1 8 ty_int t33_13 (.slice ⟨some ((r8.2.n + 0), 0), 1, 1, false⟩) ((r8.2.more 1).set (r8.2.n + 0) o14)) fun p15 =>
 (bd (nilC v0) fun t23_16 =>
 (bd (faA 2 t23_16) fun t24_17 =>
 (bd (ld1 t24_17 p15.2) fun t25_18 =>
 (bd (chk (ld1 t24_17 (r8.2.more 1)) t25_18) fun _ =>
 (bd (idxS 1 t25_18 r8.1) fun t37_19 =>
 (bd (stA 1 t37_19 p15.1 p15.2) fun H20 =>
 (bd (nilC v0) fun t39_21 =>
 (bd (faA 3 t39_21) fun t40_22 =>
 (bd (ld1 t40_22 H20) fun t41_23 =>
 (bd (arA .add t41_23 (.int .i64 1)) fun t42_24 =>
 (bd (nilC v0) fun t43_25 =>
 (bd (faA 3 t43_25) fun t44_26 =>
 (bd (stA 1 t44_26 t42_24 H20) fun H27 =>
 (some (.tuple [], H27)))))))))))))))))))))))
 else
 (some (.tuple [], r3.2)))))))))
theorem bucket_Grid_Put.r_e (n : Nat) (v0 v1 v2 : V) (H : Heap) : bucket_Grid_Put.r @bdI (callA C n) n v0 v1 v2 H = E C n 105 [] (argsA 0 [v0, v1, v2]) H (kR C 105) := by
  unfold bucket_Grid_Put.r
  kernel_rfl
noncomputable def bucket_Grid_Put.rf (bd : B3) (call : FuncId → List V → Heap → Option R) (n : Nat) (a : List V) (H : Heap) : Option R := (match a with | [v0, v1, v2] => bucket_Grid_Put.r bd call n v0 v1 v2 H | a => E C n 105 [] (argsA 0 a) H (kR C 105))
theorem bucket_Grid_Put.rf_b (n : Nat) (a : List V) (H : Heap) : (match a with | [v0, v1, v2] => bucket_Grid_Put.r @bdI (callA C n) n v0 v1 v2 H | a => E C n 105 [] (argsA 0 a) H (kR C 105)) = E C n 105 [] (argsA 0 a) H (kR C 105) := by
  split
  · exact bucket_Grid_Put.r_e n _ _ _ H
  · rfl
theorem bucket_Grid_Put.rf_e (n : Nat) (a : List V) (H : Heap) : bucket_Grid_Put.rf @bdI (callA C n) n a H = callA C (n + 1) 105 a H := by
  unfold bucket_Grid_Put.rf
  refine (bucket_Grid_Put.rf_b n a H).trans ?_
  kernel_rfl
@[irreducible] noncomputable def pdt_sheet_count.l0 (n m0 : Nat) (v0 v6 v7 v8 : V) (H : Heap) : Option R := Lp C n 106 [1, 0, 0] m0 [(0, v0), (6, v6), (7, v7), (8, v8)] H (kB 0 (kR C 106))
noncomputable def pdt_sheet_count.r_l0 (bd : B3) (call : FuncId → List V → Heap → Option R) (n : Nat) (s0 : V → V → V → V → Heap → Option R) (v0 v6 v7 v8 : V) (H : Heap) : Option R :=
 (bd (arA .lss v8 v7) fun t9_1 =>
 (bd (asB t9_1) fun b2 =>
 if b2 = true then
 (bd (idxS 1 v6 v8) fun t10_3 =>
 (bd (ld1 t10_3 H) fun t11_4 =>
 (bd (call 132 [v0, t11_4] H) fun r5 =>
 (bd (asB r5.1) fun b6 =>
 if b6 = true then
 (bd (nilC v0) fun t16_7 =>
 (bd (faA 3 t16_7) fun t17_8 =>
 (bd (ld1 t17_8 r5.2) fun t18_9 =>
 (bd (updM P ty_int t18_9 t11_4 (.bool true) r5.2) fun H10 =>
 (bd (arA .add v8 (.int .i64 1)) fun t20_11 =>
 (s0 v0 v6 v7 t20_11 H10))))))
 else
 (bd (arA .add v8 (.int .i64 1)) fun t20_12 =>
 (s0 v0 v6 v7 t20_12 r5.2))))))
 else
 (some (.tuple [], H))))
theorem pdt_sheet_count.r_l0_e (n m0 : Nat) : pdt_sheet_count.r_l0 @bdI (callA C n) n (pdt_sheet_count.l0 n m0) = pdt_sheet_count.l0 n (m0 + 1) := by
  funext v0 v6 v7 v8 H
  unfold pdt_sheet_count.r_l0
  kernel_rfl
noncomputable def pdt_sheet_count.r_l0_lp (bd : B3) (call : FuncId → List V → Heap → Option R) (n : Nat) (m : Nat) : V → V → V → V → Heap → Option R := Nat.rec (motive := fun _ => V → V → V → V → Heap → Option R) (fun _ _ _ _ _ => none) (fun _ self => pdt_sheet_count.r_l0 bd call n self) m
theorem pdt_sheet_count.r_l0_lp_e (n : Nat) : pdt_sheet_count.r_l0_lp @bdI (callA C n) n = pdt_sheet_count.l0 n := by
  funext m
  induction m with
  | zero => funext v0 v6 v7 v8 H; kernel_rfl
  | succ k ih => exact (congrArg (pdt_sheet_count.r_l0 @bdI (callA C n) n) ih).trans (pdt_sheet_count.r_l0_e n k)
noncomputable def pdt_sheet_count.r (bd : B3) (call : FuncId → List V → Heap → Option R) (n : Nat) (v0 v1 : V) (H : Heap) : Option R :=
 (bd (lenSl v1) fun t7_1 =>
 (pdt_sheet_count.r_l0_lp bd call n n v0 v1 t7_1 (.int .i64 0) H))
theorem pdt_sheet_count.r_e (n : Nat) (v0 v1 : V) (H : Heap) : pdt_sheet_count.r @bdI (callA C n) n v0 v1 H = E C n 106 [] (argsA 0 [v0, v1]) H (kR C 106) := by
  unfold pdt_sheet_count.r
  rewrite [pdt_sheet_count.r_l0_lp_e]
  kernel_rfl
noncomputable def pdt_sheet_count.rf (bd : B3) (call : FuncId → List V → Heap → Option R) (n : Nat) (a : List V) (H : Heap) : Option R := inA true a H fun a H => (match a with | [v0, v1] => pdt_sheet_count.r bd call n v0 v1 H | a => E C n 106 [] (argsA 0 a) H (kR C 106))
theorem pdt_sheet_count.rf_b (n : Nat) (a : List V) (H : Heap) : (match a with | [v0, v1] => pdt_sheet_count.r @bdI (callA C n) n v0 v1 H | a => E C n 106 [] (argsA 0 a) H (kR C 106)) = E C n 106 [] (argsA 0 a) H (kR C 106) := by
  split
  · exact pdt_sheet_count.r_e n _ _ H
  · rfl
theorem pdt_sheet_count.rf_e (n : Nat) (a : List V) (H : Heap) : pdt_sheet_count.rf @bdI (callA C n) n a H = callA C (n + 1) 106 a H := by
  unfold pdt_sheet_count.rf
  refine (congrArg (inA true a H) (funext fun a => funext fun H => pdt_sheet_count.rf_b n a H)).trans ?_
  kernel_rfl
end Go.AM.L
end
section
set_option linter.unusedVariables false
set_option linter.unusedSimpArgs false
set_option maxRecDepth 1000000
set_option linter.unusedVariables false
namespace Go.AM.L
noncomputable def arena_New.r (bd : B3) (call : FuncId → List V → Heap → Option R) (n : Nat) (H : Heap) : Option R :=
 (bd (flA [(0, 1), (1, 1), (2, 1)] [(.slice ⟨none, 0, 0, false⟩), (.int .i64 0), (.int .i64 0)] [(1, (.int .i64 (-1)))]) fun t1_1 =>
 (bd (boxA ty_arena_Arena t1_1) fun o2 =>
 (some ((.ptr (some (H.n, 0))), (H.push o2)))))
theorem arena_New.r_e (n : Nat) (H : Heap) : arena_New.r @bdI (callA C n) n H = E C n 107 [] (argsA 0 []) H (kR C 107) := by
  unfold arena_New.r
  kernel_rfl
noncomputable def arena_New.rf (bd : B3) (call : FuncId → List V → Heap → Option R) (n : Nat) (a : List V) (H : Heap) : Option R := (match a with | [] => arena_New.r bd call n H | a => E C n 107 [] (argsA 0 a) H (kR C 107))
theorem arena_New.rf_b (n : Nat) (a : List V) (H : Heap) : (match a with | [] => arena_New.r @bdI (callA C n) n H | a => E C n 107 [] (argsA 0 a) H (kR C 107)) = E C n 107 [] (argsA 0 a) H (kR C 107) := by
  split
  · exact arena_New.r_e n H
  · rfl
theorem arena_New.rf_e (n : Nat) (a : List V) (H : Heap) : arena_New.rf @bdI (callA C n) n a H = callA C (n + 1) 107 a H := by
  unfold arena_New.rf
  refine (arena_New.rf_b n a H).trans ?_
  kernel_rfl
noncomputable def pdt_Engine_first.r (bd : B3) (call : FuncId → List V → Heap → Option R) (n : Nat) (v0 v1 v2 : V) (H : Heap) : Option R :=
 (bd (boxA ty_api_Point v2) fun o1 =>
 (bd (nilC v0) fun t8_2 =>
 (bd (faA 0 t8_2) fun t9_3 =>
 (bd (ld1 t9_3 (H.push o1)) fun t10_4 =>
 (bd (call 64 [t10_4] (H.push o1)) fun r5 =>
 (bd (ldN 2 (.ptr (some (H.n, 0))) r5.2) fun t13_6 =>
 (bd (call 137 [r5.1, t13_6, v1] r5.2) fun r7 =>
 (bd (flA [(0, 1), (1, 1)] [(.int .i64 0), (.int .i64 0)] []) fun t17_8 =>
 (bd (flA [(0, 1), (1, 1)] [(.int .i64 0), (.int .i64 0)] [(0, (.int .i64 1))]) fun t18_9 =>
 (bd (flA [(0, 1), (1, 1)] [(.int .i64 0), (.int .i64 0)] [(1, (.int .i64 1))]) fun t19_10 =>
 (bd (flE 2 [(.int .i64 0), (.int .i64 0), (.int .i64 0), (.int .i64 0), (.int .i64 0), (.int .i64 0)] [(0, t17_8), (1, t18_9), (2, t19_10)]) fun t20_11 =>
 (bd (flA [(0, 3), (3, 6)] [(.int .i64 0), (.int .i64 0), (.int .i64 0), (.int .i64 0), (.int .i64 0), (.int .i64 0), (.int .i64 0), (.int .i64 0), (.int .i64 0)] [(1, t20_11)]) fun t21_12 =>
 (bd (call 139 [r5.1, t21_12] r7.2) fun r13 =>
 (bd (flA [(0, 1), (1, 1)] [(.int .i64 0), (.int .i64 0)] [(0, (.int .i64 1))]) fun t24_14 =>
 (bd (flA [(0, 1), (1, 1)] [(.int .i64 0), (.int .i64 0)] [(0, (.int .i64 1)), (1, (.int .i64 1))]) fun t25_15 =>
 (bd (flA [(0, 1), (1, 1)] [(.int .i64 0), (.int .i64 0)] [(1, (.int .i64 1))]) fun t26_16 =>
 (bd (flE 2 [(.int .i64 0), (.int .i64 0), (.int .i64 0), (.int .i64 0), (.int .i64 0), (.int .i64 0)] [(0, t24_14), (1, t25_15), (2, t26_16)]) fun t27_17 =>
 (bd (flA [(0, 3), (3, 6)] [(.int .i64 0), (.int .i64 0), (.int .i64 0), (.int .i64 0), (.int .i64 0), (.int .i64 0), (.int .i64 0), (.int .i64 0), (.int .i64 0)] [(1, t27_17)]) fun t28_18 =>
 (bd (call 139 [r5.1, t28_18] r13.2) fun r19 =>
 (bd (call 109 [r5.1] (r19.2.more 0)) fun r20 =>
 (bd (nilC v0) fun t35_21 =>
 (bd (faA 0 t35_21) fun t36_22 =>
 (bd (ld1 t36_22 r20.2) fun t37_23 =>
 (bd (chk (ld1 t36_22 (r19.2.more 0)) t37_23) fun _ =>
 (bd (call 63 [r20.1, t37_23] r20.2) fun r24 =>
 (bd (nilC v0) fun t39_25 =>
 (bd (faA 6 t39_25) fun t40_26 =>
 (bd (stA 1 t40_26 r24.1 r24.2) fun H27 =>
 (bd (nilC v0) fun t41_28 =>
 (bd (faA 5 t41_28) fun t42_29 =>
 (bd (stA 1 t42_29 (.int .i64 3) H27) fun H30 =>
 (some (.tuple [], H30)))))))))))))))))))))))))))))))))
theorem pdt_Engine_first.r_e (n : Nat) (v0 v1 v2 : V) (H : Heap) : pdt_Engine_first.r @bdI (callA C n) n v0 v1 v2 H = E C n 111 [] (argsA 0 [v0, v1, v2]) H (kR C 111) := by
  unfold pdt_Engine_first.r
  kernel_rfl
noncomputable def pdt_Engine_first.rf (bd : B3) (call : FuncId → List V → Heap → Option R) (n : Nat) (a : List V) (H : Heap) : Option R := (match a with | [v0, v1, v2] => pdt_Engine_first.r bd call n v0 v1 v2 H | a => E C n 111 [] (argsA 0 a) H (kR C 111))
theorem pdt_Engine_first.rf_b (n : Nat) (a : List V) (H : Heap) : (match a with | [v0, v1, v2] => pdt_Engine_first.r @bdI (callA C n) n v0 v1 v2 H | a => E C n 111 [] (argsA 0 a) H (kR C 111)) = E C n 111 [] (argsA 0 a) H (kR C 111) := by
  split
  · exact pdt_Engine_first.r_e n _ _ _ H
  · rfl
theorem pdt_Engine_first.rf_e (n : Nat) (a : List V) (H : Heap) : pdt_Engine_first.rf @bdI (callA C n) n a H = callA C (n + 1) 111 a H := by
  unfold pdt_Engine_first.rf
  refine (pdt_Engine_first.rf_b n a H).trans ?_
  kernel_rfl
noncomputable def pdt_Engine_fewer.r (bd : B3) (call : FuncId → List V → Heap → Option R) (n : Nat) (v0 : V) (H : Heap) : Option R :=
 (bd (nilC v0) fun t5_1 =>
 (bd (faA 5 t5_1) fun t6_2 =>
 (bd (ld1 t6_2 H) fun t7_3 =>
 (bd (arA .neq t7_3 (.int .i64 3)) fun t8_4 =>
 (bd (asB t8_4) fun b5 =>
 if b5 = true then
 (some (.tuple [], H))
 else
 (bd (nilC v0) fun t11_6 =>
 (bd (faA 6 t11_6) fun t12_7 =>
 (bd (ld1 t12_7 H) fun t13_8 =>
 (bd (nilC t13_8) fun t14_9 =>
 (bd (faA 3 t14_9) fun t15_10 =>
 (bd (ld1 t15_10 H) fun t16_11 =>
 (bd (lenMap t16_11 H) fun t17_12 =>
 (bd (arA .gtr t17_12 (.int .i64 0)) fun t18_13 =>
 (bd (asB t18_13) fun b14 =>
 if b14 = true then
 (some (.tuple [], H))
 else
 (bd (nilC v0) fun t22_15 =>
 (bd (faA 6 t22_15) fun t23_16 =>
 (bd (ld1 t23_16 H) fun t24_17 =>
 (bd (nilC t24_17) fun t25_18 =>
 (bd (faA 0 t25_18) fun t26_19 =>
 (bd (ld1 t26_19 H) fun t27_20 =>
 (bd (call 148 [t27_20] H) fun r21 =>
 (bd (extA r21.1 0) fun t29_22 =>
 (bd (extA r21.1 1) fun t30_23 =>
 (bd (asB t30_23) fun b24 =>
 if b24 = true then
 (bd (nilC v0) fun t36_25 =>
 (bd (faA 0 t36_25) fun t37_26 =>
 (bd (ld1 t37_26 r21.2) fun t38_27 =>
 (bd (call 63 [t29_22, t38_27] r21.2) fun r28 =>
 (bd (nilC v0) fun t40_29 =>
 (bd (faA 6 t40_29) fun t41_30 =>
 (bd (stA 1 t41_30 r28.1 r28.2) fun H31 =>
 (bd (nilC v0) fun t42_32 =>
 (bd (faA 5 t42_32) fun t43_33 =>
 (bd (stA 1 t43_33 (.int .i64 1) H31) fun H34 =>
 (some (.tuple [], H34))))))))))))
 else
 (some (.tuple [], r21.2))))))))))))))))))))))))))
theorem pdt_Engine_fewer.r_e (n : Nat) (v0 : V) (H : Heap) : pdt_Engine_fewer.r @bdI (callA C n) n v0 H = E C n 113 [] (argsA 0 [v0]) H (kR C 113) := by
  unfold pdt_Engine_fewer.r
  kernel_rfl
noncomputable def pdt_Engine_fewer.rf (bd : B3) (call : FuncId → List V → Heap → Option R) (n : Nat) (a : List V) (H : Heap) : Option R := (match a with | [v0] => pdt_Engine_fewer.r bd call n v0 H | a => E C n 113 [] (argsA 0 a) H (kR C 113))
theorem pdt_Engine_fewer.rf_b (n : Nat) (a : List V) (H : Heap) : (match a with | [v0] => pdt_Engine_fewer.r @bdI (callA C n) n v0 H | a => E C n 113 [] (argsA 0 a) H (kR C 113)) = E C n 113 [] (argsA 0 a) H (kR C 113) := by
  split
  · exact pdt_Engine_fewer.r_e n _ H
  · rfl
theorem pdt_Engine_fewer.rf_e (n : Nat) (a : List V) (H : Heap) : pdt_Engine_fewer.rf @bdI (callA C n) n a H = callA C (n + 1) 113 a H := by
  unfold pdt_Engine_fewer.rf
  refine (pdt_Engine_fewer.rf_b n a H).trans ?_
  kernel_rfl
noncomputable def slices_medianCmpFunc_api_Tri.r (bd : B3) (call : FuncId → List V → Heap → Option R) (n : Nat) (v0 v1 v2 v3 v4 v5 : V) (H : Heap) : Option R :=
 (bd (call 149 [v0, v1, v2, v4, v5] H) fun r1 =>
 (bd (extA r1.1 0) fun t20_2 =>
 (bd (extA r1.1 1) fun t21_3 =>
 (bd (call 149 [v0, t21_3, v3, v4, v5] r1.2) fun r4 =>
 (bd (extA r4.1 0) fun t29_5 =>
 (bd (extA r4.1 1) fun t30_6 =>
 (bd (call 149 [v0, t20_2, t29_5, v4, v5] r4.2) fun r7 =>
 (bd (extA r7.1 0) fun t38_8 =>
 (bd (extA r7.1 1) fun t39_9 =>
 (some (t39_9, r7.2)))))))))))
theorem slices_medianCmpFunc_api_Tri.r_e (n : Nat) (v0 v1 v2 v3 v4 v5 : V) (H : Heap) : slices_medianCmpFunc_api_Tri.r @bdI (callA C n) n v0 v1 v2 v3 v4 v5 H = E C n 118 [] (argsA 0 [v0, v1, v2, v3, v4, v5]) H (kR C 118) := by
  unfold slices_medianCmpFunc_api_Tri.r
  kernel_rfl
noncomputable def slices_medianCmpFunc_api_Tri.rf (bd : B3) (call : FuncId → List V → Heap → Option R) (n : Nat) (a : List V) (H : Heap) : Option R := (match a with | [v0, v1, v2, v3, v4, v5] => slices_medianCmpFunc_api_Tri.r bd call n v0 v1 v2 v3 v4 v5 H | a => E C n 118 [] (argsA 0 a) H (kR C 118))
theorem slices_medianCmpFunc_api_Tri.rf_b (n : Nat) (a : List V) (H : Heap) : (match a with | [v0, v1, v2, v3, v4, v5] => slices_medianCmpFunc_api_Tri.r @bdI (callA C n) n v0 v1 v2 v3 v4 v5 H | a => E C n 118 [] (argsA 0 a) H (kR C 118)) = E C n 118 [] (argsA 0 a) H (kR C 118) := by
  split
  · exact slices_medianCmpFunc_api_Tri.r_e n _ _ _ _ _ _ H
  · rfl
theorem slices_medianCmpFunc_api_Tri.rf_e (n : Nat) (a : List V) (H : Heap) : slices_medianCmpFunc_api_Tri.rf @bdI (callA C n) n a H = callA C (n + 1) 118 a H := by
  unfold slices_medianCmpFunc_api_Tri.rf
  refine (slices_medianCmpFunc_api_Tri.rf_b n a H).trans ?_
  kernel_rfl
noncomputable def cmp_isNaN_int.r (bd : B3) (call : FuncId → List V → Heap → Option R) (n : Nat) (v0 : V) (H : Heap) : Option R :=
 (bd (arA .neq v0 v0) fun t5_1 =>
 (some (t5_1, H)))
theorem cmp_isNaN_int.r_e (n : Nat) (v0 : V) (H : Heap) : cmp_isNaN_int.r @bdI (callA C n) n v0 H = E C n 119 [] (argsA 0 [v0]) H (kR C 119) := by
  unfold cmp_isNaN_int.r
  kernel_rfl
noncomputable def cmp_isNaN_int.rf (bd : B3) (call : FuncId → List V → Heap → Option R) (n : Nat) (a : List V) (H : Heap) : Option R := (match a with | [v0] => cmp_isNaN_int.r bd call n v0 H | a => E C n 119 [] (argsA 0 a) H (kR C 119))
theorem cmp_isNaN_int.rf_b (n : Nat) (a : List V) (H : Heap) : (match a with | [v0] => cmp_isNaN_int.r @bdI (callA C n) n v0 H | a => E C n 119 [] (argsA 0 a) H (kR C 119)) = E C n 119 [] (argsA 0 a) H (kR C 119) := by
  split
  · exact cmp_isNaN_int.r_e n _ H
  · rfl
theorem cmp_isNaN_int.rf_e (n : Nat) (a : List V) (H : Heap) : cmp_isNaN_int.rf @bdI (callA C n) n a H = callA C (n + 1) 119 a H := by
  unfold cmp_isNaN_int.rf
  refine (cmp_isNaN_int.rf_b n a H).trans ?_
  kernel_rfl
noncomputable def lift_at.r (bd : B3) (call : FuncId → List V → Heap → Option R) (n : Nat) (v0 v1 v2 : V) (H : Heap) : Option R :=
 (bd (boxA ty_api_Point v0) fun o1 =>
 (bd (boxA ty_api_Off v1) fun o2 =>
 (bd (call 150 [v2] (((H.push o1).push o2).push (.cells [(.int .i64 0), (.int .i64 0)] ty_api_Point false))) fun r3 =>
 (bd (unA .not r3.1) fun t14_4 =>
 (bd (asB t14_4) fun b5 =>
 if b5 = true then
 (bd (flA [(0, 1), (1, 1)] [(.int .i64 0), (.int .i64 0)] []) fun t20_6 =>
 (bd (stA 2 (.ptr (some (((H.push o1).push o2).n, 0))) t20_6 r3.2) fun H7 =>
 (bd (ldN 2 (.ptr (some (((H.push o1).push o2).n, 0))) H7) fun t8 =>
 (some (.tuple [t8, (.bool false)], H7)))))
 else
 (bd (ldN 2 (.ptr (some (H.n, 0))) r3.2) fun t16_9 =>
 (bd (call 124 [t16_9] r3.2) fun r10 =>
 (bd (unA .not r10.1) fun t18_11 =>
 (bd (asB t18_11) fun b12 =>
 if b12 = true then
 (bd (flA [(0, 1), (1, 1)] [(.int .i64 0), (.int .i64 0)] []) fun t20_13 =>
 (bd (stA 2 (.ptr (some (((H.push o1).push o2).n, 0))) t20_13 r10.2) fun H14 =>
 (bd (ldN 2 (.ptr (some (((H.push o1).push o2).n, 0))) H14) fun t15 =>
 (some (.tuple [t15, (.bool false)], H14)))))
 else
 (bd (faA 0 (.ptr (some (H.n, 0)))) fun t22_16 =>
 (bd (ld1 t22_16 r10.2) fun t23_17 =>
 (bd (faA 0 (.ptr (some ((H.push o1).n, 0)))) fun t24_18 =>
 (bd (ld1 t24_18 r10.2) fun t25_19 =>
 (bd (call 151 [t23_17, t25_19, v2] r10.2) fun r20 =>
 (bd (extA r20.1 0) fun t28_21 =>
 (bd (extA r20.1 1) fun t29_22 =>
 (bd (faA 1 (.ptr (some (H.n, 0)))) fun t31_23 =>
 (bd (ld1 t31_23 r20.2) fun t32_24 =>
 (bd (faA 1 (.ptr (some ((H.push o1).n, 0)))) fun t33_25 =>
 (bd (ld1 t33_25 r20.2) fun t34_26 =>
 (bd (call 151 [t32_24, t34_26, v2] r20.2) fun r27 =>
 (bd (extA r27.1 0) fun t37_28 =>
 (bd (extA r27.1 1) fun t38_29 =>
 (bd (unA .not t29_22) fun t40_30 =>
 (bd (asB t40_30) fun b31 =>
 if b31 = true then
 (bd (flA [(0, 1), (1, 1)] [(.int .i64 0), (.int .i64 0)] []) fun t45_32 =>
 (bd (stA 2 (.ptr (some (((H.push o1).push o2).n, 0))) t45_32 r27.2) fun H33 =>
 (bd (ldN 2 (.ptr (some (((H.push o1).push o2).n, 0))) H33) fun t34 =>
 (some (.tuple [t34, (.bool false)], H33)))))
 else
 (bd (unA .not t38_29) fun t43_35 =>
 (bd (asB t43_35) fun b36 =>
 if b36 = true then
 (bd (flA [(0, 1), (1, 1)] [(.int .i64 0), (.int .i64 0)] []) fun t45_37 =>
 (bd (stA 2 (.ptr (some (((H.push o1).push o2).n, 0))) t45_37 r27.2) fun H38 =>
 (bd (ldN 2 (.ptr (some (((H.push o1).push o2).n, 0))) H38) fun t39 =>
 (some (.tuple [t39, (.bool false)], H38)))))
 else
 (bd (flA [(0, 1), (1, 1)] [(.int .i64 0), (.int .i64 0)] [(0, t28_21), (1, t37_28)]) fun t48_40 =>
 (bd (stA 2 (.ptr (some (((H.push o1).push o2).n, 0))) t48_40 r27.2) fun H41 =>
 (bd (ldN 2 (.ptr (some (((H.push o1).push o2).n, 0))) H41) fun t42 =>
 (some (.tuple [t42, (.bool true)], H41))))))))))))))))))))))))))))))))
theorem lift_at.r_e (n : Nat) (v0 v1 v2 : V) (H : Heap) : lift_at.r @bdI (callA C n) n v0 v1 v2 H = E C n 120 [] (argsA 0 [v0, v1, v2]) H (kR C 120) := by
  unfold lift_at.r
  kernel_rfl
noncomputable def lift_at.rf (bd : B3) (call : FuncId → List V → Heap → Option R) (n : Nat) (a : List V) (H : Heap) : Option R := pureA a H fun a => (match a with | [v0, v1, v2] => lift_at.r bd call n v0 v1 v2 ⟨0, .nil⟩ | a => E C n 120 [] (argsA 0 a) ⟨0, .nil⟩ (kR C 120))
theorem lift_at.rf_b (n : Nat) (a : List V) (H : Heap) : (match a with | [v0, v1, v2] => lift_at.r @bdI (callA C n) n v0 v1 v2 H | a => E C n 120 [] (argsA 0 a) H (kR C 120)) = E C n 120 [] (argsA 0 a) H (kR C 120) := by
  split
  · exact lift_at.r_e n _ _ _ H
  · rfl
theorem lift_at.rf_e (n : Nat) (a : List V) (H : Heap) : lift_at.rf @bdI (callA C n) n a H = callA C (n + 1) 120 a H := by
  unfold lift_at.rf
  refine (congrArg (pureA a H) (funext fun a => lift_at.rf_b n a ⟨0, .nil⟩)).trans ?_
  kernel_rfl
noncomputable def wide_Sign.r (bd : B3) (call : FuncId → List V → Heap → Option R) (n : Nat) (v0 : V) (H : Heap) : Option R :=
 (bd (boxA ty_api_Wide v0) fun o1 =>
 (bd (ldN 2 (.ptr (some (H.n, 0))) (H.push o1)) fun t3_2 =>
 (bd (call 152 [t3_2] (H.push o1)) fun r3 =>
 (some (r3.1, r3.2)))))
theorem wide_Sign.r_e (n : Nat) (v0 : V) (H : Heap) : wide_Sign.r @bdI (callA C n) n v0 H = E C n 121 [] (argsA 0 [v0]) H (kR C 121) := by
  unfold wide_Sign.r
  kernel_rfl
noncomputable def wide_Sign.rf (bd : B3) (call : FuncId → List V → Heap → Option R) (n : Nat) (a : List V) (H : Heap) : Option R := pureA a H fun a => (match a with | [v0] => wide_Sign.r bd call n v0 ⟨0, .nil⟩ | a => E C n 121 [] (argsA 0 a) ⟨0, .nil⟩ (kR C 121))
theorem wide_Sign.rf_b (n : Nat) (a : List V) (H : Heap) : (match a with | [v0] => wide_Sign.r @bdI (callA C n) n v0 H | a => E C n 121 [] (argsA 0 a) H (kR C 121)) = E C n 121 [] (argsA 0 a) H (kR C 121) := by
  split
  · exact wide_Sign.r_e n _ H
  · rfl
theorem wide_Sign.rf_e (n : Nat) (a : List V) (H : Heap) : wide_Sign.rf @bdI (callA C n) n a H = callA C (n + 1) 121 a H := by
  unfold wide_Sign.rf
  refine (congrArg (pureA a H) (funext fun a => wide_Sign.rf_b n a ⟨0, .nil⟩)).trans ?_
  kernel_rfl
noncomputable def wide_Sub.r (bd : B3) (call : FuncId → List V → Heap → Option R) (n : Nat) (v0 v1 : V) (H : Heap) : Option R :=
 (bd (boxA ty_api_Wide v0) fun o1 =>
 (bd (boxA ty_api_Wide v1) fun o2 =>
 (bd (ldN 2 (.ptr (some (H.n, 0))) (((H.push o1).push o2).push (.cells [(.int .i64 0), (.int .u64 0)] ty_api_Wide false))) fun t5_3 =>
 (bd (ldN 2 (.ptr (some ((H.push o1).n, 0))) (((H.push o1).push o2).push (.cells [(.int .i64 0), (.int .u64 0)] ty_api_Wide false))) fun t6_4 =>
 (bd (call 153 [t5_3, t6_4] (((H.push o1).push o2).push (.cells [(.int .i64 0), (.int .u64 0)] ty_api_Wide false))) fun r5 =>
 (bd (stA 2 (.ptr (some (((H.push o1).push o2).n, 0))) r5.1 r5.2) fun H6 =>
 (bd (ldN 2 (.ptr (some (((H.push o1).push o2).n, 0))) H6) fun t7 =>
 (some (t7, H6)))))))))
theorem wide_Sub.r_e (n : Nat) (v0 v1 : V) (H : Heap) : wide_Sub.r @bdI (callA C n) n v0 v1 H = E C n 123 [] (argsA 0 [v0, v1]) H (kR C 123) := by
  unfold wide_Sub.r
  kernel_rfl
noncomputable def wide_Sub.rf (bd : B3) (call : FuncId → List V → Heap → Option R) (n : Nat) (a : List V) (H : Heap) : Option R := pureA a H fun a => (match a with | [v0, v1] => wide_Sub.r bd call n v0 v1 ⟨0, .nil⟩ | a => E C n 123 [] (argsA 0 a) ⟨0, .nil⟩ (kR C 123))
theorem wide_Sub.rf_b (n : Nat) (a : List V) (H : Heap) : (match a with | [v0, v1] => wide_Sub.r @bdI (callA C n) n v0 v1 H | a => E C n 123 [] (argsA 0 a) H (kR C 123)) = E C n 123 [] (argsA 0 a) H (kR C 123) := by
  split
  · exact wide_Sub.r_e n _ _ H
  · rfl
theorem wide_Sub.rf_e (n : Nat) (a : List V) (H : Heap) : wide_Sub.rf @bdI (callA C n) n a H = callA C (n + 1) 123 a H := by
  unfold wide_Sub.rf
  refine (congrArg (pureA a H) (funext fun a => wide_Sub.rf_b n a ⟨0, .nil⟩)).trans ?_
  kernel_rfl
noncomputable def lift_can.r (bd : B3) (call : FuncId → List V → Heap → Option R) (n : Nat) (v0 : V) (H : Heap) : Option R :=
 (bd (boxA ty_api_Point v0) fun o1 =>
 (bd (faA 0 (.ptr (some (H.n, 0)))) fun t3_2 =>
 (bd (ld1 t3_2 (H.push o1)) fun t4_3 =>
 (bd (call 154 [t4_3] (H.push o1)) fun r4 =>
 (bd (asB r4.1) fun b5 =>
 if b5 = true then
 (bd (faA 1 (.ptr (some (H.n, 0)))) fun t7_6 =>
 (bd (ld1 t7_6 r4.2) fun t8_7 =>
 (bd (call 154 [t8_7] r4.2) fun r8 =>
 (some (r8.1, r8.2)))))
 else
 (some ((.bool false), r4.2)))))))
theorem lift_can.r_e (n : Nat) (v0 : V) (H : Heap) : lift_can.r @bdI (callA C n) n v0 H = E C n 124 [] (argsA 0 [v0]) H (kR C 124) := by
  unfold lift_can.r
  kernel_rfl
noncomputable def lift_can.rf (bd : B3) (call : FuncId → List V → Heap → Option R) (n : Nat) (a : List V) (H : Heap) : Option R := pureA a H fun a => (match a with | [v0] => lift_can.r bd call n v0 ⟨0, .nil⟩ | a => E C n 124 [] (argsA 0 a) ⟨0, .nil⟩ (kR C 124))
theorem lift_can.rf_b (n : Nat) (a : List V) (H : Heap) : (match a with | [v0] => lift_can.r @bdI (callA C n) n v0 H | a => E C n 124 [] (argsA 0 a) H (kR C 124)) = E C n 124 [] (argsA 0 a) H (kR C 124) := by
  split
  · exact lift_can.r_e n _ H
  · rfl
theorem lift_can.rf_e (n : Nat) (a : List V) (H : Heap) : lift_can.rf @bdI (callA C n) n a H = callA C (n + 1) 124 a H := by
  unfold lift_can.rf
  refine (congrArg (pureA a H) (funext fun a => lift_can.rf_b n a ⟨0, .nil⟩)).trans ?_
  kernel_rfl
noncomputable def pred_InCircle.r (bd : B3) (call : FuncId → List V → Heap → Option R) (n : Nat) (v0 v1 v2 v3 : V) (H : Heap) : Option R :=
 (bd (boxA ty_api_Point v0) fun o1 =>
 (bd (boxA ty_api_Point v1) fun o2 =>
 (bd (boxA ty_api_Point v2) fun o3 =>
 (bd (boxA ty_api_Point v3) fun o4 =>
 (bd (ldN 2 (.ptr (some (H.n, 0))) ((((H.push o1).push o2).push o3).push o4)) fun t13_5 =>
 (bd (ldN 2 (.ptr (some ((H.push o1).n, 0))) ((((H.push o1).push o2).push o3).push o4)) fun t14_6 =>
 (bd (ldN 2 (.ptr (some (((H.push o1).push o2).n, 0))) ((((H.push o1).push o2).push o3).push o4)) fun t15_7 =>
 (bd (ldN 2 (.ptr (some ((((H.push o1).push o2).push o3).n, 0))) ((((H.push o1).push o2).push o3).push o4)) fun t16_8 =>
 (bd (bSl 2 ty_api_Point [(.int .i64 0), (.int .i64 0)] 4 [(0, t13_5), (1, t14_6), (2, t15_7), (3, t16_8)]) fun o9 =>
 (bd (call 88 [(.slice ⟨some (((((H.push o1).push o2).push o3).push o4).n, 0), 4, 2, false⟩)] (((((H.push o1).push o2).push o3).push o4).push o9)) fun r10 =>
 (bd (unA .not r10.1) fun t19_11 =>
 (bd (asB t19_11) fun b12 =>
 if b12 = true then
 (some ((.int .i64 0), r10.2))
 else
 (bd (ldN 2 (.ptr (some ((((H.push o1).push o2).push o3).n, 0))) (r10.2.more 3)) fun t20_13 =>
 (bd (ldN 2 (.ptr (some (H.n, 0))) (r10.2.more 3)) fun t21_14 =>
 (bd (call 92 [t20_13, t21_14] (r10.2.more 3)) fun r15 =>
 (bd (ldN 2 (.ptr (some ((((H.push o1).push o2).push o3).n, 0))) r15.2) fun t23_16 =>
 (bd (chk (ldN 2 (.ptr (some ((((H.push o1).push o2).push o3).n, 0))) (r10.2.more 3)) t23_16) fun _ =>
 (bd (ldN 2 (.ptr (some ((H.push o1).n, 0))) r15.2) fun t24_17 =>
 (bd (chk (ldN 2 (.ptr (some ((H.push o1).n, 0))) (r10.2.more 3)) t24_17) fun _ =>
 (bd (call 92 [t23_16, t24_17] r15.2) fun r18 =>
 (bd (ldN 2 (.ptr (some ((((H.push o1).push o2).push o3).n, 0))) r18.2) fun t26_19 =>
 (bd (chk (ldN 2 (.ptr (some ((((H.push o1).push o2).push o3).n, 0))) r15.2) t26_19) fun _ =>
 (bd (chk (ldN 2 (.ptr (some ((((H.push o1).push o2).push o3).n, 0))) (r10.2.more 3)) t26_19) fun _ =>
 (bd (ldN 2 (.ptr (some (((H.push o1).push o2).n, 0))) r18.2) fun t27_20 =>
 (bd (chk (ldN 2 (.ptr (some (((H.push o1).push o2).n, 0))) r15.2) t27_20) fun _ =>
 (bd (chk (ldN 2 (.ptr (some (((H.push o1).push o2).n, 0))) (r10.2.more 3)) t27_20) fun _ =>
 (bd (call 92 [t26_19, t27_20] r18.2) fun r21 =>
 (bd (stA 2 (.ptr (some ((r10.2.n + 0), 0))) r15.1 (((r21.2.set (r10.2.n + 0) (.cells [(.int .i64 0), (.int .i64 0)] ty_api_Point false)).set (r10.2.n + 1) (.cells [(.int .i64 0), (.int .i64 0)] ty_api_Point false)).set (r10.2.n + 2) (.cells [(.int .i64 0), (.int .i64 0)] ty_api_Point false))) fun H22 =>
 (bd (stA 2 (.ptr (some ((r10.2.n + 1), 0))) r18.1 H22) fun H23 =>
 (bd (stA 2 (.ptr (some ((r10.2.n + 2), 0))) r21.1 H23) fun H24 =>
 (bd (ldN 2 (.ptr (some ((r10.2.n + 0), 0))) (H24.more 1)) fun t29_25 =>
 (bd (call 156 [t29_25] (H24.more 1)) fun r26 =>
 (bd (ldN 2 (.ptr (some ((r10.2.n + 1), 0))) r26.2) fun t31_27 =>
 (bd (chk (ldN 2 (.ptr (some ((r10.2.n + 1), 0))) (H24.more 1)) t31_27) fun _ =>
 (bd (ldN 2 (.ptr (some ((r10.2.n + 2), 0))) r26.2) fun t32_28 =>
 (bd (chk (ldN 2 (.ptr (some ((r10.2.n + 2), 0))) (H24.more 1)) t32_28) fun _ =>
 (bd (call 91 [t31_27, t32_28] r26.2) fun r29 =>
 (bd (call 155 [r26.1, r29.1] r29.2) fun r30 =>
 (bd (stA 4 (.ptr (some ((H24.n + 0), 0))) r30.1 (r30.2.set (H24.n + 0) (.cells [(.int .u64 0), (.int .u64 0), (.int .u64 0), (.int .u64 0)] ty_api_Quad false))) fun H31 =>
 (bd (ldN 2 (.ptr (some ((r10.2.n + 1), 0))) (H31.more 0)) fun t36_32 =>
 (bd (call 156 [t36_32] (H31.more 0)) fun r33 =>
 (bd (ldN 2 (.ptr (some ((r10.2.n + 2), 0))) r33.2) fun t38_34 =>
 (bd (chk (ldN 2 (.ptr (some ((r10.2.n + 2), 0))) (H31.more 0)) t38_34) fun _ =>
 (bd (ldN 2 (.ptr (some ((r10.2.n + 0), 0))) r33.2) fun t39_35 =>
 (bd (chk (ldN 2 (.ptr (some ((r10.2.n + 0), 0))) (H31.more 0)) t39_35) fun _ =>
 (bd (call 91 [t38_34, t39_35] r33.2) fun r36 =>
 (bd (call 155 [r33.1, r36.1] r36.2) fun r37 =>
 (bd (ldN 4 (.ptr (some ((H24.n + 0), 0))) r37.2) fun t35_38 =>
 (bd (chk (ldN 4 (.ptr (some ((H24.n + 0), 0))) r36.2) t35_38) fun _ =>
 (bd (chk (ldN 4 (.ptr (some ((H24.n + 0), 0))) r33.2) t35_38) fun _ =>
 (bd (chk (ldN 4 (.ptr (some ((H24.n + 0), 0))) (H31.more 0)) t35_38) fun _ =>
 (bd (call 157 [t35_38, r37.1] r37.2) fun r39 =>
 (bd (stA 4 (.ptr (some ((H24.n + 0), 0))) r39.1 r39.2) fun H40 =>
 (bd (ldN 2 (.ptr (some ((r10.2.n + 2), 0))) (H40.more 0)) fun t44_41 =>
 (bd (call 156 [t44_41] (H40.more 0)) fun r42 =>
 (bd (ldN 2 (.ptr (some ((r10.2.n + 0), 0))) r42.2) fun t46_43 =>
 (bd (chk (ldN 2 (.ptr (some ((r10.2.n + 0), 0))) (H40.more 0)) t46_43) fun _ =>
 (bd (ldN 2 (.ptr (some ((r10.2.n + 1), 0))) r42.2) fun t47_44 =>
 (bd (chk (ldN 2 (.ptr (some ((r10.2.n + 1), 0))) (H40.more 0)) t47_44) fun _ =>
 (bd (call 91 [t46_43, t47_44] r42.2) fun r45 =>
 (bd (call 155 [r42.1, r45.1] r45.2) fun r46 =>
 (bd (ldN 4 (.ptr (some ((H24.n + 0), 0))) r46.2) fun t43_47 =>
 (bd (chk (ldN 4 (.ptr (some ((H24.n + 0), 0))) r45.2) t43_47) fun _ =>
 (bd (chk (ldN 4 (.ptr (some ((H24.n + 0), 0))) r42.2) t43_47) fun _ =>
 (bd (chk (ldN 4 (.ptr (some ((H24.n + 0), 0))) (H40.more 0)) t43_47) fun _ =>
 (bd (call 157 [t43_47, r46.1] r46.2) fun r48 =>
 (bd (stA 4 (.ptr (some ((H24.n + 0), 0))) r48.1 r48.2) fun H49 =>
 (bd (ldN 4 (.ptr (some ((H24.n + 0), 0))) H49) fun t51_50 =>
 (bd (call 158 [t51_50] H49) fun r51 =>
 (some (r51.1, r51.2)))))))))))))))))))))))))))))))))))))))))))))))))))))))))))))))))))))))
theorem pred_InCircle.r_e (n : Nat) (v0 v1 v2 v3 : V) (H : Heap) : pred_InCircle.r @bdI (callA C n) n v0 v1 v2 v3 H = E C n 125 [] (argsA 0 [v0, v1, v2, v3]) H (kR C 125) := by
  unfold pred_InCircle.r
  kernel_rfl
noncomputable def pred_InCircle.rf (bd : B3) (call : FuncId → List V → Heap → Option R) (n : Nat) (a : List V) (H : Heap) : Option R := pureA a H fun a => (match a with | [v0, v1, v2, v3] => pred_InCircle.r bd call n v0 v1 v2 v3 ⟨0, .nil⟩ | a => E C n 125 [] (argsA 0 a) ⟨0, .nil⟩ (kR C 125))
theorem pred_InCircle.rf_b (n : Nat) (a : List V) (H : Heap) : (match a with | [v0, v1, v2, v3] => pred_InCircle.r @bdI (callA C n) n v0 v1 v2 v3 H | a => E C n 125 [] (argsA 0 a) H (kR C 125)) = E C n 125 [] (argsA 0 a) H (kR C 125) := by
  split
  · exact pred_InCircle.r_e n _ _ _ _ H
  · rfl
theorem pred_InCircle.rf_e (n : Nat) (a : List V) (H : Heap) : pred_InCircle.rf @bdI (callA C n) n a H = callA C (n + 1) 125 a H := by
  unfold pred_InCircle.rf
  refine (congrArg (pureA a H) (funext fun a => pred_InCircle.rf_b n a ⟨0, .nil⟩)).trans ?_
  kernel_rfl
@[irreducible] noncomputable def tie_last.l0 (n m0 : Nat) (v0 v3 v6 v7 : V) (H : Heap) : Option R := Lp C n 126 [1, 1, 0, 1, 0, 0] m0 [(0, v0), (3, v3), (6, v6), (7, v7)] H (kB 0 (kC C n 126 [1, 1, 1] (kR C 126)))
noncomputable def tie_last.r_l0 (bd : B3) (call : FuncId → List V → Heap → Option R) (n : Nat) (s0 : V → V → V → V → Heap → Option R) (v0 v3 v6 v7 : V) (H : Heap) : Option R :=
 (bd (arA .lss v7 v6) fun t8_1 =>
 (bd (asB t8_1) fun b2 =>
 if b2 = true then
 (bd (idxS 2 v0 v7) fun t12_3 =>
 (bd (ldN 2 t12_3 (H.more 0)) fun t13_4 =>
 (bd (idxS 2 v0 v3) fun t16_5 =>
 (bd (ldN 2 t16_5 (H.more 0)) fun t17_6 =>
 (bd (call 159 [t13_4, t17_6] (H.more 0)) fun r7 =>
 (bd (arA .gtr r7.1 (.int .i64 0)) fun t19_8 =>
 (bd (asB t19_8) fun b9 =>
 if b9 = true then
 (bd (arA .add v7 (.int .i64 1)) fun t21_10 =>
 (s0 v0 v7 v6 t21_10 r7.2))
 else
 (bd (arA .add v7 (.int .i64 1)) fun t21_11 =>
 (s0 v0 v3 v6 t21_11 r7.2)))))))))
 else
 (some (v3, H))))
theorem tie_last.r_l0_e (n m0 : Nat) : tie_last.r_l0 @bdI (callA C n) n (tie_last.l0 n m0) = tie_last.l0 n (m0 + 1) := by
  funext v0 v3 v6 v7 H
  unfold tie_last.r_l0
  kernel_rfl
noncomputable def tie_last.r_l0_lp (bd : B3) (call : FuncId → List V → Heap → Option R) (n : Nat) (m : Nat) : V → V → V → V → Heap → Option R := Nat.rec (motive := fun _ => V → V → V → V → Heap → Option R) (fun _ _ _ _ _ => none) (fun _ self => tie_last.r_l0 bd call n self) m
theorem tie_last.r_l0_lp_e (n : Nat) : tie_last.r_l0_lp @bdI (callA C n) n = tie_last.l0 n := by
  funext m
  induction m with
  | zero => funext v0 v3 v6 v7 H; kernel_rfl
  | succ k ih => exact (congrArg (tie_last.r_l0 @bdI (callA C n) n) ih).trans (tie_last.r_l0_e n k)
noncomputable def tie_last.r (bd : B3) (call : FuncId → List V → Heap → Option R) (n : Nat) (v0 : V) (H : Heap) : Option R :=
 (bd (lenSl v0) fun t6_1 =>
 (tie_last.r_l0_lp bd call n n v0 (.int .i64 0) t6_1 (.int .i64 0) H))
theorem tie_last.r_e (n : Nat) (v0 : V) (H : Heap) : tie_last.r @bdI (callA C n) n v0 H = E C n 126 [] (argsA 0 [v0]) H (kR C 126) := by
  unfold tie_last.r
  rewrite [tie_last.r_l0_lp_e]
  kernel_rfl
noncomputable def tie_last.rf (bd : B3) (call : FuncId → List V → Heap → Option R) (n : Nat) (a : List V) (H : Heap) : Option R := pureA a H fun a => (match a with | [v0] => tie_last.r bd call n v0 ⟨0, .nil⟩ | a => E C n 126 [] (argsA 0 a) ⟨0, .nil⟩ (kR C 126))
theorem tie_last.rf_b (n : Nat) (a : List V) (H : Heap) : (match a with | [v0] => tie_last.r @bdI (callA C n) n v0 H | a => E C n 126 [] (argsA 0 a) H (kR C 126)) = E C n 126 [] (argsA 0 a) H (kR C 126) := by
  split
  · exact tie_last.r_e n _ H
  · rfl
theorem tie_last.rf_e (n : Nat) (a : List V) (H : Heap) : tie_last.rf @bdI (callA C n) n a H = callA C (n + 1) 126 a H := by
  unfold tie_last.rf
  refine (congrArg (pureA a H) (funext fun a => tie_last.rf_b n a ⟨0, .nil⟩)).trans ?_
  kernel_rfl
noncomputable def bucket_Grid_cell.r (bd : B3) (call : FuncId → List V → Heap → Option R) (n : Nat) (v0 v1 : V) (H : Heap) : Option R :=
 (bd (boxA ty_api_Point v1) fun o1 =>
 (bd (eqlA P ty_p_bucket_Grid v0 (.ptr none)) fun t11_2 =>
 (bd (asB t11_2) fun b3 =>
 if b3 = true then
 (some (.tuple [(.int .i64 (-1)), (.int .i64 (-1)), (.bool false)], (H.push o1)))
 else
 (bd (ldN 2 (.ptr (some (H.n, 0))) ((H.push o1).more 2)) fun t13_4 =>
 (bd (nilC v0) fun t15_5 =>
 (bd (faA 0 t15_5) fun t16_6 =>
 (bd (ld1 t16_6 ((H.push o1).more 2)) fun t17_7 =>
 (bd (call 161 [t13_4, t17_7] ((H.push o1).more 2)) fun r8 =>
 (bd (extA r8.1 0) fun t19_9 =>
 (bd (stA 2 (.ptr (some (((H.push o1).n + 0), 0))) t19_9 ((r8.2.set ((H.push o1).n + 0) (.cells [(.int .i64 0), (.int .i64 0)] ty_api_Point false)).set ((H.push o1).n + 1) (.cells [(.int .i64 0), (.int .i64 0)] ty_api_Off false))) fun H10 =>
 (bd (extA r8.1 1) fun t20_11 =>
 (bd (stA 2 (.ptr (some (((H.push o1).n + 1), 0))) t20_11 H10) fun H12 =>
 (bd (extA r8.1 2) fun t21_13 =>
 (bd (unA .not t21_13) fun t23_14 =>
 (bd (asB t23_14) fun b15 =>
 if b15 = true then
 (some (.tuple [(.int .i64 (-1)), (.int .i64 (-1)), (.bool false)], H12))
 else
 (bd (faA 0 (.ptr (some (((H.push o1).n + 0), 0)))) fun t24_16 =>
 (bd (ld1 t24_16 (H12.more 0)) fun t25_17 =>
 (bd (nilC v0) fun t27_18 =>
 (bd (faA 1 t27_18) fun t28_19 =>
 (bd (ld1 t28_19 (H12.more 0)) fun t29_20 =>
 (bd (arA .mul t25_17 t29_20) fun t30_21 =>
 (bd (nilC v0) fun t32_22 =>
 (bd (faA 0 t32_22) fun t33_23 =>
 (bd (ld1 t33_23 (H12.more 0)) fun t34_24 =>
 (bd (arA .quo t30_21 t34_24) fun t35_25 =>
 (bd (faA 1 (.ptr (some (((H.push o1).n + 0), 0)))) fun t36_26 =>
 (bd (ld1 t36_26 (H12.more 0)) fun t37_27 =>
 (bd (nilC v0) fun t39_28 =>
 (bd (faA 1 t39_28) fun t40_29 =>
 (bd (ld1 t40_29 (H12.more 0)) fun t41_30 =>
 (bd (arA .mul t37_27 t41_30) fun t42_31 =>
 (bd (nilC v0) fun t44_32 =>
 (bd (faA 0 t44_32) fun t45_33 =>
 (bd (ld1 t45_33 (H12.more 0)) fun t46_34 =>
 (bd (arA .quo t42_31 t46_34) fun t47_35 =>
 (some (.tuple [t35_25, t47_35, (.bool true)], (H12.more 0))))))))))))))))))))))))))))))))))))))
theorem bucket_Grid_cell.r_e (n : Nat) (v0 v1 : V) (H : Heap) : bucket_Grid_cell.r @bdI (callA C n) n v0 v1 H = E C n 130 [] (argsA 0 [v0, v1]) H (kR C 130) := by
  unfold bucket_Grid_cell.r
  kernel_rfl
noncomputable def bucket_Grid_cell.rf (bd : B3) (call : FuncId → List V → Heap → Option R) (n : Nat) (a : List V) (H : Heap) : Option R := (match a with | [v0, v1] => bucket_Grid_cell.r bd call n v0 v1 H | a => E C n 130 [] (argsA 0 a) H (kR C 130))
theorem bucket_Grid_cell.rf_b (n : Nat) (a : List V) (H : Heap) : (match a with | [v0, v1] => bucket_Grid_cell.r @bdI (callA C n) n v0 v1 H | a => E C n 130 [] (argsA 0 a) H (kR C 130)) = E C n 130 [] (argsA 0 a) H (kR C 130) := by
  split
  · exact bucket_Grid_cell.r_e n _ _ H
  · rfl
theorem bucket_Grid_cell.rf_e (n : Nat) (a : List V) (H : Heap) : bucket_Grid_cell.rf @bdI (callA C n) n a H = callA C (n + 1) 130 a H := by
  unfold bucket_Grid_cell.rf
  refine (bucket_Grid_cell.rf_b n a H).trans ?_
  kernel_rfl
noncomputable def bucket_Grid_at.r (bd : B3) (call : FuncId → List V → Heap → Option R) (n : Nat) (v0 v1 v2 : V) (H : Heap) : Option R :=
 (bd (nilC v0) fun t9_1 =>
 (bd (faA 1 t9_1) fun t10_2 =>
 (bd (ld1 t10_2 H) fun t11_3 =>
 (bd (arA .add v1 t11_3) fun t14_4 =>
 (bd (arA .rem t14_4 t11_3) fun t16_5 =>
 (bd (arA .mul t16_5 t11_3) fun t18_6 =>
 (bd (arA .add v2 t11_3) fun t21_7 =>
 (bd (arA .rem t21_7 t11_3) fun t23_8 =>
 (bd (arA .add t18_6 t23_8) fun t24_9 =>
 (some (t24_9, (H.more 0))))))))))))
theorem bucket_Grid_at.r_e (n : Nat) (v0 v1 v2 : V) (H : Heap) : bucket_Grid_at.r @bdI (callA C n) n v0 v1 v2 H = E C n 131 [] (argsA 0 [v0, v1, v2]) H (kR C 131) := by
  unfold bucket_Grid_at.r
  kernel_rfl
noncomputable def bucket_Grid_at.rf (bd : B3) (call : FuncId → List V → Heap → Option R) (n : Nat) (a : List V) (H : Heap) : Option R := (match a with | [v0, v1, v2] => bucket_Grid_at.r bd call n v0 v1 v2 H | a => E C n 131 [] (argsA 0 a) H (kR C 131))
theorem bucket_Grid_at.rf_b (n : Nat) (a : List V) (H : Heap) : (match a with | [v0, v1, v2] => bucket_Grid_at.r @bdI (callA C n) n v0 v1 v2 H | a => E C n 131 [] (argsA 0 a) H (kR C 131)) = E C n 131 [] (argsA 0 a) H (kR C 131) := by
  split
  · exact bucket_Grid_at.r_e n _ _ _ H
  · rfl
theorem bucket_Grid_at.rf_e (n : Nat) (a : List V) (H : Heap) : bucket_Grid_at.rf @bdI (callA C n) n a H = callA C (n + 1) 131 a H := by
  unfold bucket_Grid_at.rf
  refine (bucket_Grid_at.rf_b n a H).trans ?_
  kernel_rfl
noncomputable def pdt_sheet_isBig.r (bd : B3) (call : FuncId → List V → Heap → Option R) (n : Nat) (v0 v1 : V) (H : Heap) : Option R :=
 (bd (nilC v0) fun t13_1 =>
 (bd (faA 0 t13_1) fun t14_2 =>
 (bd (ld1 t14_2 H) fun t15_3 =>
 (bd (call 162 [t15_3, v1, (.int .i64 0)] H) fun r4 =>
 (bd (extA r4.1 0) fun t18_5 =>
 (bd (extA r4.1 1) fun t19_6 =>
 (bd (stA 2 (.ptr (some (r4.2.n, 0))) t18_5 (r4.2.push (.cells [(.int .i64 0), (.int .i64 0)] ty_api_Point false))) fun H7 =>
 (bd (nilC v0) fun t22_8 =>
 (bd (faA 0 t22_8) fun t23_9 =>
 (bd (ld1 t23_9 H7) fun t24_10 =>
 (bd (call 162 [t24_10, v1, (.int .i64 1)] H7) fun r11 =>
 (bd (extA r11.1 0) fun t27_12 =>
 (bd (extA r11.1 1) fun t28_13 =>
 (bd (stA 2 (.ptr (some (r11.2.n, 0))) t27_12 (r11.2.push (.cells [(.int .i64 0), (.int .i64 0)] ty_api_Point false))) fun H14 =>
 (bd (nilC v0) fun t31_15 =>
 (bd (faA 0 t31_15) fun t32_16 =>
 (bd (ld1 t32_16 H14) fun t33_17 =>
 (bd (call 162 [t33_17, v1, (.int .i64 2)] H14) fun r18 =>
 (bd (extA r18.1 0) fun t36_19 =>
 (bd (extA r18.1 1) fun t37_20 =>
 (bd (stA 2 (.ptr (some (r18.2.n, 0))) t36_19 (r18.2.push (.cells [(.int .i64 0), (.int .i64 0)] ty_api_Point false))) fun H21 =>
 (bd (unA .not t19_6) fun t39_22 =>
 (bd (asB t39_22) fun b23 =>
 if b23 = true then
 (some ((.bool true), (H21.more 0)))
 else
 (bd (unA .not t28_13) fun t42_24 =>
 (bd (asB t42_24) fun b25 =>
 if b25 = true then
 (some ((.bool true), (H21.more 0)))
 else
 (bd (unA .not t37_20) fun t46_26 =>
 (bd (asB t46_26) fun b27 =>
 if b27 = true then
 (some ((.bool true), (H21.more 0)))
 else
 (bd (ldN 2 (.ptr (some (r4.2.n, 0))) (H21.more 0)) fun t49_28 =>
 (bd (ldN 2 (.ptr (some (r11.2.n, 0))) (H21.more 0)) fun t50_29 =>
 (bd (ldN 2 (.ptr (some (r18.2.n, 0))) (H21.more 0)) fun t51_30 =>
 (bd (nilC v0) fun t53_31 =>
 (bd (faA 2 t53_31) fun t54_32 =>
 (bd (ld1 t54_32 (H21.more 0)) fun t55_33 =>
 (bd (call 135 [t49_28, t50_29, t51_30, t55_33] (H21.more 0)) fun r34 =>
 (bd (unA .not r34.1) fun t57_35 =>
 (some (t57_35, r34.2)))))))))))))))))))))))))))))))))))))
theorem pdt_sheet_isBig.r_e (n : Nat) (v0 v1 : V) (H : Heap) : pdt_sheet_isBig.r @bdI (callA C n) n v0 v1 H = E C n 132 [] (argsA 0 [v0, v1]) H (kR C 132) := by
  unfold pdt_sheet_isBig.r
  kernel_rfl
noncomputable def pdt_sheet_isBig.rf (bd : B3) (call : FuncId → List V → Heap → Option R) (n : Nat) (a : List V) (H : Heap) : Option R := (match a with | [v0, v1] => pdt_sheet_isBig.r bd call n v0 v1 H | a => E C n 132 [] (argsA 0 a) H (kR C 132))
theorem pdt_sheet_isBig.rf_b (n : Nat) (a : List V) (H : Heap) : (match a with | [v0, v1] => pdt_sheet_isBig.r @bdI (callA C n) n v0 v1 H | a => E C n 132 [] (argsA 0 a) H (kR C 132)) = E C n 132 [] (argsA 0 a) H (kR C 132) := by
  split
  · exact pdt_sheet_isBig.r_e n _ _ H
  · rfl
theorem pdt_sheet_isBig.rf_e (n : Nat) (a : List V) (H : Heap) : pdt_sheet_isBig.rf @bdI (callA C n) n a H = callA C (n + 1) 132 a H := by
  unfold pdt_sheet_isBig.rf
  refine (pdt_sheet_isBig.rf_b n a H).trans ?_
  kernel_rfl
noncomputable def circum_Small.r (bd : B3) (call : FuncId → List V → Heap → Option R) (n : Nat) (v0 v1 v2 v3 : V) (H : Heap) : Option R :=
 (bd (boxA ty_api_Point v0) fun o1 =>
 (bd (boxA ty_api_Point v1) fun o2 =>
 (bd (boxA ty_api_Point v2) fun o3 =>
 (bd (arA .lss v3 (.int .i64 1)) fun t11_4 =>
 (bd (asB t11_4) fun b5 =>
 if b5 = true then
 (some ((.bool false), (((H.push o1).push o2).push o3)))
 else
 (bd (arA .gtr v3 (.int .i64 17179869184)) fun t14_6 =>
 (bd (asB t14_6) fun b7 =>
 if b7 = true then
 (some ((.bool false), (((H.push o1).push o2).push o3)))
 else
 (bd (ldN 2 (.ptr (some (H.n, 0))) (((H.push o1).push o2).push o3)) fun t17_8 =>
 (bd (call 93 [t17_8] (((H.push o1).push o2).push o3)) fun r9 =>
 (bd (unA .not r9.1) fun t19_10 =>
 (bd (asB t19_10) fun b11 =>
 if b11 = true then
 (some ((.bool false), r9.2))
 else
 (bd (ldN 2 (.ptr (some (H.n, 0))) r9.2) fun t22_12 =>
 (bd (ldN 2 (.ptr (some ((H.push o1).n, 0))) r9.2) fun t23_13 =>
 (bd (ldN 2 (.ptr (some (((H.push o1).push o2).n, 0))) r9.2) fun t24_14 =>
 (bd (call 165 [t22_12, t23_13, t24_14] r9.2) fun r15 =>
 (bd (unA .not r15.1) fun t26_16 =>
 (bd (asB t26_16) fun b17 =>
 if b17 = true then
 (some ((.bool false), r15.2))
 else
 (bd (call 167 [(.int .i64 4)] (r15.2.more 1)) fun r18 =>
 (bd (ldN 2 (.ptr (some (H.n, 0))) r18.2) fun t29_19 =>
 (bd (chk (ldN 2 (.ptr (some (H.n, 0))) (r15.2.more 1)) t29_19) fun _ =>
 (bd (ldN 2 (.ptr (some ((H.push o1).n, 0))) r18.2) fun t30_20 =>
 (bd (chk (ldN 2 (.ptr (some ((H.push o1).n, 0))) (r15.2.more 1)) t30_20) fun _ =>
 (bd (ldN 2 (.ptr (some (((H.push o1).push o2).n, 0))) r18.2) fun t31_21 =>
 (bd (chk (ldN 2 (.ptr (some (((H.push o1).push o2).n, 0))) (r15.2.more 1)) t31_21) fun _ =>
 (bd (call 168 [t29_19, t30_20, t31_21] r18.2) fun r22 =>
 (bd (call 166 [r18.1, r22.1] r22.2) fun r23 =>
 (bd (stA 2 (.ptr (some ((r15.2.n + 0), 0))) r23.1 (r23.2.set (r15.2.n + 0) (.cells [(.bool false), (.slice ⟨none, 0, 0, false⟩)] ty_api_Int false))) fun H24 =>
 (bd (call 29 [v3, v3] (H24.more 0)) fun r25 =>
 (bd (call 170 [r25.1] r25.2) fun r26 =>
 (bd (ldN 2 (.ptr (some (H.n, 0))) r26.2) fun t39_27 =>
 (bd (chk (ldN 2 (.ptr (some (H.n, 0))) r25.2) t39_27) fun _ =>
 (bd (chk (ldN 2 (.ptr (some (H.n, 0))) (H24.more 0)) t39_27) fun _ =>
 (bd (ldN 2 (.ptr (some ((H.push o1).n, 0))) r26.2) fun t40_28 =>
 (bd (chk (ldN 2 (.ptr (some ((H.push o1).n, 0))) r25.2) t40_28) fun _ =>
 (bd (chk (ldN 2 (.ptr (some ((H.push o1).n, 0))) (H24.more 0)) t40_28) fun _ =>
 (bd (ldN 2 (.ptr (some (((H.push o1).push o2).n, 0))) r26.2) fun t41_29 =>
 (bd (chk (ldN 2 (.ptr (some (((H.push o1).push o2).n, 0))) r25.2) t41_29) fun _ =>
 (bd (chk (ldN 2 (.ptr (some (((H.push o1).push o2).n, 0))) (H24.more 0)) t41_29) fun _ =>
 (bd (call 171 [t39_27, t40_28, t41_29] r26.2) fun r30 =>
 (bd (call 166 [r26.1, r30.1] r30.2) fun r31 =>
 (bd (ldN 2 (.ptr (some ((r15.2.n + 0), 0))) r31.2) fun t34_32 =>
 (bd (chk (ldN 2 (.ptr (some ((r15.2.n + 0), 0))) r30.2) t34_32) fun _ =>
 (bd (chk (ldN 2 (.ptr (some ((r15.2.n + 0), 0))) r26.2) t34_32) fun _ =>
 (bd (chk (ldN 2 (.ptr (some ((r15.2.n + 0), 0))) r25.2) t34_32) fun _ =>
 (bd (chk (ldN 2 (.ptr (some ((r15.2.n + 0), 0))) (H24.more 0)) t34_32) fun _ =>
 (bd (call 169 [t34_32, r31.1] r31.2) fun r33 =>
 (bd (arA .lss r33.1 (.int .i64 0)) fun t45_34 =>
 (some (t45_34, r33.2)))))))))))))))))))))))))))))))))))))))))))))))))
theorem circum_Small.r_e (n : Nat) (v0 v1 v2 v3 : V) (H : Heap) : circum_Small.r @bdI (callA C n) n v0 v1 v2 v3 H = E C n 135 [] (argsA 0 [v0, v1, v2, v3]) H (kR C 135) := by
  unfold circum_Small.r
  kernel_rfl
noncomputable def circum_Small.rf (bd : B3) (call : FuncId → List V → Heap → Option R) (n : Nat) (a : List V) (H : Heap) : Option R := pureA a H fun a => (match a with | [v0, v1, v2, v3] => circum_Small.r bd call n v0 v1 v2 v3 ⟨0, .nil⟩ | a => E C n 135 [] (argsA 0 a) ⟨0, .nil⟩ (kR C 135))
theorem circum_Small.rf_b (n : Nat) (a : List V) (H : Heap) : (match a with | [v0, v1, v2, v3] => circum_Small.r @bdI (callA C n) n v0 v1 v2 v3 H | a => E C n 135 [] (argsA 0 a) H (kR C 135)) = E C n 135 [] (argsA 0 a) H (kR C 135) := by
  split
  · exact circum_Small.r_e n _ _ _ _ H
  · rfl
theorem circum_Small.rf_e (n : Nat) (a : List V) (H : Heap) : circum_Small.rf @bdI (callA C n) n a H = callA C (n + 1) 135 a H := by
  unfold circum_Small.rf
  refine (congrArg (pureA a H) (funext fun a => circum_Small.rf_b n a ⟨0, .nil⟩)).trans ?_
  kernel_rfl
end Go.AM.L
end
section
set_option linter.unusedVariables false
set_option linter.unusedSimpArgs false
set_option maxRecDepth 1000000
set_option linter.unusedVariables false
namespace Go.AM.L
@[irreducible] noncomputable def cover_sheets.l0 (n m0 : Nat) (v0 v4 : V) (H : Heap) : Option R := Lp C n 136 [1, 0, 0] m0 [(0, v0), (4, v4)] H (kB 0 (kR C 136))
@[irreducible] noncomputable def cover_sheets.l1 (n m0 m1 : Nat) (v0 v2 v4 v7 : V) (H : Heap) : Option R := Lp C n 136 [1, 0, 0, 1, 1, 0, 0, 1, 1, 0, 0] m1 [(0, v0), (2, v2), (4, v4), (7, v7)] H (kB 2 (kB 1 (kC C n 136 [1, 0, 0, 1, 1, 1] (kL C n 136 [1, 0, 0] m0 (kB 0 (kR C 136))))))
noncomputable def cover_sheets.r_l1 (bd : B3) (call : FuncId → List V → Heap → Option R) (n : Nat) (s0 : V → V → Heap → Option R) (s1 : V → V → V → V → Heap → Option R) (v0 v2 v4 v7 : V) (H : Heap) : Option R :=
 (bd (arA .lss v7 (.int .i64 3)) fun t8_1 =>
 (bd (asB t8_1) fun b2 =>
 if b2 = true then
 (bd (flA [(0, 1), (1, 1)] [(.int .i64 0), (.int .i64 0)] [(0, v2), (1, v7)]) fun t13_3 =>
 (bd (callV call v0 [t13_3] H) fun r4 =>
 (bd (unA .not r4.1) fun t15_5 =>
 (bd (asB t15_5) fun b6 =>
 if b6 = true then
 (some (.tuple [], r4.2))
 else
 (bd (arA .add v7 (.int .i64 1)) fun t16_7 =>
 (s1 v0 v2 v4 t16_7 r4.2))))))
 else
 (bd (arA .add v4 (.int .i64 1)) fun t17_8 =>
 (s0 v0 t17_8 H))))
theorem cover_sheets.r_l1_e (n m0 m1 : Nat) : cover_sheets.r_l1 @bdI (callA C n) n (cover_sheets.l0 n m0) (cover_sheets.l1 n m0 m1) = cover_sheets.l1 n m0 (m1 + 1) := by
  funext v0 v2 v4 v7 H
  unfold cover_sheets.r_l1
  kernel_rfl
noncomputable def cover_sheets.r_l1_lp (bd : B3) (call : FuncId → List V → Heap → Option R) (n : Nat) (s0 : V → V → Heap → Option R) (m : Nat) : V → V → V → V → Heap → Option R := Nat.rec (motive := fun _ => V → V → V → V → Heap → Option R) (fun _ _ _ _ _ => none) (fun _ self => cover_sheets.r_l1 bd call n s0 self) m
theorem cover_sheets.r_l1_lp_e (n m0 : Nat) : cover_sheets.r_l1_lp @bdI (callA C n) n (cover_sheets.l0 n m0) = cover_sheets.l1 n m0 := by
  funext m
  induction m with
  | zero => funext v0 v2 v4 v7 H; kernel_rfl
  | succ k ih => exact (congrArg (cover_sheets.r_l1 @bdI (callA C n) n (cover_sheets.l0 n m0)) ih).trans (cover_sheets.r_l1_e n m0 k)
noncomputable def cover_sheets.r_l0 (bd : B3) (call : FuncId → List V → Heap → Option R) (n : Nat) (s0 : V → V → Heap → Option R) (v0 v4 : V) (H : Heap) : Option R :=
 (bd (arA .lss v4 (.int .i64 3)) fun t5_1 =>
 (bd (asB t5_1) fun b2 =>
 if b2 = true then
 (cover_sheets.r_l1_lp bd call n s0 n v0 v4 v4 (.int .i64 0) H)
 else
 (some (.tuple [], H))))
theorem cover_sheets.r_l0_e (n m0 : Nat) : cover_sheets.r_l0 @bdI (callA C n) n (cover_sheets.l0 n m0) = cover_sheets.l0 n (m0 + 1) := by
  funext v0 v4 H
  unfold cover_sheets.r_l0
  rewrite [cover_sheets.r_l1_lp_e]
  kernel_rfl
noncomputable def cover_sheets.r_l0_lp (bd : B3) (call : FuncId → List V → Heap → Option R) (n : Nat) (m : Nat) : V → V → Heap → Option R := Nat.rec (motive := fun _ => V → V → Heap → Option R) (fun _ _ _ => none) (fun _ self => cover_sheets.r_l0 bd call n self) m
theorem cover_sheets.r_l0_lp_e (n : Nat) : cover_sheets.r_l0_lp @bdI (callA C n) n = cover_sheets.l0 n := by
  funext m
  induction m with
  | zero => funext v0 v4 H; kernel_rfl
  | succ k ih => exact (congrArg (cover_sheets.r_l0 @bdI (callA C n) n) ih).trans (cover_sheets.r_l0_e n k)
noncomputable def cover_sheets.r (bd : B3) (call : FuncId → List V → Heap → Option R) (n : Nat) (v0 : V) (H : Heap) : Option R :=
 (cover_sheets.r_l0_lp bd call n n v0 (.int .i64 0) H)
theorem cover_sheets.r_e (n : Nat) (v0 : V) (H : Heap) : cover_sheets.r @bdI (callA C n) n v0 H = E C n 136 [] (argsA 0 [v0]) H (kR C 136) := by
  unfold cover_sheets.r
  rewrite [cover_sheets.r_l0_lp_e]
  kernel_rfl
noncomputable def cover_sheets.rf (bd : B3) (call : FuncId → List V → Heap → Option R) (n : Nat) (a : List V) (H : Heap) : Option R := (match a with | [v0] => cover_sheets.r bd call n v0 H | a => E C n 136 [] (argsA 0 a) H (kR C 136))
theorem cover_sheets.rf_b (n : Nat) (a : List V) (H : Heap) : (match a with | [v0] => cover_sheets.r @bdI (callA C n) n v0 H | a => E C n 136 [] (argsA 0 a) H (kR C 136)) = E C n 136 [] (argsA 0 a) H (kR C 136) := by
  split
  · exact cover_sheets.r_e n _ H
  · rfl
theorem cover_sheets.rf_e (n : Nat) (a : List V) (H : Heap) : cover_sheets.rf @bdI (callA C n) n a H = callA C (n + 1) 136 a H := by
  unfold cover_sheets.rf
  refine (cover_sheets.rf_b n a H).trans ?_
  kernel_rfl
noncomputable def mesh_Mesh_AddVert.r (bd : B3) (call : FuncId → List V → Heap → Option R) (n : Nat) (v0 v1 v2 : V) (H : Heap) : Option R :=
 (bd (boxA ty_api_Point v1) fun o1 =>
 (bd (eqlA P ty_p_mesh_Mesh v0 (.ptr none)) fun t9_2 =>
 (bd (asB t9_2) fun b3 =>
 if b3 = true then
 (some ((.int .i64 (-1)), ((H.push o1).more 0)))
 else
 (bd (faA 0 (.ptr (some (H.n, 0)))) fun t11_4 =>
 (bd (ld1 t11_4 ((H.push o1).more 0)) fun t12_5 =>
 (bd (arA .lss t12_5 (.int .i64 0)) fun t13_6 =>
 (bd (asB t13_6) fun b7 =>
 if b7 = true then
 (some ((.int .i64 (-1)), ((H.push o1).more 0)))
 else
 (bd (faA 0 (.ptr (some (H.n, 0)))) fun t16_8 =>
 (bd (ld1 t16_8 ((H.push o1).more 0)) fun t17_9 =>
 (bd (nilC v0) fun t19_10 =>
 (bd (faA 0 t19_10) fun t20_11 =>
 (bd (ld1 t20_11 ((H.push o1).more 0)) fun t21_12 =>
 (bd (arA .geq t17_9 t21_12) fun t22_13 =>
 (bd (asB t22_13) fun b14 =>
 if b14 = true then
 (some ((.int .i64 (-1)), ((H.push o1).more 0)))
 else
 (bd (faA 1 (.ptr (some (H.n, 0)))) fun t25_15 =>
 (bd (ld1 t25_15 ((H.push o1).more 0)) fun t26_16 =>
 (bd (arA .lss t26_16 (.int .i64 0)) fun t27_17 =>
 (bd (asB t27_17) fun b18 =>
 if b18 = true then
 (some ((.int .i64 (-1)), ((H.push o1).more 0)))
 else
 (bd (faA 1 (.ptr (some (H.n, 0)))) fun t30_19 =>
 (bd (ld1 t30_19 ((H.push o1).more 0)) fun t31_20 =>
 (bd (nilC v0) fun t33_21 =>
 (bd (faA 0 t33_21) fun t34_22 =>
 (bd (ld1 t34_22 ((H.push o1).more 0)) fun t35_23 =>
 (bd (arA .geq t31_20 t35_23) fun t36_24 =>
 (bd (asB t36_24) fun b25 =>
 if b25 = true then
 (some ((.int .i64 (-1)), ((H.push o1).more 0)))
 else
 (bd (nilC v0) fun t39_26 =>
 (bd (faA 1 t39_26) fun t40_27 =>
 (bd (ld1 t40_27 ((H.push o1).more 0)) fun t41_28 =>
 (bd (call 172 [t41_28] ((H.push o1).more 0)) fun r29 =>
 (bd (nilC v0) fun t45_30 =>
 (bd (faA 3 t45_30) fun t46_31 =>
 (bd (ld1 t46_31 (r29.2.more 0)) fun t47_32 =>
 (bd (ldN 2 (.ptr (some (H.n, 0))) (r29.2.more 0)) fun t50_33 =>
 (bd (flA [(0, 1), (1, 2), (3, 1)] [(.int .i64 0), (.int .i64 0), (.int .i64 0), (.int .i64 0)] [(0, r29.1), (1, t50_33), (2, v2)]) fun t52_34 =>
 (bd (call 173 [t47_32, r29.1, t52_34] (r29.2.more 0)) fun r35 =>
 (bd (nilC v0) fun t54_36 =>
 (bd (faA 3 t54_36) fun t55_37 =>
 (bd (stA 1 t55_37 r35.1 r35.2) fun H38 =>
 (some (r29.1, H38))))))))))))))))))))))))))))))))))))))))
theorem mesh_Mesh_AddVert.r_e (n : Nat) (v0 v1 v2 : V) (H : Heap) : mesh_Mesh_AddVert.r @bdI (callA C n) n v0 v1 v2 H = E C n 137 [] (argsA 0 [v0, v1, v2]) H (kR C 137) := by
  unfold mesh_Mesh_AddVert.r
  kernel_rfl
noncomputable def mesh_Mesh_AddVert.rf (bd : B3) (call : FuncId → List V → Heap → Option R) (n : Nat) (a : List V) (H : Heap) : Option R := (match a with | [v0, v1, v2] => mesh_Mesh_AddVert.r bd call n v0 v1 v2 H | a => E C n 137 [] (argsA 0 a) H (kR C 137))
theorem mesh_Mesh_AddVert.rf_b (n : Nat) (a : List V) (H : Heap) : (match a with | [v0, v1, v2] => mesh_Mesh_AddVert.r @bdI (callA C n) n v0 v1 v2 H | a => E C n 137 [] (argsA 0 a) H (kR C 137)) = E C n 137 [] (argsA 0 a) H (kR C 137) := by
  split
  · exact mesh_Mesh_AddVert.r_e n _ _ _ H
  · rfl
theorem mesh_Mesh_AddVert.rf_e (n : Nat) (a : List V) (H : Heap) : mesh_Mesh_AddVert.rf @bdI (callA C n) n a H = callA C (n + 1) 137 a H := by
  unfold mesh_Mesh_AddVert.rf
  refine (mesh_Mesh_AddVert.rf_b n a H).trans ?_
  kernel_rfl
noncomputable def cover_corner.r (bd : B3) (call : FuncId → List V → Heap → Option R) (n : Nat) (v0 v1 : V) (H : Heap) : Option R :=
 (bd (boxA ty_api_Off v1) fun o1 =>
 (bd (faA 0 (.ptr (some (H.n, 0)))) fun t11_2 =>
 (bd (ld1 t11_2 ((H.push o1).push (.cells [(.int .i64 0), (.int .i64 0)] ty_api_Off false))) fun t12_3 =>
 (bd (call 174 [t12_3] ((H.push o1).push (.cells [(.int .i64 0), (.int .i64 0)] ty_api_Off false))) fun r4 =>
 (bd (extA r4.1 0) fun t14_5 =>
 (bd (extA r4.1 1) fun t15_6 =>
 (bd (faA 1 (.ptr (some (H.n, 0)))) fun t17_7 =>
 (bd (ld1 t17_7 r4.2) fun t18_8 =>
 (bd (call 174 [t18_8] r4.2) fun r9 =>
 (bd (extA r9.1 0) fun t20_10 =>
 (bd (extA r9.1 1) fun t21_11 =>
 (bd (arA .mul (.int .i64 9) v0) fun t23_12 =>
 (bd (arA .mul (.int .i64 3) t14_5) fun t25_13 =>
 (bd (arA .add t23_12 t25_13) fun t26_14 =>
 (bd (arA .add t26_14 t20_10) fun t28_15 =>
 (bd (flA [(0, 1), (1, 1)] [(.int .i64 0), (.int .i64 0)] [(0, t15_6), (1, t21_11)]) fun t31_16 =>
 (bd (stA 2 (.ptr (some ((H.push o1).n, 0))) t31_16 r9.2) fun H17 =>
 (bd (ldN 2 (.ptr (some ((H.push o1).n, 0))) H17) fun t18 =>
 (some (.tuple [t28_15, t18], H17))))))))))))))))))))
theorem cover_corner.r_e (n : Nat) (v0 v1 : V) (H : Heap) : cover_corner.r @bdI (callA C n) n v0 v1 H = E C n 138 [] (argsA 0 [v0, v1]) H (kR C 138) := by
  unfold cover_corner.r
  kernel_rfl
noncomputable def cover_corner.rf (bd : B3) (call : FuncId → List V → Heap → Option R) (n : Nat) (a : List V) (H : Heap) : Option R := pureA a H fun a => (match a with | [v0, v1] => cover_corner.r bd call n v0 v1 ⟨0, .nil⟩ | a => E C n 138 [] (argsA 0 a) ⟨0, .nil⟩ (kR C 138))
theorem cover_corner.rf_b (n : Nat) (a : List V) (H : Heap) : (match a with | [v0, v1] => cover_corner.r @bdI (callA C n) n v0 v1 H | a => E C n 138 [] (argsA 0 a) H (kR C 138)) = E C n 138 [] (argsA 0 a) H (kR C 138) := by
  split
  · exact cover_corner.r_e n _ _ H
  · rfl
theorem cover_corner.rf_e (n : Nat) (a : List V) (H : Heap) : cover_corner.rf @bdI (callA C n) n a H = callA C (n + 1) 138 a H := by
  unfold cover_corner.rf
  refine (congrArg (pureA a H) (funext fun a => cover_corner.rf_b n a ⟨0, .nil⟩)).trans ?_
  kernel_rfl
@[irreducible] noncomputable def mesh_Mesh_AddFace.l0 (n m0 : Nat) (v0 v3 v42 : V) (H : Heap) : Option R := Lp C n 139 [1, 1, 1, 0, 1, 0, 0] m0 [(0, v0), (3, v3), (42, v42)] H (kB 0 (kC C n 139 [1, 1, 1, 1] (kR C 139)))
@[irreducible] noncomputable def mesh_Mesh_AddFace.p1 (n : Nat) (v0 v3 : V) (H : Heap) : Option R := E C n 139 [1, 1, 1, 1] [(0, v0), (3, v3)] H (kR C 139)
@[irreducible] noncomputable def mesh_Mesh_AddFace.l2 (n m0 : Nat) (v0 v3 v9 v74 v75 : V) (H : Heap) : Option R := Lp C n 139 [1, 1, 1, 1, 1, 1, 0, 1, 0, 0] m0 [(0, v0), (3, v3), (9, v9), (74, v74), (75, v75)] H (kB 2 (kC C n 139 [1, 1, 1, 1, 1, 1, 1] (kR C 139)))
noncomputable def mesh_Mesh_AddFace.r_l2 (bd : B3) (call : FuncId → List V → Heap → Option R) (n : Nat) (s0 : V → V → V → V → V → Heap → Option R) (v0 v3 v9 v74 v75 : V) (H : Heap) : Option R :=
 (bd (arA .lss v75 (.int .i64 3)) fun t76_1 =>
 (bd (asB t76_1) fun b2 =>
 if b2 = true then
 (bd (ix1 3 v74 v75) fun t78_3 =>
 (bd (ldN 9 v3 (H.more 0)) fun t83_4 =>
 (bd (call 176 [t83_4, v75] (H.more 0)) fun r5 =>
 (bd (nilC v0) fun t80_6 =>
 (bd (faA 5 t80_6) fun t81_7 =>
 (bd (ld1 t81_7 r5.2) fun t82_8 =>
 (bd (chk (ld1 t81_7 (H.more 0)) t82_8) fun _ =>
 (bd (flA [(0, 1), (1, 1)] [(.int .i64 0), (.int .i64 0)] [(0, v9), (1, v75)]) fun t88_9 =>
 (bd (updM P ty_mesh_edge t82_8 r5.1 t88_9 r5.2) fun H10 =>
 (bd (nilC v0) fun t90_11 =>
 (bd (faA 6 t90_11) fun t91_12 =>
 (bd (ld1 t91_12 H10) fun t92_13 =>
 (bd (lookM P ty_int (.slice ⟨none, 0, 0, false⟩) t92_13 t78_3 false H10) fun t94_14 =>
 (bd (call 178 [t94_14, v9] H10) fun r15 =>
 (bd (unA .not r15.1) fun t97_16 =>
 (bd (asB t97_16) fun b17 =>
 if b17 = true then
 (bd (nilC v0) fun t104_18 =>
 (bd (faA 6 t104_18) fun t105_19 =>
 (bd (ld1 t105_19 (r15.2.more 1)) fun t106_20 =>
 (bd (lookM P ty_int (.slice ⟨none, 0, 0, false⟩) t106_20 t78_3 false (r15.2.more 1)) fun t108_21 =>
 (bd (bSl 1 ty_int [(.int .i64 0)] 1 [(0, v9)]) fun o22 =>
 (bd (appA 1 8 ty_int t108_21 (.slice ⟨some ((r15.2.n + 0), 0), 1, 1, false⟩) ((r15.2.more 1).set (r15.2.n + 0) o22)) fun p23 =>
 (bd (nilC v0) fun t99_24 =>
 (bd (faA 6 t99_24) fun t100_25 =>
 (bd (ld1 t100_25 p23.2) fun t101_26 =>
 (bd (chk (ld1 t100_25 (r15.2.more 1)) t101_26) fun _ =>
 (bd (updM P ty_int t101_26 t78_3 p23.1 p23.2) fun H27 =>
 (bd (arA .add v75 (.int .i64 1)) fun t112_28 =>
 (s0 v0 v3 v9 v74 t112_28 H27)))))))))))))
 else
 (bd (arA .add v75 (.int .i64 1)) fun t112_29 =>
 (s0 v0 v3 v9 v74 t112_29 r15.2))))))))))))))))))
 else
 (some (.tuple [v9, (.int .i64 0)], H))))
theorem mesh_Mesh_AddFace.r_l2_e (n m0 : Nat) : mesh_Mesh_AddFace.r_l2 @bdI (callA C n) n (mesh_Mesh_AddFace.l2 n m0) = mesh_Mesh_AddFace.l2 n (m0 + 1) := by
  funext v0 v3 v9 v74 v75 H
  unfold mesh_Mesh_AddFace.r_l2
  kernel_rfl
noncomputable def mesh_Mesh_AddFace.r_l2_lp (bd : B3) (call : FuncId → List V → Heap → Option R) (n : Nat) (m : Nat) : V → V → V → V → V → Heap → Option R := Nat.rec (motive := fun _ => V → V → V → V → V → Heap → Option R) (fun _ _ _ _ _ _ => none) (fun _ self => mesh_Mesh_AddFace.r_l2 bd call n self) m
theorem mesh_Mesh_AddFace.r_l2_lp_e (n : Nat) : mesh_Mesh_AddFace.r_l2_lp @bdI (callA C n) n = mesh_Mesh_AddFace.l2 n := by
  funext m
  induction m with
  | zero => funext v0 v3 v9 v74 v75 H; kernel_rfl
  | succ k ih => exact (congrArg (mesh_Mesh_AddFace.r_l2 @bdI (callA C n) n) ih).trans (mesh_Mesh_AddFace.r_l2_e n k)
noncomputable def mesh_Mesh_AddFace.r_p1 (bd : B3) (call : FuncId → List V → Heap → Option R) (n : Nat) (v0 v3 : V) (H : Heap) : Option R :=
 (bd (nilC v0) fun t59_1 =>
 (bd (faA 2 t59_1) fun t60_2 =>
 (bd (ld1 t60_2 H) fun t61_3 =>
 (bd (call 172 [t61_3] H) fun r4 =>
 (bd (nilC v0) fun t65_5 =>
 (bd (faA 4 t65_5) fun t66_6 =>
 (bd (ld1 t66_6 (r4.2.more 0)) fun t67_7 =>
 (bd (ldN 9 v3 (r4.2.more 0)) fun t69_8 =>
 (bd (call 177 [t67_7, r4.1, t69_8] (r4.2.more 0)) fun r9 =>
 (bd (nilC v0) fun t71_10 =>
 (bd (faA 4 t71_10) fun t72_11 =>
 (bd (stA 1 t72_11 r9.1 r9.2) fun H12 =>
 (bd (faA 0 v3) fun t73_13 =>
 (bd (ldN 3 t73_13 H12) fun t74_14 =>
 (mesh_Mesh_AddFace.r_l2_lp bd call n n v0 v3 r4.1 t74_14 (.int .i64 0) H12)))))))))))))))
theorem mesh_Mesh_AddFace.r_p1_e (n : Nat) : mesh_Mesh_AddFace.r_p1 @bdI (callA C n) n = mesh_Mesh_AddFace.p1 n := by
  funext v0 v3 H
  unfold mesh_Mesh_AddFace.r_p1
  rewrite [mesh_Mesh_AddFace.r_l2_lp_e]
  kernel_rfl
noncomputable def mesh_Mesh_AddFace.r_l0 (bd : B3) (call : FuncId → List V → Heap → Option R) (n : Nat) (s0 : V → V → V → Heap → Option R) (v0 v3 v42 : V) (H : Heap) : Option R :=
 (bd (arA .lss v42 (.int .i64 3)) fun t43_1 =>
 (bd (asB t43_1) fun b2 =>
 if b2 = true then
 (bd (ldN 9 v3 (H.more 1)) fun t50_3 =>
 (bd (call 176 [t50_3, v42] (H.more 1)) fun r4 =>
 (bd (nilC v0) fun t47_5 =>
 (bd (faA 5 t47_5) fun t48_6 =>
 (bd (ld1 t48_6 r4.2) fun t49_7 =>
 (bd (chk (ld1 t48_6 (H.more 1)) t49_7) fun _ =>
 (bd (lookM P ty_mesh_edge (.agg [(.int .i64 0), (.int .i64 0)]) t49_7 r4.1 true r4.2) fun t53_8 =>
 (bd (extA t53_8 0) fun t54_9 =>
 (bd (stA 2 (.ptr (some ((H.n + 0), 0))) t54_9 (r4.2.set (H.n + 0) (.cells [(.int .i64 0), (.int .i64 0)] ty_mesh_half false))) fun H10 =>
 (bd (extA t53_8 1) fun t55_11 =>
 (bd (asB t55_11) fun b12 =>
 if b12 = true then
 (some (.tuple [(.int .i64 (-1)), (.int .i64 6)], H10))
 else
 (bd (arA .add v42 (.int .i64 1)) fun t57_13 =>
 (s0 v0 v3 t57_13 H10)))))))))))))
 else
 (mesh_Mesh_AddFace.r_p1 bd call n v0 v3 H)))
theorem mesh_Mesh_AddFace.r_l0_e (n m0 : Nat) : mesh_Mesh_AddFace.r_l0 @bdI (callA C n) n (mesh_Mesh_AddFace.l0 n m0) = mesh_Mesh_AddFace.l0 n (m0 + 1) := by
  funext v0 v3 v42 H
  unfold mesh_Mesh_AddFace.r_l0
  rewrite [mesh_Mesh_AddFace.r_p1_e]
  kernel_rfl
noncomputable def mesh_Mesh_AddFace.r_l0_lp (bd : B3) (call : FuncId → List V → Heap → Option R) (n : Nat) (m : Nat) : V → V → V → Heap → Option R := Nat.rec (motive := fun _ => V → V → V → Heap → Option R) (fun _ _ _ _ => none) (fun _ self => mesh_Mesh_AddFace.r_l0 bd call n self) m
theorem mesh_Mesh_AddFace.r_l0_lp_e (n : Nat) : mesh_Mesh_AddFace.r_l0_lp @bdI (callA C n) n = mesh_Mesh_AddFace.l0 n := by
  funext m
  induction m with
  | zero => funext v0 v3 v42 H; kernel_rfl
  | succ k ih => exact (congrArg (mesh_Mesh_AddFace.r_l0 @bdI (callA C n) n) ih).trans (mesh_Mesh_AddFace.r_l0_e n k)
noncomputable def mesh_Mesh_AddFace.r (bd : B3) (call : FuncId → List V → Heap → Option R) (n : Nat) (v0 v1 : V) (H : Heap) : Option R :=
 (bd (boxA ty_api_Tri v1) fun o1 =>
 (bd (eqlA P ty_p_mesh_Mesh v0 (.ptr none)) fun t13_2 =>
 (bd (asB t13_2) fun b3 =>
 if b3 = true then
 (some (.tuple [(.int .i64 (-1)), (.int .i64 1)], (H.push o1)))
 else
 (bd (faA 0 (.ptr (some (H.n, 0)))) fun t16_4 =>
 (bd (idxP 3 1 t16_4 (.int .i64 0)) fun t17_5 =>
 (bd (ld1 t17_5 (H.push o1)) fun t18_6 =>
 (bd (call 164 [v0, t18_6] (H.push o1)) fun r7 =>
 (bd (unA .not r7.1) fun t20_8 =>
 (bd (asB t20_8) fun b9 =>
 if b9 = true then
 (some (.tuple [(.int .i64 (-1)), (.int .i64 1)], r7.2))
 else
 (bd (faA 0 (.ptr (some (H.n, 0)))) fun t24_10 =>
 (bd (idxP 3 1 t24_10 (.int .i64 1)) fun t25_11 =>
 (bd (ld1 t25_11 r7.2) fun t26_12 =>
 (bd (call 164 [v0, t26_12] r7.2) fun r13 =>
 (bd (unA .not r13.1) fun t28_14 =>
 (bd (asB t28_14) fun b15 =>
 if b15 = true then
 (some (.tuple [(.int .i64 (-1)), (.int .i64 1)], r13.2))
 else
 (bd (faA 0 (.ptr (some (H.n, 0)))) fun t32_16 =>
 (bd (idxP 3 1 t32_16 (.int .i64 2)) fun t33_17 =>
 (bd (ld1 t33_17 r13.2) fun t34_18 =>
 (bd (call 164 [v0, t34_18] r13.2) fun r19 =>
 (bd (unA .not r19.1) fun t36_20 =>
 (bd (asB t36_20) fun b21 =>
 if b21 = true then
 (some (.tuple [(.int .i64 (-1)), (.int .i64 1)], r19.2))
 else
 (bd (ldN 9 (.ptr (some (H.n, 0))) r19.2) fun t39_22 =>
 (bd (call 175 [v0, t39_22] r19.2) fun r23 =>
 (bd (unA .not r23.1) fun t41_24 =>
 (bd (asB t41_24) fun b25 =>
 if b25 = true then
 (some (.tuple [(.int .i64 (-1)), (.int .i64 6)], r23.2))
 else
 (mesh_Mesh_AddFace.r_l0_lp bd call n n v0 (.ptr (some (H.n, 0))) (.int .i64 0) r23.2))))))))))))))))))))))))))
theorem mesh_Mesh_AddFace.r_e (n : Nat) (v0 v1 : V) (H : Heap) : mesh_Mesh_AddFace.r @bdI (callA C n) n v0 v1 H = E C n 139 [] (argsA 0 [v0, v1]) H (kR C 139) := by
  unfold mesh_Mesh_AddFace.r
  rewrite [mesh_Mesh_AddFace.r_l0_lp_e]
  kernel_rfl
noncomputable def mesh_Mesh_AddFace.rf (bd : B3) (call : FuncId → List V → Heap → Option R) (n : Nat) (a : List V) (H : Heap) : Option R := (match a with | [v0, v1] => mesh_Mesh_AddFace.r bd call n v0 v1 H | a => E C n 139 [] (argsA 0 a) H (kR C 139))
theorem mesh_Mesh_AddFace.rf_b (n : Nat) (a : List V) (H : Heap) : (match a with | [v0, v1] => mesh_Mesh_AddFace.r @bdI (callA C n) n v0 v1 H | a => E C n 139 [] (argsA 0 a) H (kR C 139)) = E C n 139 [] (argsA 0 a) H (kR C 139) := by
  split
  · exact mesh_Mesh_AddFace.r_e n _ _ H
  · rfl
theorem mesh_Mesh_AddFace.rf_e (n : Nat) (a : List V) (H : Heap) : mesh_Mesh_AddFace.rf @bdI (callA C n) n a H = callA C (n + 1) 139 a H := by
  unfold mesh_Mesh_AddFace.rf
  refine (mesh_Mesh_AddFace.rf_b n a H).trans ?_
  kernel_rfl
noncomputable def slices_order2CmpFunc_api_Tri.r (bd : B3) (call : FuncId → List V → Heap → Option R) (n : Nat) (v0 v1 v2 v3 v4 : V) (H : Heap) : Option R :=
 (bd (idxS 9 v0 v2) fun t15_1 =>
 (bd (ldN 9 t15_1 (H.more 0)) fun t16_2 =>
 (bd (idxS 9 v0 v1) fun t19_3 =>
 (bd (ldN 9 t19_3 (H.more 0)) fun t20_4 =>
 (bd (callV call v4 [t16_2, t20_4] (H.more 0)) fun r5 =>
 (bd (arA .lss r5.1 (.int .i64 0)) fun t22_6 =>
 (bd (asB t22_6) fun b7 =>
 if b7 = true then
 (bd (nilC v3) fun t24_8 =>
 (bd (ld1 t24_8 r5.2) fun t25_9 =>
 (bd (arA .add t25_9 (.int .i64 1)) fun t26_10 =>
 (bd (nilC v3) fun t27_11 =>
 (bd (stA 1 t27_11 t26_10 r5.2) fun H12 =>
 (some (.tuple [v2, v1], H12)))))))
 else
 (some (.tuple [v1, v2], r5.2)))))))))
theorem slices_order2CmpFunc_api_Tri.r_e (n : Nat) (v0 v1 v2 v3 v4 : V) (H : Heap) : slices_order2CmpFunc_api_Tri.r @bdI (callA C n) n v0 v1 v2 v3 v4 H = E C n 149 [] (argsA 0 [v0, v1, v2, v3, v4]) H (kR C 149) := by
  unfold slices_order2CmpFunc_api_Tri.r
  kernel_rfl
noncomputable def slices_order2CmpFunc_api_Tri.rf (bd : B3) (call : FuncId → List V → Heap → Option R) (n : Nat) (a : List V) (H : Heap) : Option R := (match a with | [v0, v1, v2, v3, v4] => slices_order2CmpFunc_api_Tri.r bd call n v0 v1 v2 v3 v4 H | a => E C n 149 [] (argsA 0 a) H (kR C 149))
theorem slices_order2CmpFunc_api_Tri.rf_b (n : Nat) (a : List V) (H : Heap) : (match a with | [v0, v1, v2, v3, v4] => slices_order2CmpFunc_api_Tri.r @bdI (callA C n) n v0 v1 v2 v3 v4 H | a => E C n 149 [] (argsA 0 a) H (kR C 149)) = E C n 149 [] (argsA 0 a) H (kR C 149) := by
  split
  · exact slices_order2CmpFunc_api_Tri.r_e n _ _ _ _ _ H
  · rfl
theorem slices_order2CmpFunc_api_Tri.rf_e (n : Nat) (a : List V) (H : Heap) : slices_order2CmpFunc_api_Tri.rf @bdI (callA C n) n a H = callA C (n + 1) 149 a H := by
  unfold slices_order2CmpFunc_api_Tri.rf
  refine (slices_order2CmpFunc_api_Tri.rf_b n a H).trans ?_
  kernel_rfl
noncomputable def lift_torus.r (bd : B3) (call : FuncId → List V → Heap → Option R) (n : Nat) (v0 : V) (H : Heap) : Option R :=
 (bd (arA .geq v0 (.int .i64 1)) fun t4_1 =>
 (bd (asB t4_1) fun b2 =>
 if b2 = true then
 (bd (arA .leq v0 (.int .i64 1099511627776)) fun t7_3 =>
 (some (t7_3, H)))
 else
 (some ((.bool false), H))))
theorem lift_torus.r_e (n : Nat) (v0 : V) (H : Heap) : lift_torus.r @bdI (callA C n) n v0 H = E C n 150 [] (argsA 0 [v0]) H (kR C 150) := by
  unfold lift_torus.r
  kernel_rfl
noncomputable def lift_torus.rf (bd : B3) (call : FuncId → List V → Heap → Option R) (n : Nat) (a : List V) (H : Heap) : Option R := pureA a H fun a => (match a with | [v0] => lift_torus.r bd call n v0 ⟨0, .nil⟩ | a => E C n 150 [] (argsA 0 a) ⟨0, .nil⟩ (kR C 150))
theorem lift_torus.rf_b (n : Nat) (a : List V) (H : Heap) : (match a with | [v0] => lift_torus.r @bdI (callA C n) n v0 H | a => E C n 150 [] (argsA 0 a) H (kR C 150)) = E C n 150 [] (argsA 0 a) H (kR C 150) := by
  split
  · exact lift_torus.r_e n _ H
  · rfl
theorem lift_torus.rf_e (n : Nat) (a : List V) (H : Heap) : lift_torus.rf @bdI (callA C n) n a H = callA C (n + 1) 150 a H := by
  unfold lift_torus.rf
  refine (congrArg (pureA a H) (funext fun a => lift_torus.rf_b n a ⟨0, .nil⟩)).trans ?_
  kernel_rfl
noncomputable def lift_move.r (bd : B3) (call : FuncId → List V → Heap → Option R) (n : Nat) (v0 v1 v2 : V) (H : Heap) : Option R :=
 (bd (arA .lss v1 (.int .i64 (-2199023255552))) fun t10_1 =>
 (bd (asB t10_1) fun b2 =>
 if b2 = true then
 (some (.tuple [(.int .i64 0), (.bool false)], H))
 else
 (bd (arA .gtr v1 (.int .i64 2199023255552)) fun t13_3 =>
 (bd (asB t13_3) fun b4 =>
 if b4 = true then
 (some (.tuple [(.int .i64 0), (.bool false)], H))
 else
 (bd (arA .quo (.int .i64 2199023255552) v2) fun t16_5 =>
 (bd (unA .neg t16_5) fun t19_6 =>
 (bd (arA .lss v1 t19_6) fun t20_7 =>
 (bd (asB t20_7) fun b8 =>
 if b8 = true then
 (some (.tuple [(.int .i64 0), (.bool false)], H))
 else
 (bd (arA .gtr v1 t16_5) fun t24_9 =>
 (bd (asB t24_9) fun b10 =>
 if b10 = true then
 (some (.tuple [(.int .i64 0), (.bool false)], H))
 else
 (bd (arA .mul v1 v2) fun t29_11 =>
 (bd (arA .add v0 t29_11) fun t30_12 =>
 (bd (call 154 [t30_12] H) fun r13 =>
 (some (.tuple [t30_12, r13.1], r13.2)))))))))))))))
theorem lift_move.r_e (n : Nat) (v0 v1 v2 : V) (H : Heap) : lift_move.r @bdI (callA C n) n v0 v1 v2 H = E C n 151 [] (argsA 0 [v0, v1, v2]) H (kR C 151) := by
  unfold lift_move.r
  kernel_rfl
noncomputable def lift_move.rf (bd : B3) (call : FuncId → List V → Heap → Option R) (n : Nat) (a : List V) (H : Heap) : Option R := pureA a H fun a => (match a with | [v0, v1, v2] => lift_move.r bd call n v0 v1 v2 ⟨0, .nil⟩ | a => E C n 151 [] (argsA 0 a) ⟨0, .nil⟩ (kR C 151))
theorem lift_move.rf_b (n : Nat) (a : List V) (H : Heap) : (match a with | [v0, v1, v2] => lift_move.r @bdI (callA C n) n v0 v1 v2 H | a => E C n 151 [] (argsA 0 a) H (kR C 151)) = E C n 151 [] (argsA 0 a) H (kR C 151) := by
  split
  · exact lift_move.r_e n _ _ _ H
  · rfl
theorem lift_move.rf_e (n : Nat) (a : List V) (H : Heap) : lift_move.rf @bdI (callA C n) n a H = callA C (n + 1) 151 a H := by
  unfold lift_move.rf
  refine (congrArg (pureA a H) (funext fun a => lift_move.rf_b n a ⟨0, .nil⟩)).trans ?_
  kernel_rfl
noncomputable def wide_sign.r (bd : B3) (call : FuncId → List V → Heap → Option R) (n : Nat) (v0 : V) (H : Heap) : Option R :=
 (bd (boxA ty_api_Wide v0) fun o1 =>
 (bd (faA 0 (.ptr (some (H.n, 0)))) fun t4_2 =>
 (bd (ld1 t4_2 (H.push o1)) fun t5_3 =>
 (bd (arA .lss t5_3 (.int .i64 0)) fun t6_4 =>
 (bd (asB t6_4) fun b5 =>
 if b5 = true then
 (some ((.int .i64 (-1)), (H.push o1)))
 else
 (bd (faA 0 (.ptr (some (H.n, 0)))) fun t8_6 =>
 (bd (ld1 t8_6 (H.push o1)) fun t9_7 =>
 (bd (arA .eql t9_7 (.int .i64 0)) fun t10_8 =>
 (bd (asB t10_8) fun b9 =>
 if b9 = true then
 (bd (faA 1 (.ptr (some (H.n, 0)))) fun t12_10 =>
 (bd (ld1 t12_10 (H.push o1)) fun t13_11 =>
 (bd (arA .eql t13_11 (.int .u64 0)) fun t14_12 =>
 (bd (asB t14_12) fun b13 =>
 if b13 = true then
 (some ((.int .i64 0), (H.push o1)))
 else
 (some ((.int .i64 1), (H.push o1)))))))
 else
 (some ((.int .i64 1), (H.push o1))))))))))))
theorem wide_sign.r_e (n : Nat) (v0 : V) (H : Heap) : wide_sign.r @bdI (callA C n) n v0 H = E C n 152 [] (argsA 0 [v0]) H (kR C 152) := by
  unfold wide_sign.r
  kernel_rfl
noncomputable def wide_sign.rf (bd : B3) (call : FuncId → List V → Heap → Option R) (n : Nat) (a : List V) (H : Heap) : Option R := pureA a H fun a => (match a with | [v0] => wide_sign.r bd call n v0 ⟨0, .nil⟩ | a => E C n 152 [] (argsA 0 a) ⟨0, .nil⟩ (kR C 152))
theorem wide_sign.rf_b (n : Nat) (a : List V) (H : Heap) : (match a with | [v0] => wide_sign.r @bdI (callA C n) n v0 H | a => E C n 152 [] (argsA 0 a) H (kR C 152)) = E C n 152 [] (argsA 0 a) H (kR C 152) := by
  split
  · exact wide_sign.r_e n _ H
  · rfl
theorem wide_sign.rf_e (n : Nat) (a : List V) (H : Heap) : wide_sign.rf @bdI (callA C n) n a H = callA C (n + 1) 152 a H := by
  unfold wide_sign.rf
  refine (congrArg (pureA a H) (funext fun a => wide_sign.rf_b n a ⟨0, .nil⟩)).trans ?_
  kernel_rfl
noncomputable def wide_sub.r (bd : B3) (call : FuncId → List V → Heap → Option R) (n : Nat) (v0 v1 : V) (H : Heap) : Option R :=
 (bd (boxA ty_api_Wide v0) fun o1 =>
 (bd (boxA ty_api_Wide v1) fun o2 =>
 (bd (faA 1 (.ptr (some (H.n, 0)))) fun t10_3 =>
 (bd (ld1 t10_3 (((H.push o1).push o2).push (.cells [(.int .i64 0), (.int .u64 0)] ty_api_Wide false))) fun t11_4 =>
 (bd (faA 1 (.ptr (some ((H.push o1).n, 0)))) fun t12_5 =>
 (bd (ld1 t12_5 (((H.push o1).push o2).push (.cells [(.int .i64 0), (.int .u64 0)] ty_api_Wide false))) fun t13_6 =>
 (bd (call 198 [t11_4, t13_6, (.int .u64 0)] (((H.push o1).push o2).push (.cells [(.int .i64 0), (.int .u64 0)] ty_api_Wide false))) fun r7 =>
 (bd (extA r7.1 0) fun t15_8 =>
 (bd (extA r7.1 1) fun t16_9 =>
 (bd (faA 0 (.ptr (some (H.n, 0)))) fun t18_10 =>
 (bd (ld1 t18_10 r7.2) fun t19_11 =>
 (bd (cvInt .u64 t19_11) fun t20_12 =>
 (bd (faA 0 (.ptr (some ((H.push o1).n, 0)))) fun t21_13 =>
 (bd (ld1 t21_13 r7.2) fun t22_14 =>
 (bd (cvInt .u64 t22_14) fun t23_15 =>
 (bd (call 198 [t20_12, t23_15, t16_9] r7.2) fun r16 =>
 (bd (extA r16.1 0) fun t26_17 =>
 (bd (extA r16.1 1) fun t27_18 =>
 (bd (cvInt .i64 t26_17) fun t29_19 =>
 (bd (flA [(0, 1), (1, 1)] [(.int .i64 0), (.int .u64 0)] [(0, t29_19), (1, t15_8)]) fun t31_20 =>
 (bd (stA 2 (.ptr (some (((H.push o1).push o2).n, 0))) t31_20 r16.2) fun H21 =>
 (bd (ldN 2 (.ptr (some (((H.push o1).push o2).n, 0))) H21) fun t22 =>
 (some (t22, H21))))))))))))))))))))))))
theorem wide_sub.r_e (n : Nat) (v0 v1 : V) (H : Heap) : wide_sub.r @bdI (callA C n) n v0 v1 H = E C n 153 [] (argsA 0 [v0, v1]) H (kR C 153) := by
  unfold wide_sub.r
  kernel_rfl
noncomputable def wide_sub.rf (bd : B3) (call : FuncId → List V → Heap → Option R) (n : Nat) (a : List V) (H : Heap) : Option R := pureA a H fun a => (match a with | [v0, v1] => wide_sub.r bd call n v0 v1 ⟨0, .nil⟩ | a => E C n 153 [] (argsA 0 a) ⟨0, .nil⟩ (kR C 153))
theorem wide_sub.rf_b (n : Nat) (a : List V) (H : Heap) : (match a with | [v0, v1] => wide_sub.r @bdI (callA C n) n v0 v1 H | a => E C n 153 [] (argsA 0 a) H (kR C 153)) = E C n 153 [] (argsA 0 a) H (kR C 153) := by
  split
  · exact wide_sub.r_e n _ _ H
  · rfl
theorem wide_sub.rf_e (n : Nat) (a : List V) (H : Heap) : wide_sub.rf @bdI (callA C n) n a H = callA C (n + 1) 153 a H := by
  unfold wide_sub.rf
  refine (congrArg (pureA a H) (funext fun a => wide_sub.rf_b n a ⟨0, .nil⟩)).trans ?_
  kernel_rfl
noncomputable def lift_within.r (bd : B3) (call : FuncId → List V → Heap → Option R) (n : Nat) (v0 : V) (H : Heap) : Option R :=
 (bd (arA .geq v0 (.int .i64 (-1099511627776))) fun t4_1 =>
 (bd (asB t4_1) fun b2 =>
 if b2 = true then
 (bd (arA .leq v0 (.int .i64 1099511627776)) fun t7_3 =>
 (some (t7_3, H)))
 else
 (some ((.bool false), H))))
theorem lift_within.r_e (n : Nat) (v0 : V) (H : Heap) : lift_within.r @bdI (callA C n) n v0 H = E C n 154 [] (argsA 0 [v0]) H (kR C 154) := by
  unfold lift_within.r
  kernel_rfl
noncomputable def lift_within.rf (bd : B3) (call : FuncId → List V → Heap → Option R) (n : Nat) (a : List V) (H : Heap) : Option R := pureA a H fun a => (match a with | [v0] => lift_within.r bd call n v0 ⟨0, .nil⟩ | a => E C n 154 [] (argsA 0 a) ⟨0, .nil⟩ (kR C 154))
theorem lift_within.rf_b (n : Nat) (a : List V) (H : Heap) : (match a with | [v0] => lift_within.r @bdI (callA C n) n v0 H | a => E C n 154 [] (argsA 0 a) H (kR C 154)) = E C n 154 [] (argsA 0 a) H (kR C 154) := by
  split
  · exact lift_within.r_e n _ H
  · rfl
theorem lift_within.rf_e (n : Nat) (a : List V) (H : Heap) : lift_within.rf @bdI (callA C n) n a H = callA C (n + 1) 154 a H := by
  unfold lift_within.rf
  refine (congrArg (pureA a H) (funext fun a => lift_within.rf_b n a ⟨0, .nil⟩)).trans ?_
  kernel_rfl
@[irreducible] noncomputable def quad_Mul.l0 (n m0 : Nat) (v4 v5 v6 v7 v8 v9 v27 : V) (H : Heap) : Option R := Lp C n 155 [1, 1, 1, 1, 0, 1, 0, 0] m0 [(4, v4), (5, v5), (6, v6), (7, v7), (8, v8), (9, v9), (27, v27)] H (kB 0 (kC C n 155 [1, 1, 1, 1, 1] (kR C 155)))
@[irreducible] noncomputable def quad_Mul.l1 (n m0 m1 : Nat) (v4 v5 v6 v7 v8 v9 v10 v11 v27 v30 : V) (H : Heap) : Option R := Lp C n 155 [1, 1, 1, 1, 0, 1, 0, 0, 1, 1, 0, 0, 1, 1, 0, 1, 0, 0] m1 [(4, v4), (5, v5), (6, v6), (7, v7), (8, v8), (9, v9), (10, v10), (11, v11), (27, v27), (30, v30)] H (kB 2 (kC C n 155 [1, 1, 1, 1, 0, 1, 0, 0, 1, 1, 0, 0, 1, 1, 1] (kB 1 (kC C n 155 [1, 1, 1, 1, 0, 1, 0, 0, 1, 1, 1] (kL C n 155 [1, 1, 1, 1, 0, 1, 0, 0] m0 (kB 0 (kC C n 155 [1, 1, 1, 1, 1] (kR C 155))))))))
@[irreducible] noncomputable def quad_Mul.p2 (n : Nat) (v4 v6 v8 v9 : V) (H : Heap) : Option R := E C n 155 [1, 1, 1, 1, 1] [(4, v4), (6, v6), (8, v8), (9, v9)] H (kR C 155)
@[irreducible] noncomputable def quad_Mul.p3 (n m0 : Nat) (v4 v5 v6 v7 v8 v9 v10 v11 v27 : V) (H : Heap) : Option R := E C n 155 [1, 1, 1, 1, 0, 1, 0, 0, 1, 1, 0, 0, 1, 1, 1] [(4, v4), (5, v5), (6, v6), (7, v7), (8, v8), (9, v9), (10, v10), (11, v11), (27, v27)] H (kB 1 (kC C n 155 [1, 1, 1, 1, 0, 1, 0, 0, 1, 1, 1] (kL C n 155 [1, 1, 1, 1, 0, 1, 0, 0] m0 (kB 0 (kC C n 155 [1, 1, 1, 1, 1] (kR C 155))))))
noncomputable def quad_Mul.r_p3 (bd : B3) (call : FuncId → List V → Heap → Option R) (n : Nat) (s0 : V → V → V → V → V → V → V → Heap → Option R) (v4 v5 v6 v7 v8 v9 v10 v11 v27 : V) (H : Heap) : Option R :=
 (bd (arA .add v10 (.int .i64 2)) fun t78_1 =>
 (bd (idxP 4 1 v9 t78_1) fun t79_2 =>
 (bd (ld1 t79_2 H) fun t80_3 =>
 (bd (arA .add t80_3 v11) fun t82_4 =>
 (bd (idxP 4 1 v9 t78_1) fun t83_5 =>
 (bd (stA 1 t83_5 t82_4 H) fun H6 =>
 (bd (arA .add v27 (.int .i64 1)) fun t84_7 =>
 (s0 v4 v5 v6 v7 v8 v9 t84_7 H6))))))))
theorem quad_Mul.r_p3_e (n : Nat) (m0 : Nat) : quad_Mul.r_p3 @bdI (callA C n) n (quad_Mul.l0 n m0) = quad_Mul.p3 n m0 := by
  funext v4 v5 v6 v7 v8 v9 v10 v11 v27 H
  unfold quad_Mul.r_p3
  kernel_rfl
noncomputable def quad_Mul.r_l1 (bd : B3) (call : FuncId → List V → Heap → Option R) (n : Nat) (s0 : V → V → V → V → V → V → V → Heap → Option R) (s1 : V → V → V → V → V → V → V → V → V → V → Heap → Option R) (v4 v5 v6 v7 v8 v9 v10 v11 v27 v30 : V) (H : Heap) : Option R :=
 (bd (arA .lss v30 (.int .i64 2)) fun t31_1 =>
 (bd (asB t31_1) fun b2 =>
 if b2 = true then
 (bd (idxP 2 1 v5 v10) fun t35_3 =>
 (bd (ld1 t35_3 (H.more 0)) fun t36_4 =>
 (bd (idxP 2 1 v7 v30) fun t38_5 =>
 (bd (ld1 t38_5 (H.more 0)) fun t39_6 =>
 (bd (call 59 [t36_4, t39_6] (H.more 0)) fun r7 =>
 (bd (extA r7.1 0) fun t41_8 =>
 (bd (extA r7.1 1) fun t42_9 =>
 (bd (arA .add v10 v30) fun t46_10 =>
 (bd (arA .add v10 v30) fun t49_11 =>
 (bd (idxP 4 1 v9 t49_11) fun t50_12 =>
 (bd (ld1 t50_12 r7.2) fun t51_13 =>
 (bd (call 122 [t51_13, t42_9, (.int .u64 0)] r7.2) fun r14 =>
 (bd (extA r14.1 0) fun t54_15 =>
 (bd (extA r14.1 1) fun t55_16 =>
 (bd (idxP 4 1 v9 t46_10) fun t56_17 =>
 (bd (stA 1 t56_17 t54_15 r14.2) fun H18 =>
 (bd (arA .add v10 v30) fun t60_19 =>
 (bd (arA .add v10 v30) fun t63_20 =>
 (bd (idxP 4 1 v9 t63_20) fun t64_21 =>
 (bd (ld1 t64_21 H18) fun t65_22 =>
 (bd (call 122 [t65_22, v11, (.int .u64 0)] H18) fun r23 =>
 (bd (extA r23.1 0) fun t68_24 =>
 (bd (extA r23.1 1) fun t69_25 =>
 (bd (idxP 4 1 v9 t60_19) fun t70_26 =>
 (bd (stA 1 t70_26 t68_24 r23.2) fun H27 =>
 (bd (arA .add t41_8 t55_16) fun t73_28 =>
 (bd (arA .add t73_28 t69_25) fun t75_29 =>
 (bd (arA .add v30 (.int .i64 1)) fun t76_30 =>
 (s1 v4 v5 v6 v7 v8 v9 v10 t75_29 v27 t76_30 H27)))))))))))))))))))))))))))))
 else
 (quad_Mul.r_p3 bd call n s0 v4 v5 v6 v7 v8 v9 v10 v11 v27 H)))
theorem quad_Mul.r_l1_e (n m0 m1 : Nat) : quad_Mul.r_l1 @bdI (callA C n) n (quad_Mul.l0 n m0) (quad_Mul.l1 n m0 m1) = quad_Mul.l1 n m0 (m1 + 1) := by
  funext v4 v5 v6 v7 v8 v9 v10 v11 v27 v30 H
  unfold quad_Mul.r_l1
  rewrite [quad_Mul.r_p3_e]
  kernel_rfl
noncomputable def quad_Mul.r_l1_lp (bd : B3) (call : FuncId → List V → Heap → Option R) (n : Nat) (s0 : V → V → V → V → V → V → V → Heap → Option R) (m : Nat) : V → V → V → V → V → V → V → V → V → V → Heap → Option R := Nat.rec (motive := fun _ => V → V → V → V → V → V → V → V → V → V → Heap → Option R) (fun _ _ _ _ _ _ _ _ _ _ _ => none) (fun _ self => quad_Mul.r_l1 bd call n s0 self) m
theorem quad_Mul.r_l1_lp_e (n m0 : Nat) : quad_Mul.r_l1_lp @bdI (callA C n) n (quad_Mul.l0 n m0) = quad_Mul.l1 n m0 := by
  funext m
  induction m with
  | zero => funext v4 v5 v6 v7 v8 v9 v10 v11 v27 v30 H; kernel_rfl
  | succ k ih => exact (congrArg (quad_Mul.r_l1 @bdI (callA C n) n (quad_Mul.l0 n m0)) ih).trans (quad_Mul.r_l1_e n m0 k)
noncomputable def quad_Mul.r_p2 (bd : B3) (call : FuncId → List V → Heap → Option R) (n : Nat) (v4 v6 v8 v9 : V) (H : Heap) : Option R :=
 (bd (neqA P ty_bool v6 v8) fun t87_1 =>
 (bd (asB t87_1) fun b2 =>
 if b2 = true then
 (bd (flE 1 [(.int .u64 0), (.int .u64 0), (.int .u64 0), (.int .u64 0)] []) fun t88_3 =>
 (bd (ldN 4 v9 H) fun t89_4 =>
 (bd (call 200 [t88_3, t89_4] H) fun r5 =>
 (bd (stA 4 v4 r5.1 r5.2) fun H6 =>
 (bd (ldN 4 v4 H6) fun t7 =>
 (some (t7, H6)))))))
 else
 (bd (ldN 4 v9 H) fun t91_8 =>
 (bd (stA 4 v4 t91_8 H) fun H9 =>
 (bd (ldN 4 v4 H9) fun t10 =>
 (some (t10, H9)))))))
theorem quad_Mul.r_p2_e (n : Nat) : quad_Mul.r_p2 @bdI (callA C n) n = quad_Mul.p2 n := by
  funext v4 v6 v8 v9 H
  unfold quad_Mul.r_p2
  kernel_rfl
noncomputable def quad_Mul.r_l0 (bd : B3) (call : FuncId → List V → Heap → Option R) (n : Nat) (s0 : V → V → V → V → V → V → V → Heap → Option R) (v4 v5 v6 v7 v8 v9 v27 : V) (H : Heap) : Option R :=
 (bd (arA .lss v27 (.int .i64 2)) fun t28_1 =>
 (bd (asB t28_1) fun b2 =>
 if b2 = true then
 (quad_Mul.r_l1_lp bd call n s0 n v4 v5 v6 v7 v8 v9 v27 (.int .u64 0) v27 (.int .i64 0) H)
 else
 (quad_Mul.r_p2 bd call n v4 v6 v8 v9 H)))
theorem quad_Mul.r_l0_e (n m0 : Nat) : quad_Mul.r_l0 @bdI (callA C n) n (quad_Mul.l0 n m0) = quad_Mul.l0 n (m0 + 1) := by
  funext v4 v5 v6 v7 v8 v9 v27 H
  unfold quad_Mul.r_l0
  rewrite [quad_Mul.r_l1_lp_e]
  rewrite [quad_Mul.r_p2_e]
  kernel_rfl
noncomputable def quad_Mul.r_l0_lp (bd : B3) (call : FuncId → List V → Heap → Option R) (n : Nat) (m : Nat) : V → V → V → V → V → V → V → Heap → Option R := Nat.rec (motive := fun _ => V → V → V → V → V → V → V → Heap → Option R) (fun _ _ _ _ _ _ _ _ => none) (fun _ self => quad_Mul.r_l0 bd call n self) m
theorem quad_Mul.r_l0_lp_e (n : Nat) : quad_Mul.r_l0_lp @bdI (callA C n) n = quad_Mul.l0 n := by
  funext m
  induction m with
  | zero => funext v4 v5 v6 v7 v8 v9 v27 H; kernel_rfl
  | succ k ih => exact (congrArg (quad_Mul.r_l0 @bdI (callA C n) n) ih).trans (quad_Mul.r_l0_e n k)
noncomputable def quad_Mul.r (bd : B3) (call : FuncId → List V → Heap → Option R) (n : Nat) (v0 v1 : V) (H : Heap) : Option R :=
 (bd (boxA ty_api_Wide v0) fun o1 =>
 (bd (boxA ty_api_Wide v1) fun o2 =>
 (bd (ldN 2 (.ptr (some (H.n, 0))) (((H.push o1).push o2).push (.cells [(.int .u64 0), (.int .u64 0), (.int .u64 0), (.int .u64 0)] ty_api_Quad false))) fun t18_3 =>
 (bd (call 199 [t18_3] (((H.push o1).push o2).push (.cells [(.int .u64 0), (.int .u64 0), (.int .u64 0), (.int .u64 0)] ty_api_Quad false))) fun r4 =>
 (bd (extA r4.1 0) fun t20_5 =>
 (bd (extA r4.1 1) fun t21_6 =>
 (bd (stA 2 (.ptr (some (r4.2.n, 0))) t20_5 (r4.2.push (.cells [(.int .u64 0), (.int .u64 0)] ty_2_uint64 false))) fun H7 =>
 (bd (ldN 2 (.ptr (some ((H.push o1).n, 0))) H7) fun t23_8 =>
 (bd (call 199 [t23_8] H7) fun r9 =>
 (bd (extA r9.1 0) fun t25_10 =>
 (bd (extA r9.1 1) fun t26_11 =>
 (bd (stA 2 (.ptr (some (r9.2.n, 0))) t25_10 (r9.2.push (.cells [(.int .u64 0), (.int .u64 0)] ty_2_uint64 false))) fun H12 =>
 (quad_Mul.r_l0_lp bd call n n (.ptr (some (((H.push o1).push o2).n, 0))) (.ptr (some (r4.2.n, 0))) t21_6 (.ptr (some (r9.2.n, 0))) t26_11 (.ptr (some (H12.n, 0))) (.int .i64 0) (H12.push (.cells [(.int .u64 0), (.int .u64 0), (.int .u64 0), (.int .u64 0)] ty_api_Quad false)))))))))))))))
theorem quad_Mul.r_e (n : Nat) (v0 v1 : V) (H : Heap) : quad_Mul.r @bdI (callA C n) n v0 v1 H = E C n 155 [] (argsA 0 [v0, v1]) H (kR C 155) := by
  unfold quad_Mul.r
  rewrite [quad_Mul.r_l0_lp_e]
  kernel_rfl
noncomputable def quad_Mul.rf (bd : B3) (call : FuncId → List V → Heap → Option R) (n : Nat) (a : List V) (H : Heap) : Option R := pureA a H fun a => (match a with | [v0, v1] => quad_Mul.r bd call n v0 v1 ⟨0, .nil⟩ | a => E C n 155 [] (argsA 0 a) ⟨0, .nil⟩ (kR C 155))
theorem quad_Mul.rf_b (n : Nat) (a : List V) (H : Heap) : (match a with | [v0, v1] => quad_Mul.r @bdI (callA C n) n v0 v1 H | a => E C n 155 [] (argsA 0 a) H (kR C 155)) = E C n 155 [] (argsA 0 a) H (kR C 155) := by
  split
  · exact quad_Mul.r_e n _ _ H
  · rfl
theorem quad_Mul.rf_e (n : Nat) (a : List V) (H : Heap) : quad_Mul.rf @bdI (callA C n) n a H = callA C (n + 1) 155 a H := by
  unfold quad_Mul.rf
  refine (congrArg (pureA a H) (funext fun a => quad_Mul.rf_b n a ⟨0, .nil⟩)).trans ?_
  kernel_rfl
end Go.AM.L
end
