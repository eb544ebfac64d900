/- Merged by program from: JvSR0 JvSR1 JvSR2 JvSO JvSE JvSM JvLO. -/
import Derived.Test.YtklnjhedbafknaaGreatDoorX5
section
set_option linter.unusedVariables false
set_option linter.unusedSimpArgs false
set_option maxRecDepth 1000000
set_option linter.unusedVariables false
namespace Go.AM.S
@[irreducible] noncomputable def math_bits_Len32.p0 (n : Nat) (v0 v2 : V) (H : Heap) : Option R := E C n 56 [1, 1] [(0, v0), (2, v2)] H (kR C 56)
@[irreducible] noncomputable def math_bits_Len32.p1 (n : Nat) (v0 v2 : V) (H : Heap) : Option R := E C n 56 [1, 1, 1] [(0, v0), (2, v2)] H (kR C 56)
noncomputable def math_bits_Len32.r_p1 (bd : B3) (call : FuncId → List V → Heap → Option R) (n : Nat) (v0 v2 : V) (H : Heap) : Option R :=
 (bd (cvInt .u8 v0) fun t15_1 =>
 (bd (ixStr (.str [0, 1, 2, 2, 3, 3, 3, 3, 4, 4, 4, 4, 4, 4, 4, 4, 5, 5, 5, 5, 5, 5, 5, 5, 5, 5, 5, 5, 5, 5, 5, 5, 6, 6, 6, 6, 6, 6, 6, 6, 6, 6, 6, 6, 6, 6, 6, 6, 6, 6, 6, 6, 6, 6, 6, 6, 6, 6, 6, 6, 6, 6, 6, 6, 7, 7, 7, 7, 7, 7, 7, 7, 7, 7, 7, 7, 7, 7, 7, 7, 7, 7, 7, 7, 7, 7, 7, 7, 7, 7, 7, 7, 7, 7, 7, 7, 7, 7, 7, 7, 7, 7, 7, 7, 7, 7, 7, 7, 7, 7, 7, 7, 7, 7, 7, 7, 7, 7, 7, 7, 7, 7, 7, 7, 7, 7, 7, 7, 8, 8, 8, 8, 8, 8, 8, 8, 8, 8, 8, 8, 8, 8, 8, 8, 8, 8, 8, 8, 8, 8, 8, 8, 8, 8, 8, 8, 8, 8, 8, 8, 8, 8, 8, 8, 8, 8, 8, 8, 8, 8, 8, 8, 8, 8, 8, 8, 8, 8, 8, 8, 8, 8, 8, 8, 8, 8, 8, 8, 8, 8, 8, 8, 8, 8, 8, 8, 8, 8, 8, 8, 8, 8, 8, 8, 8, 8, 8, 8, 8, 8, 8, 8, 8, 8, 8, 8, 8, 8, 8, 8, 8, 8, 8, 8, 8, 8, 8, 8, 8, 8, 8, 8, 8, 8, 8, 8, 8, 8, 8, 8, 8, 8, 8, 8, 8, 8, 8, 8, 8, 8, 8, 8, 8, 8, 8, 8]) t15_1) fun t16_2 =>
 (bd (cvInt .i64 t16_2) fun t17_3 =>
 (bd (arA .add v2 t17_3) fun t18_4 =>
 (some (t18_4, H))))))
theorem math_bits_Len32.r_p1_e (n : Nat) : math_bits_Len32.r_p1 @bdI (callA C n) n = math_bits_Len32.p1 n := by
  funext v0 v2 H
  unfold math_bits_Len32.r_p1
  kernel_rfl
noncomputable def math_bits_Len32.r_p0 (bd : B3) (call : FuncId → List V → Heap → Option R) (n : Nat) (v0 v2 : V) (H : Heap) : Option R :=
 (bd (arA .geq v0 (.int .u32 256)) fun t8_1 =>
 (bd (asB t8_1) fun b2 =>
 if b2 = true then
 (bd (shA .shr v0 (.int .u64 8)) fun t10_3 =>
 (bd (arA .add v2 (.int .i64 8)) fun t12_4 =>
 (math_bits_Len32.r_p1 bd call n t10_3 t12_4 H)))
 else
 (math_bits_Len32.r_p1 bd call n v0 v2 H)))
theorem math_bits_Len32.r_p0_e (n : Nat) : math_bits_Len32.r_p0 @bdI (callA C n) n = math_bits_Len32.p0 n := by
  funext v0 v2 H
  unfold math_bits_Len32.r_p0
  rewrite [math_bits_Len32.r_p1_e]
  kernel_rfl
noncomputable def math_bits_Len32.r (bd : B3) (call : FuncId → List V → Heap → Option R) (n : Nat) (v0 : V) (H : Heap) : Option R :=
 (bd (arA .geq v0 (.int .u32 65536)) fun t4_1 =>
 (bd (asB t4_1) fun b2 =>
 if b2 = true then
 (bd (shA .shr v0 (.int .u64 16)) fun t6_3 =>
 (math_bits_Len32.r_p0 bd call n t6_3 (.int .i64 16) H))
 else
 (math_bits_Len32.r_p0 bd call n v0 (.int .i64 0) H)))
theorem math_bits_Len32.r_e (n : Nat) (v0 : V) (H : Heap) : math_bits_Len32.r @bdI (callA C n) n v0 H = E C n 56 [] (argsA 0 [v0]) H (kR C 56) := by
  unfold math_bits_Len32.r
  rewrite [math_bits_Len32.r_p0_e]
  kernel_rfl
noncomputable def math_bits_Len32.rf (bd : B3) (call : FuncId → List V → Heap → Option R) (n : Nat) (a : List V) (H : Heap) : Option R := (match a with | [v0] => math_bits_Len32.r bd call n v0 H | a => E C n 56 [] (argsA 0 a) H (kR C 56))
theorem math_bits_Len32.rf_b (n : Nat) (a : List V) (H : Heap) : (match a with | [v0] => math_bits_Len32.r @bdI (callA C n) n v0 H | a => E C n 56 [] (argsA 0 a) H (kR C 56)) = E C n 56 [] (argsA 0 a) H (kR C 56) := by
  split
  · exact math_bits_Len32.r_e n _ H
  · rfl
theorem math_bits_Len32.rf_e (n : Nat) (a : List V) (H : Heap) : math_bits_Len32.rf @bdI (callA C n) n a H = callA C (n + 1) 56 a H := by
  unfold math_bits_Len32.rf
  refine (math_bits_Len32.rf_b n a H).trans ?_
  kernel_rfl
noncomputable def lift_can.r (bd : B3) (call : FuncId → List V → Heap → Option R) (n : Nat) (v0 : V) (H : Heap) : Option R :=
 (bd (boxA ty_api_Point v0) fun o1 =>
 (bd (faA 0 (.ptr (some (H.n, 0)))) fun t3_2 =>
 (bd (ld1 t3_2 (H.push o1)) fun t4_3 =>
 (bd (call 191 [t4_3] (H.push o1)) fun r4 =>
 (bd (asB r4.1) fun b5 =>
 if b5 = true then
 (bd (faA 1 (.ptr (some (H.n, 0)))) fun t7_6 =>
 (bd (ld1 t7_6 r4.2) fun t8_7 =>
 (bd (call 191 [t8_7] r4.2) fun r8 =>
 (some (r8.1, r8.2)))))
 else
 (some ((.bool false), r4.2)))))))
theorem lift_can.r_e (n : Nat) (v0 : V) (H : Heap) : lift_can.r @bdI (callA C n) n v0 H = E C n 134 [] (argsA 0 [v0]) H (kR C 134) := by
  unfold lift_can.r
  kernel_rfl
noncomputable def lift_can.rf (bd : B3) (call : FuncId → List V → Heap → Option R) (n : Nat) (a : List V) (H : Heap) : Option R := pureA a H fun a => (match a with | [v0] => lift_can.r bd call n v0 ⟨0, .nil⟩ | a => E C n 134 [] (argsA 0 a) ⟨0, .nil⟩ (kR C 134))
theorem lift_can.rf_b (n : Nat) (a : List V) (H : Heap) : (match a with | [v0] => lift_can.r @bdI (callA C n) n v0 H | a => E C n 134 [] (argsA 0 a) H (kR C 134)) = E C n 134 [] (argsA 0 a) H (kR C 134) := by
  split
  · exact lift_can.r_e n _ H
  · rfl
theorem lift_can.rf_e (n : Nat) (a : List V) (H : Heap) : lift_can.rf @bdI (callA C n) n a H = callA C (n + 1) 134 a H := by
  unfold lift_can.rf
  refine (congrArg (pureA a H) (funext fun a => lift_can.rf_b n a ⟨0, .nil⟩)).trans ?_
  kernel_rfl
noncomputable def circum_Small.r (bd : B3) (call : FuncId → List V → Heap → Option R) (n : Nat) (v0 v1 v2 v3 : V) (H : Heap) : Option R :=
 (bd (boxA ty_api_Point v0) fun o1 =>
 (bd (boxA ty_api_Point v1) fun o2 =>
 (bd (boxA ty_api_Point v2) fun o3 =>
 (bd (arA .lss v3 (.int .i64 1)) fun t11_4 =>
 (bd (asB t11_4) fun b5 =>
 if b5 = true then
 (some ((.bool false), (((H.push o1).push o2).push o3)))
 else
 (bd (arA .gtr v3 (.int .i64 17179869184)) fun t14_6 =>
 (bd (asB t14_6) fun b7 =>
 if b7 = true then
 (some ((.bool false), (((H.push o1).push o2).push o3)))
 else
 (bd (ldN 2 (.ptr (some (H.n, 0))) (((H.push o1).push o2).push o3)) fun t17_8 =>
 (bd (call 221 [t17_8] (((H.push o1).push o2).push o3)) fun r9 =>
 (bd (unA .not r9.1) fun t19_10 =>
 (bd (asB t19_10) fun b11 =>
 if b11 = true then
 (some ((.bool false), r9.2))
 else
 (bd (ldN 2 (.ptr (some (H.n, 0))) r9.2) fun t22_12 =>
 (bd (ldN 2 (.ptr (some ((H.push o1).n, 0))) r9.2) fun t23_13 =>
 (bd (ldN 2 (.ptr (some (((H.push o1).push o2).n, 0))) r9.2) fun t24_14 =>
 (bd (call 222 [t22_12, t23_13, t24_14] r9.2) fun r15 =>
 (bd (unA .not r15.1) fun t26_16 =>
 (bd (asB t26_16) fun b17 =>
 if b17 = true then
 (some ((.bool false), r15.2))
 else
 (bd (call 224 [(.int .i64 4)] (r15.2.more 1)) fun r18 =>
 (bd (ldN 2 (.ptr (some (H.n, 0))) r18.2) fun t29_19 =>
 (bd (chk (ldN 2 (.ptr (some (H.n, 0))) (r15.2.more 1)) t29_19) fun _ =>
 (bd (ldN 2 (.ptr (some ((H.push o1).n, 0))) r18.2) fun t30_20 =>
 (bd (chk (ldN 2 (.ptr (some ((H.push o1).n, 0))) (r15.2.more 1)) t30_20) fun _ =>
 (bd (ldN 2 (.ptr (some (((H.push o1).push o2).n, 0))) r18.2) fun t31_21 =>
 (bd (chk (ldN 2 (.ptr (some (((H.push o1).push o2).n, 0))) (r15.2.more 1)) t31_21) fun _ =>
 (bd (call 225 [t29_19, t30_20, t31_21] r18.2) fun r22 =>
 (bd (call 223 [r18.1, r22.1] r22.2) fun r23 =>
 (bd (stA 2 (.ptr (some ((r15.2.n + 0), 0))) r23.1 (r23.2.set (r15.2.n + 0) (.cells [(.bool false), (.slice ⟨none, 0, 0, false⟩)] ty_api_Int false))) fun H24 =>
 (bd (call 212 [v3, v3] (H24.more 0)) fun r25 =>
 (bd (call 227 [r25.1] r25.2) fun r26 =>
 (bd (ldN 2 (.ptr (some (H.n, 0))) r26.2) fun t39_27 =>
 (bd (chk (ldN 2 (.ptr (some (H.n, 0))) r25.2) t39_27) fun _ =>
 (bd (chk (ldN 2 (.ptr (some (H.n, 0))) (H24.more 0)) t39_27) fun _ =>
 (bd (ldN 2 (.ptr (some ((H.push o1).n, 0))) r26.2) fun t40_28 =>
 (bd (chk (ldN 2 (.ptr (some ((H.push o1).n, 0))) r25.2) t40_28) fun _ =>
 (bd (chk (ldN 2 (.ptr (some ((H.push o1).n, 0))) (H24.more 0)) t40_28) fun _ =>
 (bd (ldN 2 (.ptr (some (((H.push o1).push o2).n, 0))) r26.2) fun t41_29 =>
 (bd (chk (ldN 2 (.ptr (some (((H.push o1).push o2).n, 0))) r25.2) t41_29) fun _ =>
 (bd (chk (ldN 2 (.ptr (some (((H.push o1).push o2).n, 0))) (H24.more 0)) t41_29) fun _ =>
 (bd (call 228 [t39_27, t40_28, t41_29] r26.2) fun r30 =>
 (bd (call 223 [r26.1, r30.1] r30.2) fun r31 =>
 (bd (ldN 2 (.ptr (some ((r15.2.n + 0), 0))) r31.2) fun t34_32 =>
 (bd (chk (ldN 2 (.ptr (some ((r15.2.n + 0), 0))) r30.2) t34_32) fun _ =>
 (bd (chk (ldN 2 (.ptr (some ((r15.2.n + 0), 0))) r26.2) t34_32) fun _ =>
 (bd (chk (ldN 2 (.ptr (some ((r15.2.n + 0), 0))) r25.2) t34_32) fun _ =>
 (bd (chk (ldN 2 (.ptr (some ((r15.2.n + 0), 0))) (H24.more 0)) t34_32) fun _ =>
 (bd (call 226 [t34_32, r31.1] r31.2) fun r33 =>
 (bd (arA .lss r33.1 (.int .i64 0)) fun t45_34 =>
 (some (t45_34, r33.2)))))))))))))))))))))))))))))))))))))))))))))))))
theorem circum_Small.r_e (n : Nat) (v0 v1 v2 v3 : V) (H : Heap) : circum_Small.r @bdI (callA C n) n v0 v1 v2 v3 H = E C n 163 [] (argsA 0 [v0, v1, v2, v3]) H (kR C 163) := by
  unfold circum_Small.r
  kernel_rfl
noncomputable def circum_Small.rf (bd : B3) (call : FuncId → List V → Heap → Option R) (n : Nat) (a : List V) (H : Heap) : Option R := pureA a H fun a => (match a with | [v0, v1, v2, v3] => circum_Small.r bd call n v0 v1 v2 v3 ⟨0, .nil⟩ | a => E C n 163 [] (argsA 0 a) ⟨0, .nil⟩ (kR C 163))
theorem circum_Small.rf_b (n : Nat) (a : List V) (H : Heap) : (match a with | [v0, v1, v2, v3] => circum_Small.r @bdI (callA C n) n v0 v1 v2 v3 H | a => E C n 163 [] (argsA 0 a) H (kR C 163)) = E C n 163 [] (argsA 0 a) H (kR C 163) := by
  split
  · exact circum_Small.r_e n _ _ _ _ H
  · rfl
theorem circum_Small.rf_e (n : Nat) (a : List V) (H : Heap) : circum_Small.rf @bdI (callA C n) n a H = callA C (n + 1) 163 a H := by
  unfold circum_Small.rf
  refine (congrArg (pureA a H) (funext fun a => circum_Small.rf_b n a ⟨0, .nil⟩)).trans ?_
  kernel_rfl
noncomputable def pred_Orient.r (bd : B3) (call : FuncId → List V → Heap → Option R) (n : Nat) (v0 v1 v2 : V) (H : Heap) : Option R :=
 (bd (boxA ty_api_Point v0) fun o1 =>
 (bd (boxA ty_api_Point v1) fun o2 =>
 (bd (boxA ty_api_Point v2) fun o3 =>
 (bd (ldN 2 (.ptr (some (H.n, 0))) (((H.push o1).push o2).push o3)) fun t7_4 =>
 (bd (ldN 2 (.ptr (some ((H.push o1).n, 0))) (((H.push o1).push o2).push o3)) fun t8_5 =>
 (bd (ldN 2 (.ptr (some (((H.push o1).push o2).n, 0))) (((H.push o1).push o2).push o3)) fun t9_6 =>
 (bd (bSl 2 ty_api_Point [(.int .i64 0), (.int .i64 0)] 3 [(0, t7_4), (1, t8_5), (2, t9_6)]) fun o7 =>
 (bd (call 229 [(.slice ⟨some ((((H.push o1).push o2).push o3).n, 0), 3, 2, false⟩)] ((((H.push o1).push o2).push o3).push o7)) fun r8 =>
 (bd (unA .not r8.1) fun t12_9 =>
 (bd (asB t12_9) fun b10 =>
 if b10 = true then
 (some ((.int .i64 0), r8.2))
 else
 (bd (ldN 2 (.ptr (some (H.n, 0))) r8.2) fun t13_11 =>
 (bd (ldN 2 (.ptr (some ((H.push o1).n, 0))) r8.2) fun t14_12 =>
 (bd (ldN 2 (.ptr (some (((H.push o1).push o2).n, 0))) r8.2) fun t15_13 =>
 (bd (call 230 [t13_11, t14_12, t15_13] r8.2) fun r14 =>
 (some (r14.1, r14.2))))))))))))))))
theorem pred_Orient.r_e (n : Nat) (v0 v1 v2 : V) (H : Heap) : pred_Orient.r @bdI (callA C n) n v0 v1 v2 H = E C n 167 [] (argsA 0 [v0, v1, v2]) H (kR C 167) := by
  unfold pred_Orient.r
  kernel_rfl
noncomputable def pred_Orient.rf (bd : B3) (call : FuncId → List V → Heap → Option R) (n : Nat) (a : List V) (H : Heap) : Option R := pureA a H fun a => (match a with | [v0, v1, v2] => pred_Orient.r bd call n v0 v1 v2 ⟨0, .nil⟩ | a => E C n 167 [] (argsA 0 a) ⟨0, .nil⟩ (kR C 167))
theorem pred_Orient.rf_b (n : Nat) (a : List V) (H : Heap) : (match a with | [v0, v1, v2] => pred_Orient.r @bdI (callA C n) n v0 v1 v2 H | a => E C n 167 [] (argsA 0 a) H (kR C 167)) = E C n 167 [] (argsA 0 a) H (kR C 167) := by
  split
  · exact pred_Orient.r_e n _ _ _ H
  · rfl
theorem pred_Orient.rf_e (n : Nat) (a : List V) (H : Heap) : pred_Orient.rf @bdI (callA C n) n a H = callA C (n + 1) 167 a H := by
  unfold pred_Orient.rf
  refine (congrArg (pureA a H) (funext fun a => pred_Orient.rf_b n a ⟨0, .nil⟩)).trans ?_
  kernel_rfl
noncomputable def lift_within.r (bd : B3) (call : FuncId → List V → Heap → Option R) (n : Nat) (v0 : V) (H : Heap) : Option R :=
 (bd (arA .geq v0 (.int .i64 (-1099511627776))) fun t4_1 =>
 (bd (asB t4_1) fun b2 =>
 if b2 = true then
 (bd (arA .leq v0 (.int .i64 1099511627776)) fun t7_3 =>
 (some (t7_3, H)))
 else
 (some ((.bool false), H))))
theorem lift_within.r_e (n : Nat) (v0 : V) (H : Heap) : lift_within.r @bdI (callA C n) n v0 H = E C n 191 [] (argsA 0 [v0]) H (kR C 191) := by
  unfold lift_within.r
  kernel_rfl
noncomputable def lift_within.rf (bd : B3) (call : FuncId → List V → Heap → Option R) (n : Nat) (a : List V) (H : Heap) : Option R := pureA a H fun a => (match a with | [v0] => lift_within.r bd call n v0 ⟨0, .nil⟩ | a => E C n 191 [] (argsA 0 a) ⟨0, .nil⟩ (kR C 191))
theorem lift_within.rf_b (n : Nat) (a : List V) (H : Heap) : (match a with | [v0] => lift_within.r @bdI (callA C n) n v0 H | a => E C n 191 [] (argsA 0 a) H (kR C 191)) = E C n 191 [] (argsA 0 a) H (kR C 191) := by
  split
  · exact lift_within.r_e n _ H
  · rfl
theorem lift_within.rf_e (n : Nat) (a : List V) (H : Heap) : lift_within.rf @bdI (callA C n) n a H = callA C (n + 1) 191 a H := by
  unfold lift_within.rf
  refine (congrArg (pureA a H) (funext fun a => lift_within.rf_b n a ⟨0, .nil⟩)).trans ?_
  kernel_rfl
noncomputable def wide_Add.r (bd : B3) (call : FuncId → List V → Heap → Option R) (n : Nat) (v0 v1 : V) (H : Heap) : Option R :=
 (bd (boxA ty_api_Wide v0) fun o1 =>
 (bd (boxA ty_api_Wide v1) fun o2 =>
 (bd (ldN 2 (.ptr (some (H.n, 0))) (((H.push o1).push o2).push (.cells [(.int .i64 0), (.int .u64 0)] ty_api_Wide false))) fun t5_3 =>
 (bd (ldN 2 (.ptr (some ((H.push o1).n, 0))) (((H.push o1).push o2).push (.cells [(.int .i64 0), (.int .u64 0)] ty_api_Wide false))) fun t6_4 =>
 (bd (call 262 [t5_3, t6_4] (((H.push o1).push o2).push (.cells [(.int .i64 0), (.int .u64 0)] ty_api_Wide false))) fun r5 =>
 (bd (stA 2 (.ptr (some (((H.push o1).push o2).n, 0))) r5.1 r5.2) fun H6 =>
 (bd (ldN 2 (.ptr (some (((H.push o1).push o2).n, 0))) H6) fun t7 =>
 (some (t7, H6)))))))))
theorem wide_Add.r_e (n : Nat) (v0 v1 : V) (H : Heap) : wide_Add.r @bdI (callA C n) n v0 v1 H = E C n 207 [] (argsA 0 [v0, v1]) H (kR C 207) := by
  unfold wide_Add.r
  kernel_rfl
noncomputable def wide_Add.rf (bd : B3) (call : FuncId → List V → Heap → Option R) (n : Nat) (a : List V) (H : Heap) : Option R := pureA a H fun a => (match a with | [v0, v1] => wide_Add.r bd call n v0 v1 ⟨0, .nil⟩ | a => E C n 207 [] (argsA 0 a) ⟨0, .nil⟩ (kR C 207))
theorem wide_Add.rf_b (n : Nat) (a : List V) (H : Heap) : (match a with | [v0, v1] => wide_Add.r @bdI (callA C n) n v0 v1 H | a => E C n 207 [] (argsA 0 a) H (kR C 207)) = E C n 207 [] (argsA 0 a) H (kR C 207) := by
  split
  · exact wide_Add.r_e n _ _ H
  · rfl
theorem wide_Add.rf_e (n : Nat) (a : List V) (H : Heap) : wide_Add.rf @bdI (callA C n) n a H = callA C (n + 1) 207 a H := by
  unfold wide_Add.rf
  refine (congrArg (pureA a H) (funext fun a => wide_Add.rf_b n a ⟨0, .nil⟩)).trans ?_
  kernel_rfl
noncomputable def pred_Area2.r (bd : B3) (call : FuncId → List V → Heap → Option R) (n : Nat) (v0 v1 v2 : V) (H : Heap) : Option R :=
 (bd (boxA ty_api_Point v0) fun o1 =>
 (bd (boxA ty_api_Point v1) fun o2 =>
 (bd (boxA ty_api_Point v2) fun o3 =>
 (bd (ldN 2 (.ptr (some (H.n, 0))) ((((H.push o1).push o2).push o3).push (.cells [(.int .i64 0), (.int .u64 0)] ty_api_Wide false))) fun t7_4 =>
 (bd (ldN 2 (.ptr (some ((H.push o1).n, 0))) ((((H.push o1).push o2).push o3).push (.cells [(.int .i64 0), (.int .u64 0)] ty_api_Wide false))) fun t8_5 =>
 (bd (ldN 2 (.ptr (some (((H.push o1).push o2).n, 0))) ((((H.push o1).push o2).push o3).push (.cells [(.int .i64 0), (.int .u64 0)] ty_api_Wide false))) fun t9_6 =>
 (bd (bSl 2 ty_api_Point [(.int .i64 0), (.int .i64 0)] 3 [(0, t7_4), (1, t8_5), (2, t9_6)]) fun o7 =>
 (bd (call 229 [(.slice ⟨some (((((H.push o1).push o2).push o3).push (.cells [(.int .i64 0), (.int .u64 0)] ty_api_Wide false)).n, 0), 3, 2, false⟩)] (((((H.push o1).push o2).push o3).push (.cells [(.int .i64 0), (.int .u64 0)] ty_api_Wide false)).push o7)) fun r8 =>
 (bd (unA .not r8.1) fun t12_9 =>
 (bd (asB t12_9) fun b10 =>
 if b10 = true then
 (bd (flA [(0, 1), (1, 1)] [(.int .i64 0), (.int .u64 0)] []) fun t13_11 =>
 (bd (stA 2 (.ptr (some ((((H.push o1).push o2).push o3).n, 0))) t13_11 r8.2) fun H12 =>
 (bd (ldN 2 (.ptr (some ((((H.push o1).push o2).push o3).n, 0))) H12) fun t13 =>
 (some (t13, H12)))))
 else
 (bd (ldN 2 (.ptr (some (H.n, 0))) (r8.2.more 0)) fun t14_14 =>
 (bd (ldN 2 (.ptr (some ((H.push o1).n, 0))) (r8.2.more 0)) fun t15_15 =>
 (bd (call 264 [t14_14, t15_15] (r8.2.more 0)) fun r16 =>
 (bd (ldN 2 (.ptr (some (H.n, 0))) r16.2) fun t17_17 =>
 (bd (chk (ldN 2 (.ptr (some (H.n, 0))) (r8.2.more 0)) t17_17) fun _ =>
 (bd (ldN 2 (.ptr (some (((H.push o1).push o2).n, 0))) r16.2) fun t18_18 =>
 (bd (chk (ldN 2 (.ptr (some (((H.push o1).push o2).n, 0))) (r8.2.more 0)) t18_18) fun _ =>
 (bd (call 264 [t17_17, t18_18] r16.2) fun r19 =>
 (bd (call 263 [r16.1, r19.1] r19.2) fun r20 =>
 (bd (stA 2 (.ptr (some ((((H.push o1).push o2).push o3).n, 0))) r20.1 r20.2) fun H21 =>
 (bd (ldN 2 (.ptr (some ((((H.push o1).push o2).push o3).n, 0))) H21) fun t22 =>
 (some (t22, H21)))))))))))))))))))))))
theorem pred_Area2.r_e (n : Nat) (v0 v1 v2 : V) (H : Heap) : pred_Area2.r @bdI (callA C n) n v0 v1 v2 H = E C n 208 [] (argsA 0 [v0, v1, v2]) H (kR C 208) := by
  unfold pred_Area2.r
  kernel_rfl
noncomputable def pred_Area2.rf (bd : B3) (call : FuncId → List V → Heap → Option R) (n : Nat) (a : List V) (H : Heap) : Option R := pureA a H fun a => (match a with | [v0, v1, v2] => pred_Area2.r bd call n v0 v1 v2 ⟨0, .nil⟩ | a => E C n 208 [] (argsA 0 a) ⟨0, .nil⟩ (kR C 208))
theorem pred_Area2.rf_b (n : Nat) (a : List V) (H : Heap) : (match a with | [v0, v1, v2] => pred_Area2.r @bdI (callA C n) n v0 v1 v2 H | a => E C n 208 [] (argsA 0 a) H (kR C 208)) = E C n 208 [] (argsA 0 a) H (kR C 208) := by
  split
  · exact pred_Area2.r_e n _ _ _ H
  · rfl
theorem pred_Area2.rf_e (n : Nat) (a : List V) (H : Heap) : pred_Area2.rf @bdI (callA C n) n a H = callA C (n + 1) 208 a H := by
  unfold pred_Area2.rf
  refine (congrArg (pureA a H) (funext fun a => pred_Area2.rf_b n a ⟨0, .nil⟩)).trans ?_
  kernel_rfl
@[irreducible] noncomputable def wide_Mul.p0 (n : Nat) (v0 v1 v4 v5 v6 : V) (H : Heap) : Option R := E C n 212 [1, 1, 1] [(0, v0), (1, v1), (4, v4), (5, v5), (6, v6)] H (kR C 212)
noncomputable def wide_Mul.r_p0 (bd : B3) (call : FuncId → List V → Heap → Option R) (n : Nat) (v0 v1 v4 v5 v6 : V) (H : Heap) : Option R :=
 (bd (arA .lss v1 (.int .i64 0)) fun t22_1 =>
 (bd (asB t22_1) fun b2 =>
 if b2 = true then
 (bd (cvInt .u64 v0) fun t25_3 =>
 (bd (arA .sub v5 t25_3) fun t26_4 =>
 (bd (cvInt .i64 t26_4) fun t28_5 =>
 (bd (flA [(0, 1), (1, 1)] [(.int .i64 0), (.int .u64 0)] [(0, t28_5), (1, v6)]) fun t30_6 =>
 (bd (stA 2 v4 t30_6 H) fun H7 =>
 (bd (ldN 2 v4 H7) fun t8 =>
 (some (t8, H7))))))))
 else
 (bd (cvInt .i64 v5) fun t28_9 =>
 (bd (flA [(0, 1), (1, 1)] [(.int .i64 0), (.int .u64 0)] [(0, t28_9), (1, v6)]) fun t30_10 =>
 (bd (stA 2 v4 t30_10 H) fun H11 =>
 (bd (ldN 2 v4 H11) fun t12 =>
 (some (t12, H11))))))))
theorem wide_Mul.r_p0_e (n : Nat) : wide_Mul.r_p0 @bdI (callA C n) n = wide_Mul.p0 n := by
  funext v0 v1 v4 v5 v6 H
  unfold wide_Mul.r_p0
  kernel_rfl
noncomputable def wide_Mul.r (bd : B3) (call : FuncId → List V → Heap → Option R) (n : Nat) (v0 v1 : V) (H : Heap) : Option R :=
 (bd (cvInt .u64 v0) fun t9_1 =>
 (bd (cvInt .u64 v1) fun t11_2 =>
 (bd (call 266 [t9_1, t11_2] (H.push (.cells [(.int .i64 0), (.int .u64 0)] ty_api_Wide false))) fun r3 =>
 (bd (extA r3.1 0) fun t13_4 =>
 (bd (extA r3.1 1) fun t14_5 =>
 (bd (arA .lss v0 (.int .i64 0)) fun t16_6 =>
 (bd (asB t16_6) fun b7 =>
 if b7 = true then
 (bd (cvInt .u64 v1) fun t19_8 =>
 (bd (arA .sub t13_4 t19_8) fun t20_9 =>
 (wide_Mul.r_p0 bd call n v0 v1 (.ptr (some (H.n, 0))) t20_9 t14_5 r3.2)))
 else
 (wide_Mul.r_p0 bd call n v0 v1 (.ptr (some (H.n, 0))) t13_4 t14_5 r3.2))))))))
theorem wide_Mul.r_e (n : Nat) (v0 v1 : V) (H : Heap) : wide_Mul.r @bdI (callA C n) n v0 v1 H = E C n 212 [] (argsA 0 [v0, v1]) H (kR C 212) := by
  unfold wide_Mul.r
  rewrite [wide_Mul.r_p0_e]
  kernel_rfl
noncomputable def wide_Mul.rf (bd : B3) (call : FuncId → List V → Heap → Option R) (n : Nat) (a : List V) (H : Heap) : Option R := pureA a H fun a => (match a with | [v0, v1] => wide_Mul.r bd call n v0 v1 ⟨0, .nil⟩ | a => E C n 212 [] (argsA 0 a) ⟨0, .nil⟩ (kR C 212))
theorem wide_Mul.rf_b (n : Nat) (a : List V) (H : Heap) : (match a with | [v0, v1] => wide_Mul.r @bdI (callA C n) n v0 v1 H | a => E C n 212 [] (argsA 0 a) H (kR C 212)) = E C n 212 [] (argsA 0 a) H (kR C 212) := by
  split
  · exact wide_Mul.r_e n _ _ H
  · rfl
theorem wide_Mul.rf_e (n : Nat) (a : List V) (H : Heap) : wide_Mul.rf @bdI (callA C n) n a H = callA C (n + 1) 212 a H := by
  unfold wide_Mul.rf
  refine (congrArg (pureA a H) (funext fun a => wide_Mul.rf_b n a ⟨0, .nil⟩)).trans ?_
  kernel_rfl
noncomputable def lift_Can.r (bd : B3) (call : FuncId → List V → Heap → Option R) (n : Nat) (v0 : V) (H : Heap) : Option R :=
 (bd (boxA ty_api_Point v0) fun o1 =>
 (bd (ldN 2 (.ptr (some (H.n, 0))) (H.push o1)) fun t3_2 =>
 (bd (call 134 [t3_2] (H.push o1)) fun r3 =>
 (some (r3.1, r3.2)))))
theorem lift_Can.r_e (n : Nat) (v0 : V) (H : Heap) : lift_Can.r @bdI (callA C n) n v0 H = E C n 221 [] (argsA 0 [v0]) H (kR C 221) := by
  unfold lift_Can.r
  kernel_rfl
noncomputable def lift_Can.rf (bd : B3) (call : FuncId → List V → Heap → Option R) (n : Nat) (a : List V) (H : Heap) : Option R := pureA a H fun a => (match a with | [v0] => lift_Can.r bd call n v0 ⟨0, .nil⟩ | a => E C n 221 [] (argsA 0 a) ⟨0, .nil⟩ (kR C 221))
theorem lift_Can.rf_b (n : Nat) (a : List V) (H : Heap) : (match a with | [v0] => lift_Can.r @bdI (callA C n) n v0 H | a => E C n 221 [] (argsA 0 a) H (kR C 221)) = E C n 221 [] (argsA 0 a) H (kR C 221) := by
  split
  · exact lift_Can.r_e n _ H
  · rfl
theorem lift_Can.rf_e (n : Nat) (a : List V) (H : Heap) : lift_Can.rf @bdI (callA C n) n a H = callA C (n + 1) 221 a H := by
  unfold lift_Can.rf
  refine (congrArg (pureA a H) (funext fun a => lift_Can.rf_b n a ⟨0, .nil⟩)).trans ?_
  kernel_rfl
noncomputable def circum_circle.r (bd : B3) (call : FuncId → List V → Heap → Option R) (n : Nat) (v0 v1 v2 : V) (H : Heap) : Option R :=
 (bd (boxA ty_api_Point v0) fun o1 =>
 (bd (boxA ty_api_Point v1) fun o2 =>
 (bd (boxA ty_api_Point v2) fun o3 =>
 (bd (ldN 2 (.ptr (some (H.n, 0))) (((H.push o1).push o2).push o3)) fun t7_4 =>
 (bd (ldN 2 (.ptr (some ((H.push o1).n, 0))) (((H.push o1).push o2).push o3)) fun t8_5 =>
 (bd (ldN 2 (.ptr (some (((H.push o1).push o2).n, 0))) (((H.push o1).push o2).push o3)) fun t9_6 =>
 (bd (call 167 [t7_4, t8_5, t9_6] (((H.push o1).push o2).push o3)) fun r7 =>
 (bd (arA .neq r7.1 (.int .i64 0)) fun t11_8 =>
 (some (t11_8, r7.2))))))))))
theorem circum_circle.r_e (n : Nat) (v0 v1 v2 : V) (H : Heap) : circum_circle.r @bdI (callA C n) n v0 v1 v2 H = E C n 222 [] (argsA 0 [v0, v1, v2]) H (kR C 222) := by
  unfold circum_circle.r
  kernel_rfl
noncomputable def circum_circle.rf (bd : B3) (call : FuncId → List V → Heap → Option R) (n : Nat) (a : List V) (H : Heap) : Option R := pureA a H fun a => (match a with | [v0, v1, v2] => circum_circle.r bd call n v0 v1 v2 ⟨0, .nil⟩ | a => E C n 222 [] (argsA 0 a) ⟨0, .nil⟩ (kR C 222))
theorem circum_circle.rf_b (n : Nat) (a : List V) (H : Heap) : (match a with | [v0, v1, v2] => circum_circle.r @bdI (callA C n) n v0 v1 v2 H | a => E C n 222 [] (argsA 0 a) H (kR C 222)) = E C n 222 [] (argsA 0 a) H (kR C 222) := by
  split
  · exact circum_circle.r_e n _ _ _ H
  · rfl
theorem circum_circle.rf_e (n : Nat) (a : List V) (H : Heap) : circum_circle.rf @bdI (callA C n) n a H = callA C (n + 1) 222 a H := by
  unfold circum_circle.rf
  refine (congrArg (pureA a H) (funext fun a => circum_circle.rf_b n a ⟨0, .nil⟩)).trans ?_
  kernel_rfl
noncomputable def whole_Mul.r (bd : B3) (call : FuncId → List V → Heap → Option R) (n : Nat) (v0 v1 : V) (H : Heap) : Option R :=
 (bd (boxA ty_api_Int v0) fun o1 =>
 (bd (boxA ty_api_Int v1) fun o2 =>
 (bd (faA 1 (.ptr (some (H.n, 0)))) fun t10_3 =>
 (bd (ld1 t10_3 ((((H.push o1).push o2).push (.cells [(.bool false), (.slice ⟨none, 0, 0, false⟩)] ty_api_Int false)).more 0)) fun t11_4 =>
 (bd (faA 1 (.ptr (some ((H.push o1).n, 0)))) fun t12_5 =>
 (bd (ld1 t12_5 ((((H.push o1).push o2).push (.cells [(.bool false), (.slice ⟨none, 0, 0, false⟩)] ty_api_Int false)).more 0)) fun t13_6 =>
 (bd (call 271 [t11_4, t13_6] ((((H.push o1).push o2).push (.cells [(.bool false), (.slice ⟨none, 0, 0, false⟩)] ty_api_Int false)).more 0)) fun r7 =>
 (bd (faA 0 (.ptr (some (H.n, 0)))) fun t5_8 =>
 (bd (ld1 t5_8 r7.2) fun t6_9 =>
 (bd (chk (ld1 t5_8 ((((H.push o1).push o2).push (.cells [(.bool false), (.slice ⟨none, 0, 0, false⟩)] ty_api_Int false)).more 0)) t6_9) fun _ =>
 (bd (faA 0 (.ptr (some ((H.push o1).n, 0)))) fun t7_10 =>
 (bd (ld1 t7_10 r7.2) fun t8_11 =>
 (bd (chk (ld1 t7_10 ((((H.push o1).push o2).push (.cells [(.bool false), (.slice ⟨none, 0, 0, false⟩)] ty_api_Int false)).more 0)) t8_11) fun _ =>
 (bd (neqA P ty_bool t6_9 t8_11) fun t9_12 =>
 (bd (call 270 [t9_12, r7.1] r7.2) fun r13 =>
 (bd (stA 2 (.ptr (some (((H.push o1).push o2).n, 0))) r13.1 r13.2) fun H14 =>
 (bd (ldN 2 (.ptr (some (((H.push o1).push o2).n, 0))) H14) fun t15 =>
 (frzR t15 H14))))))))))))))))))
theorem whole_Mul.r_e (n : Nat) (v0 v1 : V) (H : Heap) : whole_Mul.r @bdI (callA C n) n v0 v1 H = E C n 223 [] (argsA 0 [v0, v1]) H (kR C 223) := by
  unfold whole_Mul.r
  kernel_rfl
noncomputable def whole_Mul.rf (bd : B3) (call : FuncId → List V → Heap → Option R) (n : Nat) (a : List V) (H : Heap) : Option R := pureA a H fun a => (match a with | [v0, v1] => whole_Mul.r bd call n v0 v1 ⟨0, .nil⟩ | a => E C n 223 [] (argsA 0 a) ⟨0, .nil⟩ (kR C 223))
theorem whole_Mul.rf_b (n : Nat) (a : List V) (H : Heap) : (match a with | [v0, v1] => whole_Mul.r @bdI (callA C n) n v0 v1 H | a => E C n 223 [] (argsA 0 a) H (kR C 223)) = E C n 223 [] (argsA 0 a) H (kR C 223) := by
  split
  · exact whole_Mul.r_e n _ _ H
  · rfl
theorem whole_Mul.rf_e (n : Nat) (a : List V) (H : Heap) : whole_Mul.rf @bdI (callA C n) n a H = callA C (n + 1) 223 a H := by
  unfold whole_Mul.rf
  refine (congrArg (pureA a H) (funext fun a => whole_Mul.rf_b n a ⟨0, .nil⟩)).trans ?_
  kernel_rfl
noncomputable def whole_Of.r (bd : B3) (call : FuncId → List V → Heap → Option R) (n : Nat) (v0 : V) (H : Heap) : Option R :=
 (bd (arA .lss v0 (.int .i64 0)) fun t4_1 =>
 (bd (asB t4_1) fun b2 =>
 if b2 = true then
 (bd (cvInt .u64 v0) fun t6_3 =>
 (bd (unA .neg t6_3) fun t7_4 =>
 (bd (call 272 [t7_4] (H.push (.cells [(.bool false), (.slice ⟨none, 0, 0, false⟩)] ty_api_Int false))) fun r5 =>
 (bd (call 270 [(.bool true), r5.1] r5.2) fun r6 =>
 (bd (stA 2 (.ptr (some (H.n, 0))) r6.1 r6.2) fun H7 =>
 (bd (ldN 2 (.ptr (some (H.n, 0))) H7) fun t8 =>
 (frzR t8 H7)))))))
 else
 (bd (cvInt .u64 v0) fun t11_9 =>
 (bd (call 272 [t11_9] (H.push (.cells [(.bool false), (.slice ⟨none, 0, 0, false⟩)] ty_api_Int false))) fun r10 =>
 (bd (call 270 [(.bool false), r10.1] r10.2) fun r11 =>
 (bd (stA 2 (.ptr (some (H.n, 0))) r11.1 r11.2) fun H12 =>
 (bd (ldN 2 (.ptr (some (H.n, 0))) H12) fun t13 =>
 (frzR t13 H12))))))))
theorem whole_Of.r_e (n : Nat) (v0 : V) (H : Heap) : whole_Of.r @bdI (callA C n) n v0 H = E C n 224 [] (argsA 0 [v0]) H (kR C 224) := by
  unfold whole_Of.r
  kernel_rfl
noncomputable def whole_Of.rf (bd : B3) (call : FuncId → List V → Heap → Option R) (n : Nat) (a : List V) (H : Heap) : Option R := pureA a H fun a => (match a with | [v0] => whole_Of.r bd call n v0 ⟨0, .nil⟩ | a => E C n 224 [] (argsA 0 a) ⟨0, .nil⟩ (kR C 224))
theorem whole_Of.rf_b (n : Nat) (a : List V) (H : Heap) : (match a with | [v0] => whole_Of.r @bdI (callA C n) n v0 H | a => E C n 224 [] (argsA 0 a) H (kR C 224)) = E C n 224 [] (argsA 0 a) H (kR C 224) := by
  split
  · exact whole_Of.r_e n _ H
  · rfl
theorem whole_Of.rf_e (n : Nat) (a : List V) (H : Heap) : whole_Of.rf @bdI (callA C n) n a H = callA C (n + 1) 224 a H := by
  unfold whole_Of.rf
  refine (congrArg (pureA a H) (funext fun a => whole_Of.rf_b n a ⟨0, .nil⟩)).trans ?_
  kernel_rfl
noncomputable def circum_sides.r (bd : B3) (call : FuncId → List V → Heap → Option R) (n : Nat) (v0 v1 v2 : V) (H : Heap) : Option R :=
 (bd (boxA ty_api_Point v0) fun o1 =>
 (bd (boxA ty_api_Point v1) fun o2 =>
 (bd (boxA ty_api_Point v2) fun o3 =>
 (bd (ldN 2 (.ptr (some (H.n, 0))) (((((H.push o1).push o2).push o3).push (.cells [(.bool false), (.slice ⟨none, 0, 0, false⟩)] ty_api_Int false)).more 0)) fun t7_4 =>
 (bd (ldN 2 (.ptr (some ((H.push o1).n, 0))) (((((H.push o1).push o2).push o3).push (.cells [(.bool false), (.slice ⟨none, 0, 0, false⟩)] ty_api_Int false)).more 0)) fun t8_5 =>
 (bd (call 273 [t7_4, t8_5] (((((H.push o1).push o2).push o3).push (.cells [(.bool false), (.slice ⟨none, 0, 0, false⟩)] ty_api_Int false)).more 0)) fun r6 =>
 (bd (call 227 [r6.1] r6.2) fun r7 =>
 (bd (ldN 2 (.ptr (some ((H.push o1).n, 0))) r7.2) fun t11_8 =>
 (bd (chk (ldN 2 (.ptr (some ((H.push o1).n, 0))) r6.2) t11_8) fun _ =>
 (bd (chk (ldN 2 (.ptr (some ((H.push o1).n, 0))) (((((H.push o1).push o2).push o3).push (.cells [(.bool false), (.slice ⟨none, 0, 0, false⟩)] ty_api_Int false)).more 0)) t11_8) fun _ =>
 (bd (ldN 2 (.ptr (some (((H.push o1).push o2).n, 0))) r7.2) fun t12_9 =>
 (bd (chk (ldN 2 (.ptr (some (((H.push o1).push o2).n, 0))) r6.2) t12_9) fun _ =>
 (bd (chk (ldN 2 (.ptr (some (((H.push o1).push o2).n, 0))) (((((H.push o1).push o2).push o3).push (.cells [(.bool false), (.slice ⟨none, 0, 0, false⟩)] ty_api_Int false)).more 0)) t12_9) fun _ =>
 (bd (call 273 [t11_8, t12_9] r7.2) fun r10 =>
 (bd (call 227 [r10.1] r10.2) fun r11 =>
 (bd (call 223 [r7.1, r11.1] r11.2) fun r12 =>
 (bd (ldN 2 (.ptr (some (((H.push o1).push o2).n, 0))) r12.2) fun t16_13 =>
 (bd (chk (ldN 2 (.ptr (some (((H.push o1).push o2).n, 0))) r11.2) t16_13) fun _ =>
 (bd (chk (ldN 2 (.ptr (some (((H.push o1).push o2).n, 0))) r10.2) t16_13) fun _ =>
 (bd (chk (ldN 2 (.ptr (some (((H.push o1).push o2).n, 0))) r7.2) t16_13) fun _ =>
 (bd (chk (ldN 2 (.ptr (some (((H.push o1).push o2).n, 0))) r6.2) t16_13) fun _ =>
 (bd (chk (ldN 2 (.ptr (some (((H.push o1).push o2).n, 0))) (((((H.push o1).push o2).push o3).push (.cells [(.bool false), (.slice ⟨none, 0, 0, false⟩)] ty_api_Int false)).more 0)) t16_13) fun _ =>
 (bd (ldN 2 (.ptr (some (H.n, 0))) r12.2) fun t17_14 =>
 (bd (chk (ldN 2 (.ptr (some (H.n, 0))) r11.2) t17_14) fun _ =>
 (bd (chk (ldN 2 (.ptr (some (H.n, 0))) r10.2) t17_14) fun _ =>
 (bd (chk (ldN 2 (.ptr (some (H.n, 0))) r7.2) t17_14) fun _ =>
 (bd (chk (ldN 2 (.ptr (some (H.n, 0))) r6.2) t17_14) fun _ =>
 (bd (chk (ldN 2 (.ptr (some (H.n, 0))) (((((H.push o1).push o2).push o3).push (.cells [(.bool false), (.slice ⟨none, 0, 0, false⟩)] ty_api_Int false)).more 0)) t17_14) fun _ =>
 (bd (call 273 [t16_13, t17_14] r12.2) fun r15 =>
 (bd (call 227 [r15.1] r15.2) fun r16 =>
 (bd (call 223 [r12.1, r16.1] r16.2) fun r17 =>
 (bd (stA 2 (.ptr (some ((((H.push o1).push o2).push o3).n, 0))) r17.1 r17.2) fun H18 =>
 (bd (ldN 2 (.ptr (some ((((H.push o1).push o2).push o3).n, 0))) H18) fun t19 =>
 (frzR t19 H18))))))))))))))))))))))))))))))))))
theorem circum_sides.r_e (n : Nat) (v0 v1 v2 : V) (H : Heap) : circum_sides.r @bdI (callA C n) n v0 v1 v2 H = E C n 225 [] (argsA 0 [v0, v1, v2]) H (kR C 225) := by
  unfold circum_sides.r
  kernel_rfl
noncomputable def circum_sides.rf (bd : B3) (call : FuncId → List V → Heap → Option R) (n : Nat) (a : List V) (H : Heap) : Option R := pureA a H fun a => (match a with | [v0, v1, v2] => circum_sides.r bd call n v0 v1 v2 ⟨0, .nil⟩ | a => E C n 225 [] (argsA 0 a) ⟨0, .nil⟩ (kR C 225))
theorem circum_sides.rf_b (n : Nat) (a : List V) (H : Heap) : (match a with | [v0, v1, v2] => circum_sides.r @bdI (callA C n) n v0 v1 v2 H | a => E C n 225 [] (argsA 0 a) H (kR C 225)) = E C n 225 [] (argsA 0 a) H (kR C 225) := by
  split
  · exact circum_sides.r_e n _ _ _ H
  · rfl
theorem circum_sides.rf_e (n : Nat) (a : List V) (H : Heap) : circum_sides.rf @bdI (callA C n) n a H = callA C (n + 1) 225 a H := by
  unfold circum_sides.rf
  refine (congrArg (pureA a H) (funext fun a => circum_sides.rf_b n a ⟨0, .nil⟩)).trans ?_
  kernel_rfl
noncomputable def whole_Cmp.r (bd : B3) (call : FuncId → List V → Heap → Option R) (n : Nat) (v0 v1 : V) (H : Heap) : Option R :=
 (bd (boxA ty_api_Int v0) fun o1 =>
 (bd (boxA ty_api_Int v1) fun o2 =>
 (bd (ldN 2 (.ptr (some (H.n, 0))) (((H.push o1).push o2).more 0)) fun t7_3 =>
 (bd (call 274 [t7_3] (((H.push o1).push o2).more 0)) fun r4 =>
 (bd (ldN 2 (.ptr (some ((H.push o1).n, 0))) r4.2) fun t9_5 =>
 (bd (chk (ldN 2 (.ptr (some ((H.push o1).n, 0))) (((H.push o1).push o2).more 0)) t9_5) fun _ =>
 (bd (call 274 [t9_5] r4.2) fun r6 =>
 (bd (arA .lss r4.1 r6.1) fun t14_7 =>
 (bd (asB t14_7) fun b8 =>
 if b8 = true then
 (some ((.int .i64 (-1)), r6.2))
 else
 (bd (arA .gtr r4.1 r6.1) fun t18_9 =>
 (bd (asB t18_9) fun b10 =>
 if b10 = true then
 (some ((.int .i64 1), r6.2))
 else
 (bd (arA .lss r4.1 (.int .i64 0)) fun t21_11 =>
 (bd (asB t21_11) fun b12 =>
 if b12 = true then
 (bd (faA 1 (.ptr (some ((H.push o1).n, 0)))) fun t22_13 =>
 (bd (ld1 t22_13 r6.2) fun t23_14 =>
 (bd (faA 1 (.ptr (some (H.n, 0)))) fun t24_15 =>
 (bd (ld1 t24_15 r6.2) fun t25_16 =>
 (bd (call 275 [t23_14, t25_16] r6.2) fun r17 =>
 (some (r17.1, r17.2)))))))
 else
 (bd (faA 1 (.ptr (some (H.n, 0)))) fun t27_18 =>
 (bd (ld1 t27_18 r6.2) fun t28_19 =>
 (bd (faA 1 (.ptr (some ((H.push o1).n, 0)))) fun t29_20 =>
 (bd (ld1 t29_20 r6.2) fun t30_21 =>
 (bd (call 275 [t28_19, t30_21] r6.2) fun r22 =>
 (some (r22.1, r22.2))))))))))))))))))))
theorem whole_Cmp.r_e (n : Nat) (v0 v1 : V) (H : Heap) : whole_Cmp.r @bdI (callA C n) n v0 v1 H = E C n 226 [] (argsA 0 [v0, v1]) H (kR C 226) := by
  unfold whole_Cmp.r
  kernel_rfl
noncomputable def whole_Cmp.rf (bd : B3) (call : FuncId → List V → Heap → Option R) (n : Nat) (a : List V) (H : Heap) : Option R := pureA a H fun a => (match a with | [v0, v1] => whole_Cmp.r bd call n v0 v1 ⟨0, .nil⟩ | a => E C n 226 [] (argsA 0 a) ⟨0, .nil⟩ (kR C 226))
theorem whole_Cmp.rf_b (n : Nat) (a : List V) (H : Heap) : (match a with | [v0, v1] => whole_Cmp.r @bdI (callA C n) n v0 v1 H | a => E C n 226 [] (argsA 0 a) H (kR C 226)) = E C n 226 [] (argsA 0 a) H (kR C 226) := by
  split
  · exact whole_Cmp.r_e n _ _ H
  · rfl
theorem whole_Cmp.rf_e (n : Nat) (a : List V) (H : Heap) : whole_Cmp.rf @bdI (callA C n) n a H = callA C (n + 1) 226 a H := by
  unfold whole_Cmp.rf
  refine (congrArg (pureA a H) (funext fun a => whole_Cmp.rf_b n a ⟨0, .nil⟩)).trans ?_
  kernel_rfl
noncomputable def circum_long.r (bd : B3) (call : FuncId → List V → Heap → Option R) (n : Nat) (v0 : V) (H : Heap) : Option R :=
 (bd (boxA ty_api_Wide v0) fun o1 =>
 (bd (ldN 2 (.ptr (some (H.n, 0))) ((H.push o1).push (.cells [(.bool false), (.slice ⟨none, 0, 0, false⟩)] ty_api_Int false))) fun t3_2 =>
 (bd (call 277 [t3_2] ((H.push o1).push (.cells [(.bool false), (.slice ⟨none, 0, 0, false⟩)] ty_api_Int false))) fun r3 =>
 (bd (call 276 [r3.1] r3.2) fun r4 =>
 (bd (stA 2 (.ptr (some ((H.push o1).n, 0))) r4.1 r4.2) fun H5 =>
 (bd (ldN 2 (.ptr (some ((H.push o1).n, 0))) H5) fun t6 =>
 (frzR t6 H5)))))))
theorem circum_long.r_e (n : Nat) (v0 : V) (H : Heap) : circum_long.r @bdI (callA C n) n v0 H = E C n 227 [] (argsA 0 [v0]) H (kR C 227) := by
  unfold circum_long.r
  kernel_rfl
noncomputable def circum_long.rf (bd : B3) (call : FuncId → List V → Heap → Option R) (n : Nat) (a : List V) (H : Heap) : Option R := pureA a H fun a => (match a with | [v0] => circum_long.r bd call n v0 ⟨0, .nil⟩ | a => E C n 227 [] (argsA 0 a) ⟨0, .nil⟩ (kR C 227))
theorem circum_long.rf_b (n : Nat) (a : List V) (H : Heap) : (match a with | [v0] => circum_long.r @bdI (callA C n) n v0 H | a => E C n 227 [] (argsA 0 a) H (kR C 227)) = E C n 227 [] (argsA 0 a) H (kR C 227) := by
  split
  · exact circum_long.r_e n _ H
  · rfl
theorem circum_long.rf_e (n : Nat) (a : List V) (H : Heap) : circum_long.rf @bdI (callA C n) n a H = callA C (n + 1) 227 a H := by
  unfold circum_long.rf
  refine (congrArg (pureA a H) (funext fun a => circum_long.rf_b n a ⟨0, .nil⟩)).trans ?_
  kernel_rfl
noncomputable def circum_square.r (bd : B3) (call : FuncId → List V → Heap → Option R) (n : Nat) (v0 v1 v2 : V) (H : Heap) : Option R :=
 (bd (boxA ty_api_Point v0) fun o1 =>
 (bd (boxA ty_api_Point v1) fun o2 =>
 (bd (boxA ty_api_Point v2) fun o3 =>
 (bd (ldN 2 (.ptr (some (H.n, 0))) ((((H.push o1).push o2).push o3).push (.cells [(.bool false), (.slice ⟨none, 0, 0, false⟩)] ty_api_Int false))) fun t8_4 =>
 (bd (ldN 2 (.ptr (some ((H.push o1).n, 0))) ((((H.push o1).push o2).push o3).push (.cells [(.bool false), (.slice ⟨none, 0, 0, false⟩)] ty_api_Int false))) fun t9_5 =>
 (bd (ldN 2 (.ptr (some (((H.push o1).push o2).n, 0))) ((((H.push o1).push o2).push o3).push (.cells [(.bool false), (.slice ⟨none, 0, 0, false⟩)] ty_api_Int false))) fun t10_6 =>
 (bd (call 208 [t8_4, t9_5, t10_6] ((((H.push o1).push o2).push o3).push (.cells [(.bool false), (.slice ⟨none, 0, 0, false⟩)] ty_api_Int false))) fun r7 =>
 (bd (stA 2 (.ptr (some (r7.2.n, 0))) r7.1 (r7.2.push (.cells [(.int .i64 0), (.int .u64 0)] ty_api_Wide false))) fun H8 =>
 (bd (ldN 2 (.ptr (some (r7.2.n, 0))) H8) fun t12_9 =>
 (bd (ldN 2 (.ptr (some (r7.2.n, 0))) H8) fun t13_10 =>
 (bd (call 278 [t12_9, t13_10] H8) fun r11 =>
 (bd (call 276 [r11.1] r11.2) fun r12 =>
 (bd (stA 2 (.ptr (some ((((H.push o1).push o2).push o3).n, 0))) r12.1 r12.2) fun H13 =>
 (bd (ldN 2 (.ptr (some ((((H.push o1).push o2).push o3).n, 0))) H13) fun t14 =>
 (frzR t14 H13)))))))))))))))
theorem circum_square.r_e (n : Nat) (v0 v1 v2 : V) (H : Heap) : circum_square.r @bdI (callA C n) n v0 v1 v2 H = E C n 228 [] (argsA 0 [v0, v1, v2]) H (kR C 228) := by
  unfold circum_square.r
  kernel_rfl
noncomputable def circum_square.rf (bd : B3) (call : FuncId → List V → Heap → Option R) (n : Nat) (a : List V) (H : Heap) : Option R := pureA a H fun a => (match a with | [v0, v1, v2] => circum_square.r bd call n v0 v1 v2 ⟨0, .nil⟩ | a => E C n 228 [] (argsA 0 a) ⟨0, .nil⟩ (kR C 228))
theorem circum_square.rf_b (n : Nat) (a : List V) (H : Heap) : (match a with | [v0, v1, v2] => circum_square.r @bdI (callA C n) n v0 v1 v2 H | a => E C n 228 [] (argsA 0 a) H (kR C 228)) = E C n 228 [] (argsA 0 a) H (kR C 228) := by
  split
  · exact circum_square.r_e n _ _ _ H
  · rfl
theorem circum_square.rf_e (n : Nat) (a : List V) (H : Heap) : circum_square.rf @bdI (callA C n) n a H = callA C (n + 1) 228 a H := by
  unfold circum_square.rf
  refine (congrArg (pureA a H) (funext fun a => circum_square.rf_b n a ⟨0, .nil⟩)).trans ?_
  kernel_rfl
end Go.AM.S
end
section
set_option linter.unusedVariables false
set_option linter.unusedSimpArgs false
set_option maxRecDepth 1000000
set_option linter.unusedVariables false
namespace Go.AM.S
@[irreducible] noncomputable def pred_can.l0 (n m0 : Nat) (v5 v6 v7 : V) (H : Heap) : Option R := Lp C n 229 [1, 0, 1, 0, 0] m0 [(5, v5), (6, v6), (7, v7)] H (kB 0 (kC C n 229 [1, 1] (kR C 229)))
noncomputable def pred_can.r_l0 (bd : B3) (call : FuncId → List V → Heap → Option R) (n : Nat) (s0 : V → V → V → Heap → Option R) (v5 v6 v7 : V) (H : Heap) : Option R :=
 (bd (arA .lss v7 v6) fun t8_1 =>
 (bd (asB t8_1) fun b2 =>
 if b2 = true then
 (bd (idxS 2 v5 v7) fun t9_3 =>
 (bd (ldN 2 t9_3 H) fun t10_4 =>
 (bd (stA 2 (.ptr (some (H.n, 0))) t10_4 (H.push (.cells [(.int .i64 0), (.int .i64 0)] ty_api_Point false))) fun H5 =>
 (bd (ldN 2 (.ptr (some (H.n, 0))) H5) fun t11_6 =>
 (bd (call 221 [t11_6] H5) fun r7 =>
 (bd (unA .not r7.1) fun t13_8 =>
 (bd (asB t13_8) fun b9 =>
 if b9 = true then
 (some ((.bool false), r7.2))
 else
 (bd (arA .add v7 (.int .i64 1)) fun t14_10 =>
 (s0 v5 v6 t14_10 r7.2)))))))))
 else
 (some ((.bool true), H))))
theorem pred_can.r_l0_e (n m0 : Nat) : pred_can.r_l0 @bdI (callA C n) n (pred_can.l0 n m0) = pred_can.l0 n (m0 + 1) := by
  funext v5 v6 v7 H
  unfold pred_can.r_l0
  kernel_rfl
noncomputable def pred_can.r_l0_lp (bd : B3) (call : FuncId → List V → Heap → Option R) (n : Nat) (m : Nat) : V → V → V → Heap → Option R := Nat.rec (motive := fun _ => V → V → V → Heap → Option R) (fun _ _ _ _ => none) (fun _ self => pred_can.r_l0 bd call n self) m
theorem pred_can.r_l0_lp_e (n : Nat) : pred_can.r_l0_lp @bdI (callA C n) n = pred_can.l0 n := by
  funext m
  induction m with
  | zero => funext v5 v6 v7 H; kernel_rfl
  | succ k ih => exact (congrArg (pred_can.r_l0 @bdI (callA C n) n) ih).trans (pred_can.r_l0_e n k)
noncomputable def pred_can.r (bd : B3) (call : FuncId → List V → Heap → Option R) (n : Nat) (v0 : V) (H : Heap) : Option R :=
 (bd (lenSl v0) fun t6_1 =>
 (pred_can.r_l0_lp bd call n n v0 t6_1 (.int .i64 0) H))
theorem pred_can.r_e (n : Nat) (v0 : V) (H : Heap) : pred_can.r @bdI (callA C n) n v0 H = E C n 229 [] (argsA 0 [v0]) H (kR C 229) := by
  unfold pred_can.r
  rewrite [pred_can.r_l0_lp_e]
  kernel_rfl
noncomputable def pred_can.rf (bd : B3) (call : FuncId → List V → Heap → Option R) (n : Nat) (a : List V) (H : Heap) : Option R := pureA a H fun a => (match a with | [v0] => pred_can.r bd call n v0 ⟨0, .nil⟩ | a => E C n 229 [] (argsA 0 a) ⟨0, .nil⟩ (kR C 229))
theorem pred_can.rf_b (n : Nat) (a : List V) (H : Heap) : (match a with | [v0] => pred_can.r @bdI (callA C n) n v0 H | a => E C n 229 [] (argsA 0 a) H (kR C 229)) = E C n 229 [] (argsA 0 a) H (kR C 229) := by
  split
  · exact pred_can.r_e n _ H
  · rfl
theorem pred_can.rf_e (n : Nat) (a : List V) (H : Heap) : pred_can.rf @bdI (callA C n) n a H = callA C (n + 1) 229 a H := by
  unfold pred_can.rf
  refine (congrArg (pureA a H) (funext fun a => pred_can.rf_b n a ⟨0, .nil⟩)).trans ?_
  kernel_rfl
noncomputable def pred_orient.r (bd : B3) (call : FuncId → List V → Heap → Option R) (n : Nat) (v0 v1 v2 : V) (H : Heap) : Option R :=
 (bd (boxA ty_api_Point v0) fun o1 =>
 (bd (boxA ty_api_Point v1) fun o2 =>
 (bd (boxA ty_api_Point v2) fun o3 =>
 (bd (ldN 2 (.ptr (some (H.n, 0))) ((((H.push o1).push o2).push o3).more 0)) fun t7_4 =>
 (bd (ldN 2 (.ptr (some ((H.push o1).n, 0))) ((((H.push o1).push o2).push o3).more 0)) fun t8_5 =>
 (bd (call 264 [t7_4, t8_5] ((((H.push o1).push o2).push o3).more 0)) fun r6 =>
 (bd (ldN 2 (.ptr (some (H.n, 0))) r6.2) fun t10_7 =>
 (bd (chk (ldN 2 (.ptr (some (H.n, 0))) ((((H.push o1).push o2).push o3).more 0)) t10_7) fun _ =>
 (bd (ldN 2 (.ptr (some (((H.push o1).push o2).n, 0))) r6.2) fun t11_8 =>
 (bd (chk (ldN 2 (.ptr (some (((H.push o1).push o2).n, 0))) ((((H.push o1).push o2).push o3).more 0)) t11_8) fun _ =>
 (bd (call 264 [t10_7, t11_8] r6.2) fun r9 =>
 (bd (call 263 [r6.1, r9.1] r9.2) fun r10 =>
 (bd (call 279 [r10.1] r10.2) fun r11 =>
 (some (r11.1, r11.2)))))))))))))))
theorem pred_orient.r_e (n : Nat) (v0 v1 v2 : V) (H : Heap) : pred_orient.r @bdI (callA C n) n v0 v1 v2 H = E C n 230 [] (argsA 0 [v0, v1, v2]) H (kR C 230) := by
  unfold pred_orient.r
  kernel_rfl
noncomputable def pred_orient.rf (bd : B3) (call : FuncId → List V → Heap → Option R) (n : Nat) (a : List V) (H : Heap) : Option R := pureA a H fun a => (match a with | [v0, v1, v2] => pred_orient.r bd call n v0 v1 v2 ⟨0, .nil⟩ | a => E C n 230 [] (argsA 0 a) ⟨0, .nil⟩ (kR C 230))
theorem pred_orient.rf_b (n : Nat) (a : List V) (H : Heap) : (match a with | [v0, v1, v2] => pred_orient.r @bdI (callA C n) n v0 v1 v2 H | a => E C n 230 [] (argsA 0 a) H (kR C 230)) = E C n 230 [] (argsA 0 a) H (kR C 230) := by
  split
  · exact pred_orient.r_e n _ _ _ H
  · rfl
theorem pred_orient.rf_e (n : Nat) (a : List V) (H : Heap) : pred_orient.rf @bdI (callA C n) n a H = callA C (n + 1) 230 a H := by
  unfold pred_orient.rf
  refine (congrArg (pureA a H) (funext fun a => pred_orient.rf_b n a ⟨0, .nil⟩)).trans ?_
  kernel_rfl
noncomputable def wide_add.r (bd : B3) (call : FuncId → List V → Heap → Option R) (n : Nat) (v0 v1 : V) (H : Heap) : Option R :=
 (bd (boxA ty_api_Wide v0) fun o1 =>
 (bd (boxA ty_api_Wide v1) fun o2 =>
 (bd (faA 1 (.ptr (some (H.n, 0)))) fun t10_3 =>
 (bd (ld1 t10_3 (((H.push o1).push o2).push (.cells [(.int .i64 0), (.int .u64 0)] ty_api_Wide false))) fun t11_4 =>
 (bd (faA 1 (.ptr (some ((H.push o1).n, 0)))) fun t12_5 =>
 (bd (ld1 t12_5 (((H.push o1).push o2).push (.cells [(.int .i64 0), (.int .u64 0)] ty_api_Wide false))) fun t13_6 =>
 (bd (call 318 [t11_4, t13_6, (.int .u64 0)] (((H.push o1).push o2).push (.cells [(.int .i64 0), (.int .u64 0)] ty_api_Wide false))) fun r7 =>
 (bd (extA r7.1 0) fun t15_8 =>
 (bd (extA r7.1 1) fun t16_9 =>
 (bd (faA 0 (.ptr (some (H.n, 0)))) fun t18_10 =>
 (bd (ld1 t18_10 r7.2) fun t19_11 =>
 (bd (cvInt .u64 t19_11) fun t20_12 =>
 (bd (faA 0 (.ptr (some ((H.push o1).n, 0)))) fun t21_13 =>
 (bd (ld1 t21_13 r7.2) fun t22_14 =>
 (bd (cvInt .u64 t22_14) fun t23_15 =>
 (bd (call 318 [t20_12, t23_15, t16_9] r7.2) fun r16 =>
 (bd (extA r16.1 0) fun t26_17 =>
 (bd (extA r16.1 1) fun t27_18 =>
 (bd (cvInt .i64 t26_17) fun t29_19 =>
 (bd (flA [(0, 1), (1, 1)] [(.int .i64 0), (.int .u64 0)] [(0, t29_19), (1, t15_8)]) fun t31_20 =>
 (bd (stA 2 (.ptr (some (((H.push o1).push o2).n, 0))) t31_20 r16.2) fun H21 =>
 (bd (ldN 2 (.ptr (some (((H.push o1).push o2).n, 0))) H21) fun t22 =>
 (some (t22, H21))))))))))))))))))))))))
theorem wide_add.r_e (n : Nat) (v0 v1 : V) (H : Heap) : wide_add.r @bdI (callA C n) n v0 v1 H = E C n 262 [] (argsA 0 [v0, v1]) H (kR C 262) := by
  unfold wide_add.r
  kernel_rfl
noncomputable def wide_add.rf (bd : B3) (call : FuncId → List V → Heap → Option R) (n : Nat) (a : List V) (H : Heap) : Option R := pureA a H fun a => (match a with | [v0, v1] => wide_add.r bd call n v0 v1 ⟨0, .nil⟩ | a => E C n 262 [] (argsA 0 a) ⟨0, .nil⟩ (kR C 262))
theorem wide_add.rf_b (n : Nat) (a : List V) (H : Heap) : (match a with | [v0, v1] => wide_add.r @bdI (callA C n) n v0 v1 H | a => E C n 262 [] (argsA 0 a) H (kR C 262)) = E C n 262 [] (argsA 0 a) H (kR C 262) := by
  split
  · exact wide_add.r_e n _ _ H
  · rfl
theorem wide_add.rf_e (n : Nat) (a : List V) (H : Heap) : wide_add.rf @bdI (callA C n) n a H = callA C (n + 1) 262 a H := by
  unfold wide_add.rf
  refine (congrArg (pureA a H) (funext fun a => wide_add.rf_b n a ⟨0, .nil⟩)).trans ?_
  kernel_rfl
noncomputable def pred_across.r (bd : B3) (call : FuncId → List V → Heap → Option R) (n : Nat) (v0 v1 : V) (H : Heap) : Option R :=
 (bd (boxA ty_api_Point v0) fun o1 =>
 (bd (boxA ty_api_Point v1) fun o2 =>
 (bd (faA 0 (.ptr (some (H.n, 0)))) fun t5_3 =>
 (bd (ld1 t5_3 ((((H.push o1).push o2).push (.cells [(.int .i64 0), (.int .u64 0)] ty_api_Wide false)).more 0)) fun t6_4 =>
 (bd (faA 1 (.ptr (some ((H.push o1).n, 0)))) fun t7_5 =>
 (bd (ld1 t7_5 ((((H.push o1).push o2).push (.cells [(.int .i64 0), (.int .u64 0)] ty_api_Wide false)).more 0)) fun t8_6 =>
 (bd (call 212 [t6_4, t8_6] ((((H.push o1).push o2).push (.cells [(.int .i64 0), (.int .u64 0)] ty_api_Wide false)).more 0)) fun r7 =>
 (bd (faA 1 (.ptr (some (H.n, 0)))) fun t10_8 =>
 (bd (ld1 t10_8 r7.2) fun t11_9 =>
 (bd (chk (ld1 t10_8 ((((H.push o1).push o2).push (.cells [(.int .i64 0), (.int .u64 0)] ty_api_Wide false)).more 0)) t11_9) fun _ =>
 (bd (faA 0 (.ptr (some ((H.push o1).n, 0)))) fun t12_10 =>
 (bd (ld1 t12_10 r7.2) fun t13_11 =>
 (bd (chk (ld1 t12_10 ((((H.push o1).push o2).push (.cells [(.int .i64 0), (.int .u64 0)] ty_api_Wide false)).more 0)) t13_11) fun _ =>
 (bd (call 212 [t11_9, t13_11] r7.2) fun r12 =>
 (bd (call 319 [r7.1, r12.1] r12.2) fun r13 =>
 (bd (stA 2 (.ptr (some (((H.push o1).push o2).n, 0))) r13.1 r13.2) fun H14 =>
 (bd (ldN 2 (.ptr (some (((H.push o1).push o2).n, 0))) H14) fun t15 =>
 (some (t15, H14)))))))))))))))))))
theorem pred_across.r_e (n : Nat) (v0 v1 : V) (H : Heap) : pred_across.r @bdI (callA C n) n v0 v1 H = E C n 263 [] (argsA 0 [v0, v1]) H (kR C 263) := by
  unfold pred_across.r
  kernel_rfl
noncomputable def pred_across.rf (bd : B3) (call : FuncId → List V → Heap → Option R) (n : Nat) (a : List V) (H : Heap) : Option R := pureA a H fun a => (match a with | [v0, v1] => pred_across.r bd call n v0 v1 ⟨0, .nil⟩ | a => E C n 263 [] (argsA 0 a) ⟨0, .nil⟩ (kR C 263))
theorem pred_across.rf_b (n : Nat) (a : List V) (H : Heap) : (match a with | [v0, v1] => pred_across.r @bdI (callA C n) n v0 v1 H | a => E C n 263 [] (argsA 0 a) H (kR C 263)) = E C n 263 [] (argsA 0 a) H (kR C 263) := by
  split
  · exact pred_across.r_e n _ _ H
  · rfl
theorem pred_across.rf_e (n : Nat) (a : List V) (H : Heap) : pred_across.rf @bdI (callA C n) n a H = callA C (n + 1) 263 a H := by
  unfold pred_across.rf
  refine (congrArg (pureA a H) (funext fun a => pred_across.rf_b n a ⟨0, .nil⟩)).trans ?_
  kernel_rfl
noncomputable def pred_way.r (bd : B3) (call : FuncId → List V → Heap → Option R) (n : Nat) (v0 v1 : V) (H : Heap) : Option R :=
 (bd (boxA ty_api_Point v0) fun o1 =>
 (bd (boxA ty_api_Point v1) fun o2 =>
 (bd (faA 0 (.ptr (some ((H.push o1).n, 0)))) fun t5_3 =>
 (bd (ld1 t5_3 (((H.push o1).push o2).push (.cells [(.int .i64 0), (.int .i64 0)] ty_api_Point false))) fun t6_4 =>
 (bd (faA 0 (.ptr (some (H.n, 0)))) fun t7_5 =>
 (bd (ld1 t7_5 (((H.push o1).push o2).push (.cells [(.int .i64 0), (.int .i64 0)] ty_api_Point false))) fun t8_6 =>
 (bd (arA .sub t6_4 t8_6) fun t9_7 =>
 (bd (faA 1 (.ptr (some ((H.push o1).n, 0)))) fun t10_8 =>
 (bd (ld1 t10_8 (((H.push o1).push o2).push (.cells [(.int .i64 0), (.int .i64 0)] ty_api_Point false))) fun t11_9 =>
 (bd (faA 1 (.ptr (some (H.n, 0)))) fun t12_10 =>
 (bd (ld1 t12_10 (((H.push o1).push o2).push (.cells [(.int .i64 0), (.int .i64 0)] ty_api_Point false))) fun t13_11 =>
 (bd (arA .sub t11_9 t13_11) fun t14_12 =>
 (bd (flA [(0, 1), (1, 1)] [(.int .i64 0), (.int .i64 0)] [(0, t9_7), (1, t14_12)]) fun t15_13 =>
 (bd (stA 2 (.ptr (some (((H.push o1).push o2).n, 0))) t15_13 (((H.push o1).push o2).push (.cells [(.int .i64 0), (.int .i64 0)] ty_api_Point false))) fun H14 =>
 (bd (ldN 2 (.ptr (some (((H.push o1).push o2).n, 0))) H14) fun t15 =>
 (some (t15, H14)))))))))))))))))
theorem pred_way.r_e (n : Nat) (v0 v1 : V) (H : Heap) : pred_way.r @bdI (callA C n) n v0 v1 H = E C n 264 [] (argsA 0 [v0, v1]) H (kR C 264) := by
  unfold pred_way.r
  kernel_rfl
noncomputable def pred_way.rf (bd : B3) (call : FuncId → List V → Heap → Option R) (n : Nat) (a : List V) (H : Heap) : Option R := pureA a H fun a => (match a with | [v0, v1] => pred_way.r bd call n v0 v1 ⟨0, .nil⟩ | a => E C n 264 [] (argsA 0 a) ⟨0, .nil⟩ (kR C 264))
theorem pred_way.rf_b (n : Nat) (a : List V) (H : Heap) : (match a with | [v0, v1] => pred_way.r @bdI (callA C n) n v0 v1 H | a => E C n 264 [] (argsA 0 a) H (kR C 264)) = E C n 264 [] (argsA 0 a) H (kR C 264) := by
  split
  · exact pred_way.r_e n _ _ H
  · rfl
theorem pred_way.rf_e (n : Nat) (a : List V) (H : Heap) : pred_way.rf @bdI (callA C n) n a H = callA C (n + 1) 264 a H := by
  unfold pred_way.rf
  refine (congrArg (pureA a H) (funext fun a => pred_way.rf_b n a ⟨0, .nil⟩)).trans ?_
  kernel_rfl
noncomputable def math_bits_Mul64.r (bd : B3) (call : FuncId → List V → Heap → Option R) (n : Nat) (v0 v1 : V) (H : Heap) : Option R :=
 (bd (arA .and v0 (.int .u64 4294967295)) fun t15_1 =>
 (bd (shA .shr v0 (.int .u64 32)) fun t17_2 =>
 (bd (arA .and v1 (.int .u64 4294967295)) fun t19_3 =>
 (bd (shA .shr v1 (.int .u64 32)) fun t21_4 =>
 (bd (arA .mul t15_1 t19_3) fun t24_5 =>
 (bd (arA .mul t17_2 t19_3) fun t27_6 =>
 (bd (shA .shr t24_5 (.int .u64 32)) fun t29_7 =>
 (bd (arA .add t27_6 t29_7) fun t30_8 =>
 (bd (arA .and t30_8 (.int .u64 4294967295)) fun t32_9 =>
 (bd (shA .shr t30_8 (.int .u64 32)) fun t34_10 =>
 (bd (arA .mul t15_1 t21_4) fun t38_11 =>
 (bd (arA .add t32_9 t38_11) fun t39_12 =>
 (bd (arA .mul t17_2 t21_4) fun t42_13 =>
 (bd (arA .add t42_13 t34_10) fun t44_14 =>
 (bd (shA .shr t39_12 (.int .u64 32)) fun t46_15 =>
 (bd (arA .add t44_14 t46_15) fun t47_16 =>
 (bd (arA .mul v0 v1) fun t50_17 =>
 (some (.tuple [t47_16, t50_17], H)))))))))))))))))))
theorem math_bits_Mul64.r_e (n : Nat) (v0 v1 : V) (H : Heap) : math_bits_Mul64.r @bdI (callA C n) n v0 v1 H = E C n 266 [] (argsA 0 [v0, v1]) H (kR C 266) := by
  unfold math_bits_Mul64.r
  kernel_rfl
noncomputable def math_bits_Mul64.rf (bd : B3) (call : FuncId → List V → Heap → Option R) (n : Nat) (a : List V) (H : Heap) : Option R := (match a with | [v0, v1] => math_bits_Mul64.r bd call n v0 v1 H | a => E C n 266 [] (argsA 0 a) H (kR C 266))
theorem math_bits_Mul64.rf_b (n : Nat) (a : List V) (H : Heap) : (match a with | [v0, v1] => math_bits_Mul64.r @bdI (callA C n) n v0 v1 H | a => E C n 266 [] (argsA 0 a) H (kR C 266)) = E C n 266 [] (argsA 0 a) H (kR C 266) := by
  split
  · exact math_bits_Mul64.r_e n _ _ H
  · rfl
theorem math_bits_Mul64.rf_e (n : Nat) (a : List V) (H : Heap) : math_bits_Mul64.rf @bdI (callA C n) n a H = callA C (n + 1) 266 a H := by
  unfold math_bits_Mul64.rf
  refine (math_bits_Mul64.rf_b n a H).trans ?_
  kernel_rfl
noncomputable def whole_norm.r (bd : B3) (call : FuncId → List V → Heap → Option R) (n : Nat) (v0 v1 : V) (H : Heap) : Option R :=
 (bd (call 322 [v1] (H.push (.cells [(.bool false), (.slice ⟨none, 0, 0, false⟩)] ty_api_Int false))) fun r1 =>
 (bd (asB v0) fun b2 =>
 if b2 = true then
 (bd (lenSl r1.1) fun t10_3 =>
 (bd (arA .gtr t10_3 (.int .i64 0)) fun t11_4 =>
 (bd (flA [(0, 1), (1, 1)] [(.bool false), (.slice ⟨none, 0, 0, false⟩)] [(0, t11_4), (1, r1.1)]) fun t14_5 =>
 (bd (stA 2 (.ptr (some (H.n, 0))) t14_5 r1.2) fun H6 =>
 (bd (ldN 2 (.ptr (some (H.n, 0))) H6) fun t7 =>
 (frzR t7 H6))))))
 else
 (bd (flA [(0, 1), (1, 1)] [(.bool false), (.slice ⟨none, 0, 0, false⟩)] [(0, (.bool false)), (1, r1.1)]) fun t14_8 =>
 (bd (stA 2 (.ptr (some (H.n, 0))) t14_8 r1.2) fun H9 =>
 (bd (ldN 2 (.ptr (some (H.n, 0))) H9) fun t10 =>
 (frzR t10 H9))))))
theorem whole_norm.r_e (n : Nat) (v0 v1 : V) (H : Heap) : whole_norm.r @bdI (callA C n) n v0 v1 H = E C n 270 [] (argsA 0 [v0, v1]) H (kR C 270) := by
  unfold whole_norm.r
  kernel_rfl
noncomputable def whole_norm.rf (bd : B3) (call : FuncId → List V → Heap → Option R) (n : Nat) (a : List V) (H : Heap) : Option R := pureA a H fun a => (match a with | [v0, v1] => whole_norm.r bd call n v0 v1 ⟨0, .nil⟩ | a => E C n 270 [] (argsA 0 a) ⟨0, .nil⟩ (kR C 270))
theorem whole_norm.rf_b (n : Nat) (a : List V) (H : Heap) : (match a with | [v0, v1] => whole_norm.r @bdI (callA C n) n v0 v1 H | a => E C n 270 [] (argsA 0 a) H (kR C 270)) = E C n 270 [] (argsA 0 a) H (kR C 270) := by
  split
  · exact whole_norm.r_e n _ _ H
  · rfl
theorem whole_norm.rf_e (n : Nat) (a : List V) (H : Heap) : whole_norm.rf @bdI (callA C n) n a H = callA C (n + 1) 270 a H := by
  unfold whole_norm.rf
  refine (congrArg (pureA a H) (funext fun a => whole_norm.rf_b n a ⟨0, .nil⟩)).trans ?_
  kernel_rfl
@[irreducible] noncomputable def nat_Mul.l0 (n m0 : Nat) (v1 v5 v17 v18 v19 : V) (H : Heap) : Option R := Lp C n 271 [1, 1, 0, 1, 0, 0] m0 [(1, v1), (5, v5), (17, v17), (18, v18), (19, v19)] H (kB 0 (kC C n 271 [1, 1, 1] (kR C 271)))
@[irreducible] noncomputable def nat_Mul.l1 (n m0 m1 : Nat) (v1 v5 v6 v7 v8 v17 v18 v19 v24 v25 v26 : V) (H : Heap) : Option R := Lp C n 271 [1, 1, 0, 1, 0, 0, 1, 1, 0, 0, 1, 1, 0, 1, 0, 0] m1 [(1, v1), (5, v5), (6, v6), (7, v7), (8, v8), (17, v17), (18, v18), (19, v19), (24, v24), (25, v25), (26, v26)] H (kB 2 (kC C n 271 [1, 1, 0, 1, 0, 0, 1, 1, 0, 0, 1, 1, 1] (kB 1 (kC C n 271 [1, 1, 0, 1, 0, 0, 1, 1, 1] (kL C n 271 [1, 1, 0, 1, 0, 0] m0 (kB 0 (kC C n 271 [1, 1, 1] (kR C 271))))))))
@[irreducible] noncomputable def nat_Mul.p2 (n m0 : Nat) (v1 v5 v6 v8 v17 v18 v19 : V) (H : Heap) : Option R := E C n 271 [1, 1, 0, 1, 0, 0, 1, 1, 0, 0, 1, 1, 1] [(1, v1), (5, v5), (6, v6), (8, v8), (17, v17), (18, v18), (19, v19)] H (kB 1 (kC C n 271 [1, 1, 0, 1, 0, 0, 1, 1, 1] (kL C n 271 [1, 1, 0, 1, 0, 0] m0 (kB 0 (kC C n 271 [1, 1, 1] (kR C 271))))))
noncomputable def nat_Mul.r_p2 (bd : B3) (call : FuncId → List V → Heap → Option R) (n : Nat) (s0 : V → V → V → V → V → Heap → Option R) (v1 v5 v6 v8 v17 v18 v19 : V) (H : Heap) : Option R :=
 (bd (lenSl v1) fun t59_1 =>
 (bd (arA .add v6 t59_1) fun t60_2 =>
 (bd (cvInt .u32 v8) fun t62_3 =>
 (bd (idxS 1 v5 t60_2) fun t63_4 =>
 (bd (stA 1 t63_4 t62_3 H) fun H5 =>
 (bd (arA .add v19 (.int .i64 1)) fun t64_6 =>
 (s0 v1 v5 v17 v18 t64_6 H5)))))))
theorem nat_Mul.r_p2_e (n : Nat) (m0 : Nat) : nat_Mul.r_p2 @bdI (callA C n) n (nat_Mul.l0 n m0) = nat_Mul.p2 n m0 := by
  funext v1 v5 v6 v8 v17 v18 v19 H
  unfold nat_Mul.r_p2
  kernel_rfl
noncomputable def nat_Mul.r_l1 (bd : B3) (call : FuncId → List V → Heap → Option R) (n : Nat) (s0 : V → V → V → V → V → Heap → Option R) (s1 : V → V → V → V → V → V → V → V → V → V → V → Heap → Option R) (v1 v5 v6 v7 v8 v17 v18 v19 v24 v25 v26 : V) (H : Heap) : Option R :=
 (bd (arA .lss v26 v25) fun t27_1 =>
 (bd (asB t27_1) fun b2 =>
 if b2 = true then
 (bd (idxS 1 v24 v26) fun t29_3 =>
 (bd (ld1 t29_3 H) fun t30_4 =>
 (bd (arA .add v6 v26) fun t35_5 =>
 (bd (idxS 1 v5 t35_5) fun t36_6 =>
 (bd (ld1 t36_6 H) fun t37_7 =>
 (bd (cvInt .u64 t37_7) fun t38_8 =>
 (bd (cvInt .u64 v7) fun t40_9 =>
 (bd (cvInt .u64 t30_4) fun t42_10 =>
 (bd (arA .mul t40_9 t42_10) fun t43_11 =>
 (bd (arA .add t38_8 t43_11) fun t44_12 =>
 (bd (arA .add v8 t44_12) fun t45_13 =>
 (bd (arA .add v6 v26) fun t49_14 =>
 (bd (cvInt .u32 t45_13) fun t51_15 =>
 (bd (idxS 1 v5 t49_14) fun t52_16 =>
 (bd (stA 1 t52_16 t51_15 H) fun H17 =>
 (bd (shA .shr t45_13 (.int .u64 32)) fun t54_18 =>
 (bd (arA .add v26 (.int .i64 1)) fun t55_19 =>
 (s1 v1 v5 v6 v7 t54_18 v17 v18 v19 v24 v25 t55_19 H17))))))))))))))))))
 else
 (nat_Mul.r_p2 bd call n s0 v1 v5 v6 v8 v17 v18 v19 H)))
theorem nat_Mul.r_l1_e (n m0 m1 : Nat) : nat_Mul.r_l1 @bdI (callA C n) n (nat_Mul.l0 n m0) (nat_Mul.l1 n m0 m1) = nat_Mul.l1 n m0 (m1 + 1) := by
  funext v1 v5 v6 v7 v8 v17 v18 v19 v24 v25 v26 H
  unfold nat_Mul.r_l1
  rewrite [nat_Mul.r_p2_e]
  kernel_rfl
noncomputable def nat_Mul.r_l1_lp (bd : B3) (call : FuncId → List V → Heap → Option R) (n : Nat) (s0 : V → V → V → V → V → Heap → Option R) (m : Nat) : V → V → V → V → V → V → V → V → V → V → V → Heap → Option R := Nat.rec (motive := fun _ => V → V → V → V → V → V → V → V → V → V → V → Heap → Option R) (fun _ _ _ _ _ _ _ _ _ _ _ _ => none) (fun _ self => nat_Mul.r_l1 bd call n s0 self) m
theorem nat_Mul.r_l1_lp_e (n m0 : Nat) : nat_Mul.r_l1_lp @bdI (callA C n) n (nat_Mul.l0 n m0) = nat_Mul.l1 n m0 := by
  funext m
  induction m with
  | zero => funext v1 v5 v6 v7 v8 v17 v18 v19 v24 v25 v26 H; kernel_rfl
  | succ k ih => exact (congrArg (nat_Mul.r_l1 @bdI (callA C n) n (nat_Mul.l0 n m0)) ih).trans (nat_Mul.r_l1_e n m0 k)
noncomputable def nat_Mul.r_l0 (bd : B3) (call : FuncId → List V → Heap → Option R) (n : Nat) (s0 : V → V → V → V → V → Heap → Option R) (v1 v5 v17 v18 v19 : V) (H : Heap) : Option R :=
 (bd (arA .lss v19 v18) fun t20_1 =>
 (bd (asB t20_1) fun b2 =>
 if b2 = true then
 (bd (idxS 1 v17 v19) fun t22_3 =>
 (bd (ld1 t22_3 H) fun t23_4 =>
 (bd (lenSl v1) fun t25_5 =>
 (nat_Mul.r_l1_lp bd call n s0 n v1 v5 v19 t23_4 (.int .u64 0) v17 v18 v19 v1 t25_5 (.int .i64 0) H))))
 else
 (bd (call 323 [v5] H) fun r6 =>
 (frzR r6.1 r6.2))))
theorem nat_Mul.r_l0_e (n m0 : Nat) : nat_Mul.r_l0 @bdI (callA C n) n (nat_Mul.l0 n m0) = nat_Mul.l0 n (m0 + 1) := by
  funext v1 v5 v17 v18 v19 H
  unfold nat_Mul.r_l0
  rewrite [nat_Mul.r_l1_lp_e]
  kernel_rfl
noncomputable def nat_Mul.r_l0_lp (bd : B3) (call : FuncId → List V → Heap → Option R) (n : Nat) (m : Nat) : V → V → V → V → V → Heap → Option R := Nat.rec (motive := fun _ => V → V → V → V → V → Heap → Option R) (fun _ _ _ _ _ _ => none) (fun _ self => nat_Mul.r_l0 bd call n self) m
theorem nat_Mul.r_l0_lp_e (n : Nat) : nat_Mul.r_l0_lp @bdI (callA C n) n = nat_Mul.l0 n := by
  funext m
  induction m with
  | zero => funext v1 v5 v17 v18 v19 H; kernel_rfl
  | succ k ih => exact (congrArg (nat_Mul.r_l0 @bdI (callA C n) n) ih).trans (nat_Mul.r_l0_e n k)
noncomputable def nat_Mul.r (bd : B3) (call : FuncId → List V → Heap → Option R) (n : Nat) (v0 v1 : V) (H : Heap) : Option R :=
 (bd (lenSl v0) fun t12_1 =>
 (bd (lenSl v1) fun t14_2 =>
 (bd (arA .add t12_1 t14_2) fun t15_3 =>
 (bd (mkSl 1 4 ty_uint32 [(.int .u32 0)] t15_3 t15_3) fun o4 =>
 (bd (lenSl v0) fun t18_5 =>
 (nat_Mul.r_l0_lp bd call n n v1 (.slice ⟨some (H.n, 0), o4.2, 1, false⟩) v0 t18_5 (.int .i64 0) (H.push o4.1)))))))
theorem nat_Mul.r_e (n : Nat) (v0 v1 : V) (H : Heap) : nat_Mul.r @bdI (callA C n) n v0 v1 H = E C n 271 [] (argsA 0 [v0, v1]) H (kR C 271) := by
  unfold nat_Mul.r
  rewrite [nat_Mul.r_l0_lp_e]
  kernel_rfl
noncomputable def nat_Mul.rf (bd : B3) (call : FuncId → List V → Heap → Option R) (n : Nat) (a : List V) (H : Heap) : Option R := pureA a H fun a => (match a with | [v0, v1] => nat_Mul.r bd call n v0 v1 ⟨0, .nil⟩ | a => E C n 271 [] (argsA 0 a) ⟨0, .nil⟩ (kR C 271))
theorem nat_Mul.rf_b (n : Nat) (a : List V) (H : Heap) : (match a with | [v0, v1] => nat_Mul.r @bdI (callA C n) n v0 v1 H | a => E C n 271 [] (argsA 0 a) H (kR C 271)) = E C n 271 [] (argsA 0 a) H (kR C 271) := by
  split
  · exact nat_Mul.r_e n _ _ H
  · rfl
theorem nat_Mul.rf_e (n : Nat) (a : List V) (H : Heap) : nat_Mul.rf @bdI (callA C n) n a H = callA C (n + 1) 271 a H := by
  unfold nat_Mul.rf
  refine (congrArg (pureA a H) (funext fun a => nat_Mul.rf_b n a ⟨0, .nil⟩)).trans ?_
  kernel_rfl
noncomputable def nat_Of.r (bd : B3) (call : FuncId → List V → Heap → Option R) (n : Nat) (v0 : V) (H : Heap) : Option R :=
 (bd (cvInt .u32 v0) fun t4_1 =>
 (bd (shA .shr v0 (.int .u64 32)) fun t6_2 =>
 (bd (cvInt .u32 t6_2) fun t7_3 =>
 (bd (bSl 1 ty_uint32 [(.int .u32 0)] 2 [(0, t4_1), (1, t7_3)]) fun o4 =>
 (bd (call 323 [(.slice ⟨some (H.n, 0), 2, 1, false⟩)] (H.push o4)) fun r5 =>
 (bd (call 324 [r5.1] r5.2) fun r6 =>
 (frzR r6.1 r6.2)))))))
theorem nat_Of.r_e (n : Nat) (v0 : V) (H : Heap) : nat_Of.r @bdI (callA C n) n v0 H = E C n 272 [] (argsA 0 [v0]) H (kR C 272) := by
  unfold nat_Of.r
  kernel_rfl
noncomputable def nat_Of.rf (bd : B3) (call : FuncId → List V → Heap → Option R) (n : Nat) (a : List V) (H : Heap) : Option R := pureA a H fun a => (match a with | [v0] => nat_Of.r bd call n v0 ⟨0, .nil⟩ | a => E C n 272 [] (argsA 0 a) ⟨0, .nil⟩ (kR C 272))
theorem nat_Of.rf_b (n : Nat) (a : List V) (H : Heap) : (match a with | [v0] => nat_Of.r @bdI (callA C n) n v0 H | a => E C n 272 [] (argsA 0 a) H (kR C 272)) = E C n 272 [] (argsA 0 a) H (kR C 272) := by
  split
  · exact nat_Of.r_e n _ H
  · rfl
theorem nat_Of.rf_e (n : Nat) (a : List V) (H : Heap) : nat_Of.rf @bdI (callA C n) n a H = callA C (n + 1) 272 a H := by
  unfold nat_Of.rf
  refine (congrArg (pureA a H) (funext fun a => nat_Of.rf_b n a ⟨0, .nil⟩)).trans ?_
  kernel_rfl
noncomputable def pred_Dist2.r (bd : B3) (call : FuncId → List V → Heap → Option R) (n : Nat) (v0 v1 : V) (H : Heap) : Option R :=
 (bd (boxA ty_api_Point v0) fun o1 =>
 (bd (boxA ty_api_Point v1) fun o2 =>
 (bd (ldN 2 (.ptr (some (H.n, 0))) (((H.push o1).push o2).push (.cells [(.int .i64 0), (.int .u64 0)] ty_api_Wide false))) fun t5_3 =>
 (bd (ldN 2 (.ptr (some ((H.push o1).n, 0))) (((H.push o1).push o2).push (.cells [(.int .i64 0), (.int .u64 0)] ty_api_Wide false))) fun t6_4 =>
 (bd (bSl 2 ty_api_Point [(.int .i64 0), (.int .i64 0)] 2 [(0, t5_3), (1, t6_4)]) fun o5 =>
 (bd (call 229 [(.slice ⟨some ((((H.push o1).push o2).push (.cells [(.int .i64 0), (.int .u64 0)] ty_api_Wide false)).n, 0), 2, 2, false⟩)] ((((H.push o1).push o2).push (.cells [(.int .i64 0), (.int .u64 0)] ty_api_Wide false)).push o5)) fun r6 =>
 (bd (unA .not r6.1) fun t9_7 =>
 (bd (asB t9_7) fun b8 =>
 if b8 = true then
 (bd (flA [(0, 1), (1, 1)] [(.int .i64 0), (.int .u64 0)] []) fun t10_9 =>
 (bd (stA 2 (.ptr (some (((H.push o1).push o2).n, 0))) t10_9 r6.2) fun H10 =>
 (bd (ldN 2 (.ptr (some (((H.push o1).push o2).n, 0))) H10) fun t11 =>
 (some (t11, H10)))))
 else
 (bd (ldN 2 (.ptr (some (H.n, 0))) r6.2) fun t11_12 =>
 (bd (ldN 2 (.ptr (some ((H.push o1).n, 0))) r6.2) fun t12_13 =>
 (bd (call 264 [t11_12, t12_13] r6.2) fun r14 =>
 (bd (call 325 [r14.1] r14.2) fun r15 =>
 (bd (stA 2 (.ptr (some (((H.push o1).push o2).n, 0))) r15.1 r15.2) fun H16 =>
 (bd (ldN 2 (.ptr (some (((H.push o1).push o2).n, 0))) H16) fun t17 =>
 (some (t17, H16))))))))))))))))
theorem pred_Dist2.r_e (n : Nat) (v0 v1 : V) (H : Heap) : pred_Dist2.r @bdI (callA C n) n v0 v1 H = E C n 273 [] (argsA 0 [v0, v1]) H (kR C 273) := by
  unfold pred_Dist2.r
  kernel_rfl
noncomputable def pred_Dist2.rf (bd : B3) (call : FuncId → List V → Heap → Option R) (n : Nat) (a : List V) (H : Heap) : Option R := pureA a H fun a => (match a with | [v0, v1] => pred_Dist2.r bd call n v0 v1 ⟨0, .nil⟩ | a => E C n 273 [] (argsA 0 a) ⟨0, .nil⟩ (kR C 273))
theorem pred_Dist2.rf_b (n : Nat) (a : List V) (H : Heap) : (match a with | [v0, v1] => pred_Dist2.r @bdI (callA C n) n v0 v1 H | a => E C n 273 [] (argsA 0 a) H (kR C 273)) = E C n 273 [] (argsA 0 a) H (kR C 273) := by
  split
  · exact pred_Dist2.r_e n _ _ H
  · rfl
theorem pred_Dist2.rf_e (n : Nat) (a : List V) (H : Heap) : pred_Dist2.rf @bdI (callA C n) n a H = callA C (n + 1) 273 a H := by
  unfold pred_Dist2.rf
  refine (congrArg (pureA a H) (funext fun a => pred_Dist2.rf_b n a ⟨0, .nil⟩)).trans ?_
  kernel_rfl
noncomputable def whole_sign.r (bd : B3) (call : FuncId → List V → Heap → Option R) (n : Nat) (v0 : V) (H : Heap) : Option R :=
 (bd (boxA ty_api_Int v0) fun o1 =>
 (bd (faA 1 (.ptr (some (H.n, 0)))) fun t4_2 =>
 (bd (ld1 t4_2 (H.push o1)) fun t5_3 =>
 (bd (call 326 [t5_3] (H.push o1)) fun r4 =>
 (bd (arA .eql r4.1 (.int .i64 0)) fun t7_5 =>
 (bd (asB t7_5) fun b6 =>
 if b6 = true then
 (some ((.int .i64 0), r4.2))
 else
 (bd (faA 0 (.ptr (some (H.n, 0)))) fun t9_7 =>
 (bd (ld1 t9_7 r4.2) fun t10_8 =>
 (bd (asB t10_8) fun b9 =>
 if b9 = true then
 (some ((.int .i64 (-1)), r4.2))
 else
 (some ((.int .i64 1), r4.2)))))))))))
theorem whole_sign.r_e (n : Nat) (v0 : V) (H : Heap) : whole_sign.r @bdI (callA C n) n v0 H = E C n 274 [] (argsA 0 [v0]) H (kR C 274) := by
  unfold whole_sign.r
  kernel_rfl
noncomputable def whole_sign.rf (bd : B3) (call : FuncId → List V → Heap → Option R) (n : Nat) (a : List V) (H : Heap) : Option R := pureA a H fun a => (match a with | [v0] => whole_sign.r bd call n v0 ⟨0, .nil⟩ | a => E C n 274 [] (argsA 0 a) ⟨0, .nil⟩ (kR C 274))
theorem whole_sign.rf_b (n : Nat) (a : List V) (H : Heap) : (match a with | [v0] => whole_sign.r @bdI (callA C n) n v0 H | a => E C n 274 [] (argsA 0 a) H (kR C 274)) = E C n 274 [] (argsA 0 a) H (kR C 274) := by
  split
  · exact whole_sign.r_e n _ H
  · rfl
theorem whole_sign.rf_e (n : Nat) (a : List V) (H : Heap) : whole_sign.rf @bdI (callA C n) n a H = callA C (n + 1) 274 a H := by
  unfold whole_sign.rf
  refine (congrArg (pureA a H) (funext fun a => whole_sign.rf_b n a ⟨0, .nil⟩)).trans ?_
  kernel_rfl
noncomputable def nat_Cmp.r (bd : B3) (call : FuncId → List V → Heap → Option R) (n : Nat) (v0 v1 : V) (H : Heap) : Option R :=
 (bd (call 327 [v0, v1] H) fun r1 =>
 (some (r1.1, r1.2)))
theorem nat_Cmp.r_e (n : Nat) (v0 v1 : V) (H : Heap) : nat_Cmp.r @bdI (callA C n) n v0 v1 H = E C n 275 [] (argsA 0 [v0, v1]) H (kR C 275) := by
  unfold nat_Cmp.r
  kernel_rfl
noncomputable def nat_Cmp.rf (bd : B3) (call : FuncId → List V → Heap → Option R) (n : Nat) (a : List V) (H : Heap) : Option R := pureA a H fun a => (match a with | [v0, v1] => nat_Cmp.r bd call n v0 v1 ⟨0, .nil⟩ | a => E C n 275 [] (argsA 0 a) ⟨0, .nil⟩ (kR C 275))
theorem nat_Cmp.rf_b (n : Nat) (a : List V) (H : Heap) : (match a with | [v0, v1] => nat_Cmp.r @bdI (callA C n) n v0 v1 H | a => E C n 275 [] (argsA 0 a) H (kR C 275)) = E C n 275 [] (argsA 0 a) H (kR C 275) := by
  split
  · exact nat_Cmp.r_e n _ _ H
  · rfl
theorem nat_Cmp.rf_e (n : Nat) (a : List V) (H : Heap) : nat_Cmp.rf @bdI (callA C n) n a H = callA C (n + 1) 275 a H := by
  unfold nat_Cmp.rf
  refine (congrArg (pureA a H) (funext fun a => nat_Cmp.rf_b n a ⟨0, .nil⟩)).trans ?_
  kernel_rfl
@[irreducible] noncomputable def whole_OfQuad.p0 (n : Nat) (v1 v2 v3 : V) (H : Heap) : Option R := E C n 276 [1, 1, 1] [(1, v1), (2, v2), (3, v3)] H (kR C 276)
@[irreducible] noncomputable def whole_OfQuad.l1 (n m0 : Nat) (v2 v3 v4 v13 v14 : V) (H : Heap) : Option R := Lp C n 276 [1, 1, 1, 1, 0, 1, 0, 0] m0 [(2, v2), (3, v3), (4, v4), (13, v13), (14, v14)] H (kB 0 (kC C n 276 [1, 1, 1, 1, 1] (kR C 276)))
@[irreducible] noncomputable def whole_OfQuad.p2 (n : Nat) (v2 v3 v4 : V) (H : Heap) : Option R := E C n 276 [1, 1, 1, 1, 1] [(2, v2), (3, v3), (4, v4)] H (kR C 276)
noncomputable def whole_OfQuad.r_p2 (bd : B3) (call : FuncId → List V → Heap → Option R) (n : Nat) (v2 v3 v4 : V) (H : Heap) : Option R :=
 (bd (call 270 [v3, v4] H) fun r1 =>
 (bd (stA 2 v2 r1.1 r1.2) fun H2 =>
 (bd (ldN 2 v2 H2) fun t3 =>
 (frzR t3 H2))))
theorem whole_OfQuad.r_p2_e (n : Nat) : whole_OfQuad.r_p2 @bdI (callA C n) n = whole_OfQuad.p2 n := by
  funext v2 v3 v4 H
  unfold whole_OfQuad.r_p2
  kernel_rfl
noncomputable def whole_OfQuad.r_l1 (bd : B3) (call : FuncId → List V → Heap → Option R) (n : Nat) (s0 : V → V → V → V → V → Heap → Option R) (v2 v3 v4 v13 v14 : V) (H : Heap) : Option R :=
 (bd (arA .lss v14 (.int .i64 4)) fun t15_1 =>
 (bd (asB t15_1) fun b2 =>
 if b2 = true then
 (bd (ix1 4 v13 v14) fun t16_3 =>
 (bd (cvInt .u32 t16_3) fun t19_4 =>
 (bd (shA .shr t16_3 (.int .u64 32)) fun t21_5 =>
 (bd (cvInt .u32 t21_5) fun t22_6 =>
 (bd (bSl 1 ty_uint32 [(.int .u32 0)] 2 [(0, t19_4), (1, t22_6)]) fun o7 =>
 (bd (appA 1 4 ty_uint32 v4 (.slice ⟨some (H.n, 0), 2, 1, false⟩) (H.push o7)) fun p8 =>
 (bd (arA .add v14 (.int .i64 1)) fun t25_9 =>
 (s0 v2 v3 p8.1 v13 t25_9 p8.2))))))))
 else
 (whole_OfQuad.r_p2 bd call n v2 v3 v4 H)))
theorem whole_OfQuad.r_l1_e (n m0 : Nat) : whole_OfQuad.r_l1 @bdI (callA C n) n (whole_OfQuad.l1 n m0) = whole_OfQuad.l1 n (m0 + 1) := by
  funext v2 v3 v4 v13 v14 H
  unfold whole_OfQuad.r_l1
  rewrite [whole_OfQuad.r_p2_e]
  kernel_rfl
noncomputable def whole_OfQuad.r_l1_lp (bd : B3) (call : FuncId → List V → Heap → Option R) (n : Nat) (m : Nat) : V → V → V → V → V → Heap → Option R := Nat.rec (motive := fun _ => V → V → V → V → V → Heap → Option R) (fun _ _ _ _ _ _ => none) (fun _ self => whole_OfQuad.r_l1 bd call n self) m
theorem whole_OfQuad.r_l1_lp_e (n : Nat) : whole_OfQuad.r_l1_lp @bdI (callA C n) n = whole_OfQuad.l1 n := by
  funext m
  induction m with
  | zero => funext v2 v3 v4 v13 v14 H; kernel_rfl
  | succ k ih => exact (congrArg (whole_OfQuad.r_l1 @bdI (callA C n) n) ih).trans (whole_OfQuad.r_l1_e n k)
noncomputable def whole_OfQuad.r_p0 (bd : B3) (call : FuncId → List V → Heap → Option R) (n : Nat) (v1 v2 v3 : V) (H : Heap) : Option R :=
 (bd (ldN 4 v1 H) fun t13_1 =>
 (whole_OfQuad.r_l1_lp bd call n n v2 v3 (.slice ⟨none, 0, 0, false⟩) t13_1 (.int .i64 0) H))
theorem whole_OfQuad.r_p0_e (n : Nat) : whole_OfQuad.r_p0 @bdI (callA C n) n = whole_OfQuad.p0 n := by
  funext v1 v2 v3 H
  unfold whole_OfQuad.r_p0
  rewrite [whole_OfQuad.r_l1_lp_e]
  kernel_rfl
noncomputable def whole_OfQuad.r (bd : B3) (call : FuncId → List V → Heap → Option R) (n : Nat) (v0 : V) (H : Heap) : Option R :=
 (bd (boxA ty_api_Quad v0) fun o1 =>
 (bd (ldN 4 (.ptr (some (H.n, 0))) ((H.push o1).push (.cells [(.bool false), (.slice ⟨none, 0, 0, false⟩)] ty_api_Int false))) fun t7_2 =>
 (bd (call 328 [t7_2] ((H.push o1).push (.cells [(.bool false), (.slice ⟨none, 0, 0, false⟩)] ty_api_Int false))) fun r3 =>
 (bd (arA .lss r3.1 (.int .i64 0)) fun t9_4 =>
 (bd (asB t9_4) fun b5 =>
 if b5 = true then
 (bd (ldN 4 (.ptr (some (H.n, 0))) r3.2) fun t11_6 =>
 (bd (call 329 [t11_6] r3.2) fun r7 =>
 (bd (stA 4 (.ptr (some (H.n, 0))) r7.1 r7.2) fun H8 =>
 (whole_OfQuad.r_p0 bd call n (.ptr (some (H.n, 0))) (.ptr (some ((H.push o1).n, 0))) t9_4 H8))))
 else
 (whole_OfQuad.r_p0 bd call n (.ptr (some (H.n, 0))) (.ptr (some ((H.push o1).n, 0))) t9_4 r3.2))))))
theorem whole_OfQuad.r_e (n : Nat) (v0 : V) (H : Heap) : whole_OfQuad.r @bdI (callA C n) n v0 H = E C n 276 [] (argsA 0 [v0]) H (kR C 276) := by
  unfold whole_OfQuad.r
  rewrite [whole_OfQuad.r_p0_e]
  kernel_rfl
noncomputable def whole_OfQuad.rf (bd : B3) (call : FuncId → List V → Heap → Option R) (n : Nat) (a : List V) (H : Heap) : Option R := pureA a H fun a => (match a with | [v0] => whole_OfQuad.r bd call n v0 ⟨0, .nil⟩ | a => E C n 276 [] (argsA 0 a) ⟨0, .nil⟩ (kR C 276))
theorem whole_OfQuad.rf_b (n : Nat) (a : List V) (H : Heap) : (match a with | [v0] => whole_OfQuad.r @bdI (callA C n) n v0 H | a => E C n 276 [] (argsA 0 a) H (kR C 276)) = E C n 276 [] (argsA 0 a) H (kR C 276) := by
  split
  · exact whole_OfQuad.r_e n _ H
  · rfl
theorem whole_OfQuad.rf_e (n : Nat) (a : List V) (H : Heap) : whole_OfQuad.rf @bdI (callA C n) n a H = callA C (n + 1) 276 a H := by
  unfold whole_OfQuad.rf
  refine (congrArg (pureA a H) (funext fun a => whole_OfQuad.rf_b n a ⟨0, .nil⟩)).trans ?_
  kernel_rfl
noncomputable def quad_Of.r (bd : B3) (call : FuncId → List V → Heap → Option R) (n : Nat) (v0 : V) (H : Heap) : Option R :=
 (bd (boxA ty_api_Wide v0) fun o1 =>
 (bd (ldN 2 (.ptr (some (H.n, 0))) ((H.push o1).push (.cells [(.int .u64 0), (.int .u64 0), (.int .u64 0), (.int .u64 0)] ty_api_Quad false))) fun t3_2 =>
 (bd (call 330 [t3_2] ((H.push o1).push (.cells [(.int .u64 0), (.int .u64 0), (.int .u64 0), (.int .u64 0)] ty_api_Quad false))) fun r3 =>
 (bd (stA 4 (.ptr (some ((H.push o1).n, 0))) r3.1 r3.2) fun H4 =>
 (bd (ldN 4 (.ptr (some ((H.push o1).n, 0))) H4) fun t5 =>
 (some (t5, H4)))))))
theorem quad_Of.r_e (n : Nat) (v0 : V) (H : Heap) : quad_Of.r @bdI (callA C n) n v0 H = E C n 277 [] (argsA 0 [v0]) H (kR C 277) := by
  unfold quad_Of.r
  kernel_rfl
noncomputable def quad_Of.rf (bd : B3) (call : FuncId → List V → Heap → Option R) (n : Nat) (a : List V) (H : Heap) : Option R := pureA a H fun a => (match a with | [v0] => quad_Of.r bd call n v0 ⟨0, .nil⟩ | a => E C n 277 [] (argsA 0 a) ⟨0, .nil⟩ (kR C 277))
theorem quad_Of.rf_b (n : Nat) (a : List V) (H : Heap) : (match a with | [v0] => quad_Of.r @bdI (callA C n) n v0 H | a => E C n 277 [] (argsA 0 a) H (kR C 277)) = E C n 277 [] (argsA 0 a) H (kR C 277) := by
  split
  · exact quad_Of.r_e n _ H
  · rfl
theorem quad_Of.rf_e (n : Nat) (a : List V) (H : Heap) : quad_Of.rf @bdI (callA C n) n a H = callA C (n + 1) 277 a H := by
  unfold quad_Of.rf
  refine (congrArg (pureA a H) (funext fun a => quad_Of.rf_b n a ⟨0, .nil⟩)).trans ?_
  kernel_rfl
end Go.AM.S
end
section
set_option linter.unusedVariables false
set_option linter.unusedSimpArgs false
set_option maxRecDepth 1000000
set_option linter.unusedVariables false
namespace Go.AM.S
@[irreducible] noncomputable def quad_Mul.l0 (n m0 : Nat) (v4 v5 v6 v7 v8 v9 v27 : V) (H : Heap) : Option R := Lp C n 278 [1, 1, 1, 1, 0, 1, 0, 0] m0 [(4, v4), (5, v5), (6, v6), (7, v7), (8, v8), (9, v9), (27, v27)] H (kB 0 (kC C n 278 [1, 1, 1, 1, 1] (kR C 278)))
@[irreducible] noncomputable def quad_Mul.l1 (n m0 m1 : Nat) (v4 v5 v6 v7 v8 v9 v10 v11 v27 v30 : V) (H : Heap) : Option R := Lp C n 278 [1, 1, 1, 1, 0, 1, 0, 0, 1, 1, 0, 0, 1, 1, 0, 1, 0, 0] m1 [(4, v4), (5, v5), (6, v6), (7, v7), (8, v8), (9, v9), (10, v10), (11, v11), (27, v27), (30, v30)] H (kB 2 (kC C n 278 [1, 1, 1, 1, 0, 1, 0, 0, 1, 1, 0, 0, 1, 1, 1] (kB 1 (kC C n 278 [1, 1, 1, 1, 0, 1, 0, 0, 1, 1, 1] (kL C n 278 [1, 1, 1, 1, 0, 1, 0, 0] m0 (kB 0 (kC C n 278 [1, 1, 1, 1, 1] (kR C 278))))))))
@[irreducible] noncomputable def quad_Mul.p2 (n : Nat) (v4 v6 v8 v9 : V) (H : Heap) : Option R := E C n 278 [1, 1, 1, 1, 1] [(4, v4), (6, v6), (8, v8), (9, v9)] H (kR C 278)
@[irreducible] noncomputable def quad_Mul.p3 (n m0 : Nat) (v4 v5 v6 v7 v8 v9 v10 v11 v27 : V) (H : Heap) : Option R := E C n 278 [1, 1, 1, 1, 0, 1, 0, 0, 1, 1, 0, 0, 1, 1, 1] [(4, v4), (5, v5), (6, v6), (7, v7), (8, v8), (9, v9), (10, v10), (11, v11), (27, v27)] H (kB 1 (kC C n 278 [1, 1, 1, 1, 0, 1, 0, 0, 1, 1, 1] (kL C n 278 [1, 1, 1, 1, 0, 1, 0, 0] m0 (kB 0 (kC C n 278 [1, 1, 1, 1, 1] (kR C 278))))))
noncomputable def quad_Mul.r_p3 (bd : B3) (call : FuncId → List V → Heap → Option R) (n : Nat) (s0 : V → V → V → V → V → V → V → Heap → Option R) (v4 v5 v6 v7 v8 v9 v10 v11 v27 : V) (H : Heap) : Option R :=
 (bd (arA .add v10 (.int .i64 2)) fun t78_1 =>
 (bd (idxP 4 1 v9 t78_1) fun t79_2 =>
 (bd (ld1 t79_2 H) fun t80_3 =>
 (bd (arA .add t80_3 v11) fun t82_4 =>
 (bd (idxP 4 1 v9 t78_1) fun t83_5 =>
 (bd (stA 1 t83_5 t82_4 H) fun H6 =>
 (bd (arA .add v27 (.int .i64 1)) fun t84_7 =>
 (s0 v4 v5 v6 v7 v8 v9 t84_7 H6))))))))
theorem quad_Mul.r_p3_e (n : Nat) (m0 : Nat) : quad_Mul.r_p3 @bdI (callA C n) n (quad_Mul.l0 n m0) = quad_Mul.p3 n m0 := by
  funext v4 v5 v6 v7 v8 v9 v10 v11 v27 H
  unfold quad_Mul.r_p3
  kernel_rfl
noncomputable def quad_Mul.r_l1 (bd : B3) (call : FuncId → List V → Heap → Option R) (n : Nat) (s0 : V → V → V → V → V → V → V → Heap → Option R) (s1 : V → V → V → V → V → V → V → V → V → V → Heap → Option R) (v4 v5 v6 v7 v8 v9 v10 v11 v27 v30 : V) (H : Heap) : Option R :=
 (bd (arA .lss v30 (.int .i64 2)) fun t31_1 =>
 (bd (asB t31_1) fun b2 =>
 if b2 = true then
 (bd (idxP 2 1 v5 v10) fun t35_3 =>
 (bd (ld1 t35_3 (H.more 0)) fun t36_4 =>
 (bd (idxP 2 1 v7 v30) fun t38_5 =>
 (bd (ld1 t38_5 (H.more 0)) fun t39_6 =>
 (bd (call 266 [t36_4, t39_6] (H.more 0)) fun r7 =>
 (bd (extA r7.1 0) fun t41_8 =>
 (bd (extA r7.1 1) fun t42_9 =>
 (bd (arA .add v10 v30) fun t46_10 =>
 (bd (arA .add v10 v30) fun t49_11 =>
 (bd (idxP 4 1 v9 t49_11) fun t50_12 =>
 (bd (ld1 t50_12 r7.2) fun t51_13 =>
 (bd (call 318 [t51_13, t42_9, (.int .u64 0)] r7.2) fun r14 =>
 (bd (extA r14.1 0) fun t54_15 =>
 (bd (extA r14.1 1) fun t55_16 =>
 (bd (idxP 4 1 v9 t46_10) fun t56_17 =>
 (bd (stA 1 t56_17 t54_15 r14.2) fun H18 =>
 (bd (arA .add v10 v30) fun t60_19 =>
 (bd (arA .add v10 v30) fun t63_20 =>
 (bd (idxP 4 1 v9 t63_20) fun t64_21 =>
 (bd (ld1 t64_21 H18) fun t65_22 =>
 (bd (call 318 [t65_22, v11, (.int .u64 0)] H18) fun r23 =>
 (bd (extA r23.1 0) fun t68_24 =>
 (bd (extA r23.1 1) fun t69_25 =>
 (bd (idxP 4 1 v9 t60_19) fun t70_26 =>
 (bd (stA 1 t70_26 t68_24 r23.2) fun H27 =>
 (bd (arA .add t41_8 t55_16) fun t73_28 =>
 (bd (arA .add t73_28 t69_25) fun t75_29 =>
 (bd (arA .add v30 (.int .i64 1)) fun t76_30 =>
 (s1 v4 v5 v6 v7 v8 v9 v10 t75_29 v27 t76_30 H27)))))))))))))))))))))))))))))
 else
 (quad_Mul.r_p3 bd call n s0 v4 v5 v6 v7 v8 v9 v10 v11 v27 H)))
theorem quad_Mul.r_l1_e (n m0 m1 : Nat) : quad_Mul.r_l1 @bdI (callA C n) n (quad_Mul.l0 n m0) (quad_Mul.l1 n m0 m1) = quad_Mul.l1 n m0 (m1 + 1) := by
  funext v4 v5 v6 v7 v8 v9 v10 v11 v27 v30 H
  unfold quad_Mul.r_l1
  rewrite [quad_Mul.r_p3_e]
  kernel_rfl
noncomputable def quad_Mul.r_l1_lp (bd : B3) (call : FuncId → List V → Heap → Option R) (n : Nat) (s0 : V → V → V → V → V → V → V → Heap → Option R) (m : Nat) : V → V → V → V → V → V → V → V → V → V → Heap → Option R := Nat.rec (motive := fun _ => V → V → V → V → V → V → V → V → V → V → Heap → Option R) (fun _ _ _ _ _ _ _ _ _ _ _ => none) (fun _ self => quad_Mul.r_l1 bd call n s0 self) m
theorem quad_Mul.r_l1_lp_e (n m0 : Nat) : quad_Mul.r_l1_lp @bdI (callA C n) n (quad_Mul.l0 n m0) = quad_Mul.l1 n m0 := by
  funext m
  induction m with
  | zero => funext v4 v5 v6 v7 v8 v9 v10 v11 v27 v30 H; kernel_rfl
  | succ k ih => exact (congrArg (quad_Mul.r_l1 @bdI (callA C n) n (quad_Mul.l0 n m0)) ih).trans (quad_Mul.r_l1_e n m0 k)
noncomputable def quad_Mul.r_p2 (bd : B3) (call : FuncId → List V → Heap → Option R) (n : Nat) (v4 v6 v8 v9 : V) (H : Heap) : Option R :=
 (bd (neqA P ty_bool v6 v8) fun t87_1 =>
 (bd (asB t87_1) fun b2 =>
 if b2 = true then
 (bd (flE 1 [(.int .u64 0), (.int .u64 0), (.int .u64 0), (.int .u64 0)] []) fun t88_3 =>
 (bd (ldN 4 v9 H) fun t89_4 =>
 (bd (call 332 [t88_3, t89_4] H) fun r5 =>
 (bd (stA 4 v4 r5.1 r5.2) fun H6 =>
 (bd (ldN 4 v4 H6) fun t7 =>
 (some (t7, H6)))))))
 else
 (bd (ldN 4 v9 H) fun t91_8 =>
 (bd (stA 4 v4 t91_8 H) fun H9 =>
 (bd (ldN 4 v4 H9) fun t10 =>
 (some (t10, H9)))))))
theorem quad_Mul.r_p2_e (n : Nat) : quad_Mul.r_p2 @bdI (callA C n) n = quad_Mul.p2 n := by
  funext v4 v6 v8 v9 H
  unfold quad_Mul.r_p2
  kernel_rfl
noncomputable def quad_Mul.r_l0 (bd : B3) (call : FuncId → List V → Heap → Option R) (n : Nat) (s0 : V → V → V → V → V → V → V → Heap → Option R) (v4 v5 v6 v7 v8 v9 v27 : V) (H : Heap) : Option R :=
 (bd (arA .lss v27 (.int .i64 2)) fun t28_1 =>
 (bd (asB t28_1) fun b2 =>
 if b2 = true then
 (quad_Mul.r_l1_lp bd call n s0 n v4 v5 v6 v7 v8 v9 v27 (.int .u64 0) v27 (.int .i64 0) H)
 else
 (quad_Mul.r_p2 bd call n v4 v6 v8 v9 H)))
theorem quad_Mul.r_l0_e (n m0 : Nat) : quad_Mul.r_l0 @bdI (callA C n) n (quad_Mul.l0 n m0) = quad_Mul.l0 n (m0 + 1) := by
  funext v4 v5 v6 v7 v8 v9 v27 H
  unfold quad_Mul.r_l0
  rewrite [quad_Mul.r_l1_lp_e]
  rewrite [quad_Mul.r_p2_e]
  kernel_rfl
noncomputable def quad_Mul.r_l0_lp (bd : B3) (call : FuncId → List V → Heap → Option R) (n : Nat) (m : Nat) : V → V → V → V → V → V → V → Heap → Option R := Nat.rec (motive := fun _ => V → V → V → V → V → V → V → Heap → Option R) (fun _ _ _ _ _ _ _ _ => none) (fun _ self => quad_Mul.r_l0 bd call n self) m
theorem quad_Mul.r_l0_lp_e (n : Nat) : quad_Mul.r_l0_lp @bdI (callA C n) n = quad_Mul.l0 n := by
  funext m
  induction m with
  | zero => funext v4 v5 v6 v7 v8 v9 v27 H; kernel_rfl
  | succ k ih => exact (congrArg (quad_Mul.r_l0 @bdI (callA C n) n) ih).trans (quad_Mul.r_l0_e n k)
noncomputable def quad_Mul.r (bd : B3) (call : FuncId → List V → Heap → Option R) (n : Nat) (v0 v1 : V) (H : Heap) : Option R :=
 (bd (boxA ty_api_Wide v0) fun o1 =>
 (bd (boxA ty_api_Wide v1) fun o2 =>
 (bd (ldN 2 (.ptr (some (H.n, 0))) (((H.push o1).push o2).push (.cells [(.int .u64 0), (.int .u64 0), (.int .u64 0), (.int .u64 0)] ty_api_Quad false))) fun t18_3 =>
 (bd (call 331 [t18_3] (((H.push o1).push o2).push (.cells [(.int .u64 0), (.int .u64 0), (.int .u64 0), (.int .u64 0)] ty_api_Quad false))) fun r4 =>
 (bd (extA r4.1 0) fun t20_5 =>
 (bd (extA r4.1 1) fun t21_6 =>
 (bd (stA 2 (.ptr (some (r4.2.n, 0))) t20_5 (r4.2.push (.cells [(.int .u64 0), (.int .u64 0)] ty_2_uint64 false))) fun H7 =>
 (bd (ldN 2 (.ptr (some ((H.push o1).n, 0))) H7) fun t23_8 =>
 (bd (call 331 [t23_8] H7) fun r9 =>
 (bd (extA r9.1 0) fun t25_10 =>
 (bd (extA r9.1 1) fun t26_11 =>
 (bd (stA 2 (.ptr (some (r9.2.n, 0))) t25_10 (r9.2.push (.cells [(.int .u64 0), (.int .u64 0)] ty_2_uint64 false))) fun H12 =>
 (quad_Mul.r_l0_lp bd call n n (.ptr (some (((H.push o1).push o2).n, 0))) (.ptr (some (r4.2.n, 0))) t21_6 (.ptr (some (r9.2.n, 0))) t26_11 (.ptr (some (H12.n, 0))) (.int .i64 0) (H12.push (.cells [(.int .u64 0), (.int .u64 0), (.int .u64 0), (.int .u64 0)] ty_api_Quad false)))))))))))))))
theorem quad_Mul.r_e (n : Nat) (v0 v1 : V) (H : Heap) : quad_Mul.r @bdI (callA C n) n v0 v1 H = E C n 278 [] (argsA 0 [v0, v1]) H (kR C 278) := by
  unfold quad_Mul.r
  rewrite [quad_Mul.r_l0_lp_e]
  kernel_rfl
noncomputable def quad_Mul.rf (bd : B3) (call : FuncId → List V → Heap → Option R) (n : Nat) (a : List V) (H : Heap) : Option R := pureA a H fun a => (match a with | [v0, v1] => quad_Mul.r bd call n v0 v1 ⟨0, .nil⟩ | a => E C n 278 [] (argsA 0 a) ⟨0, .nil⟩ (kR C 278))
theorem quad_Mul.rf_b (n : Nat) (a : List V) (H : Heap) : (match a with | [v0, v1] => quad_Mul.r @bdI (callA C n) n v0 v1 H | a => E C n 278 [] (argsA 0 a) H (kR C 278)) = E C n 278 [] (argsA 0 a) H (kR C 278) := by
  split
  · exact quad_Mul.r_e n _ _ H
  · rfl
theorem quad_Mul.rf_e (n : Nat) (a : List V) (H : Heap) : quad_Mul.rf @bdI (callA C n) n a H = callA C (n + 1) 278 a H := by
  unfold quad_Mul.rf
  refine (congrArg (pureA a H) (funext fun a => quad_Mul.rf_b n a ⟨0, .nil⟩)).trans ?_
  kernel_rfl
noncomputable def wide_Sign.r (bd : B3) (call : FuncId → List V → Heap → Option R) (n : Nat) (v0 : V) (H : Heap) : Option R :=
 (bd (boxA ty_api_Wide v0) fun o1 =>
 (bd (ldN 2 (.ptr (some (H.n, 0))) (H.push o1)) fun t3_2 =>
 (bd (call 333 [t3_2] (H.push o1)) fun r3 =>
 (some (r3.1, r3.2)))))
theorem wide_Sign.r_e (n : Nat) (v0 : V) (H : Heap) : wide_Sign.r @bdI (callA C n) n v0 H = E C n 279 [] (argsA 0 [v0]) H (kR C 279) := by
  unfold wide_Sign.r
  kernel_rfl
noncomputable def wide_Sign.rf (bd : B3) (call : FuncId → List V → Heap → Option R) (n : Nat) (a : List V) (H : Heap) : Option R := pureA a H fun a => (match a with | [v0] => wide_Sign.r bd call n v0 ⟨0, .nil⟩ | a => E C n 279 [] (argsA 0 a) ⟨0, .nil⟩ (kR C 279))
theorem wide_Sign.rf_b (n : Nat) (a : List V) (H : Heap) : (match a with | [v0] => wide_Sign.r @bdI (callA C n) n v0 H | a => E C n 279 [] (argsA 0 a) H (kR C 279)) = E C n 279 [] (argsA 0 a) H (kR C 279) := by
  split
  · exact wide_Sign.r_e n _ H
  · rfl
theorem wide_Sign.rf_e (n : Nat) (a : List V) (H : Heap) : wide_Sign.rf @bdI (callA C n) n a H = callA C (n + 1) 279 a H := by
  unfold wide_Sign.rf
  refine (congrArg (pureA a H) (funext fun a => wide_Sign.rf_b n a ⟨0, .nil⟩)).trans ?_
  kernel_rfl
noncomputable def wide_Sub.r (bd : B3) (call : FuncId → List V → Heap → Option R) (n : Nat) (v0 v1 : V) (H : Heap) : Option R :=
 (bd (boxA ty_api_Wide v0) fun o1 =>
 (bd (boxA ty_api_Wide v1) fun o2 =>
 (bd (ldN 2 (.ptr (some (H.n, 0))) (((H.push o1).push o2).push (.cells [(.int .i64 0), (.int .u64 0)] ty_api_Wide false))) fun t5_3 =>
 (bd (ldN 2 (.ptr (some ((H.push o1).n, 0))) (((H.push o1).push o2).push (.cells [(.int .i64 0), (.int .u64 0)] ty_api_Wide false))) fun t6_4 =>
 (bd (call 363 [t5_3, t6_4] (((H.push o1).push o2).push (.cells [(.int .i64 0), (.int .u64 0)] ty_api_Wide false))) fun r5 =>
 (bd (stA 2 (.ptr (some (((H.push o1).push o2).n, 0))) r5.1 r5.2) fun H6 =>
 (bd (ldN 2 (.ptr (some (((H.push o1).push o2).n, 0))) H6) fun t7 =>
 (some (t7, H6)))))))))
theorem wide_Sub.r_e (n : Nat) (v0 v1 : V) (H : Heap) : wide_Sub.r @bdI (callA C n) n v0 v1 H = E C n 319 [] (argsA 0 [v0, v1]) H (kR C 319) := by
  unfold wide_Sub.r
  kernel_rfl
noncomputable def wide_Sub.rf (bd : B3) (call : FuncId → List V → Heap → Option R) (n : Nat) (a : List V) (H : Heap) : Option R := pureA a H fun a => (match a with | [v0, v1] => wide_Sub.r bd call n v0 v1 ⟨0, .nil⟩ | a => E C n 319 [] (argsA 0 a) ⟨0, .nil⟩ (kR C 319))
theorem wide_Sub.rf_b (n : Nat) (a : List V) (H : Heap) : (match a with | [v0, v1] => wide_Sub.r @bdI (callA C n) n v0 v1 H | a => E C n 319 [] (argsA 0 a) H (kR C 319)) = E C n 319 [] (argsA 0 a) H (kR C 319) := by
  split
  · exact wide_Sub.r_e n _ _ H
  · rfl
theorem wide_Sub.rf_e (n : Nat) (a : List V) (H : Heap) : wide_Sub.rf @bdI (callA C n) n a H = callA C (n + 1) 319 a H := by
  unfold wide_Sub.rf
  refine (congrArg (pureA a H) (funext fun a => wide_Sub.rf_b n a ⟨0, .nil⟩)).trans ?_
  kernel_rfl
noncomputable def nat_Trim.r (bd : B3) (call : FuncId → List V → Heap → Option R) (n : Nat) (v0 : V) (H : Heap) : Option R :=
 (bd (call 323 [v0] H) fun r1 =>
 (bd (call 324 [r1.1] r1.2) fun r2 =>
 (frzR r2.1 r2.2)))
theorem nat_Trim.r_e (n : Nat) (v0 : V) (H : Heap) : nat_Trim.r @bdI (callA C n) n v0 H = E C n 322 [] (argsA 0 [v0]) H (kR C 322) := by
  unfold nat_Trim.r
  kernel_rfl
noncomputable def nat_Trim.rf (bd : B3) (call : FuncId → List V → Heap → Option R) (n : Nat) (a : List V) (H : Heap) : Option R := pureA a H fun a => (match a with | [v0] => nat_Trim.r bd call n v0 ⟨0, .nil⟩ | a => E C n 322 [] (argsA 0 a) ⟨0, .nil⟩ (kR C 322))
theorem nat_Trim.rf_b (n : Nat) (a : List V) (H : Heap) : (match a with | [v0] => nat_Trim.r @bdI (callA C n) n v0 H | a => E C n 322 [] (argsA 0 a) H (kR C 322)) = E C n 322 [] (argsA 0 a) H (kR C 322) := by
  split
  · exact nat_Trim.r_e n _ H
  · rfl
theorem nat_Trim.rf_e (n : Nat) (a : List V) (H : Heap) : nat_Trim.rf @bdI (callA C n) n a H = callA C (n + 1) 322 a H := by
  unfold nat_Trim.rf
  refine (congrArg (pureA a H) (funext fun a => nat_Trim.rf_b n a ⟨0, .nil⟩)).trans ?_
  kernel_rfl
@[irreducible] noncomputable def nat_trim.l0 (n m0 : Nat) (v0 : V) (H : Heap) : Option R := Lp C n 323 [1, 0, 0, 0] m0 [(0, v0)] H (kB 0 (kC C n 323 [1, 1] (kR C 323)))
noncomputable def nat_trim.r_l0 (bd : B3) (call : FuncId → List V → Heap → Option R) (n : Nat) (s0 : V → Heap → Option R) (v0 : V) (H : Heap) : Option R :=
 (bd (lenSl v0) fun t4_1 =>
 (bd (arA .gtr t4_1 (.int .i64 0)) fun t5_2 =>
 (bd (asB t5_2) fun b3 =>
 if b3 = true then
 (bd (lenSl v0) fun t9_4 =>
 (bd (arA .sub t9_4 (.int .i64 1)) fun t10_5 =>
 (bd (idxS 1 v0 t10_5) fun t11_6 =>
 (bd (ld1 t11_6 H) fun t12_7 =>
 (bd (arA .eql t12_7 (.int .u32 0)) fun t13_8 =>
 (bd (asB t13_8) fun b9 =>
 if b9 = true then
 (bd (lenSl v0) fun t17_10 =>
 (bd (arA .sub t17_10 (.int .i64 1)) fun t18_11 =>
 (bd (slSl 1 v0 none (some t18_11)) fun t19_12 =>
 (s0 t19_12 H))))
 else
 (frzR v0 H)))))))
 else
 (frzR v0 H))))
theorem nat_trim.r_l0_e (n m0 : Nat) : nat_trim.r_l0 @bdI (callA C n) n (nat_trim.l0 n m0) = nat_trim.l0 n (m0 + 1) := by
  funext v0 H
  unfold nat_trim.r_l0
  kernel_rfl
noncomputable def nat_trim.r_l0_lp (bd : B3) (call : FuncId → List V → Heap → Option R) (n : Nat) (m : Nat) : V → Heap → Option R := Nat.rec (motive := fun _ => V → Heap → Option R) (fun _ _ => none) (fun _ self => nat_trim.r_l0 bd call n self) m
theorem nat_trim.r_l0_lp_e (n : Nat) : nat_trim.r_l0_lp @bdI (callA C n) n = nat_trim.l0 n := by
  funext m
  induction m with
  | zero => funext v0 H; kernel_rfl
  | succ k ih => exact (congrArg (nat_trim.r_l0 @bdI (callA C n) n) ih).trans (nat_trim.r_l0_e n k)
noncomputable def nat_trim.r (bd : B3) (call : FuncId → List V → Heap → Option R) (n : Nat) (v0 : V) (H : Heap) : Option R :=
 (nat_trim.r_l0_lp bd call n n v0 H)
theorem nat_trim.r_e (n : Nat) (v0 : V) (H : Heap) : nat_trim.r @bdI (callA C n) n v0 H = E C n 323 [] (argsA 0 [v0]) H (kR C 323) := by
  unfold nat_trim.r
  rewrite [nat_trim.r_l0_lp_e]
  kernel_rfl
noncomputable def nat_trim.rf (bd : B3) (call : FuncId → List V → Heap → Option R) (n : Nat) (a : List V) (H : Heap) : Option R := pureA a H fun a => (match a with | [v0] => nat_trim.r bd call n v0 ⟨0, .nil⟩ | a => E C n 323 [] (argsA 0 a) ⟨0, .nil⟩ (kR C 323))
theorem nat_trim.rf_b (n : Nat) (a : List V) (H : Heap) : (match a with | [v0] => nat_trim.r @bdI (callA C n) n v0 H | a => E C n 323 [] (argsA 0 a) H (kR C 323)) = E C n 323 [] (argsA 0 a) H (kR C 323) := by
  split
  · exact nat_trim.r_e n _ H
  · rfl
theorem nat_trim.rf_e (n : Nat) (a : List V) (H : Heap) : nat_trim.rf @bdI (callA C n) n a H = callA C (n + 1) 323 a H := by
  unfold nat_trim.rf
  refine (congrArg (pureA a H) (funext fun a => nat_trim.rf_b n a ⟨0, .nil⟩)).trans ?_
  kernel_rfl
noncomputable def slices_Clone_api_Nat_uint32.r (bd : B3) (call : FuncId → List V → Heap → Option R) (n : Nat) (v0 : V) (H : Heap) : Option R :=
 (bd (eqlA P ty_api_Nat v0 (.slice ⟨none, 0, 0, false⟩)) fun t4_1 =>
 (bd (asB t4_1) fun b2 =>
 if b2 = true then
 (some ((.slice ⟨none, 0, 0, false⟩), H))
 else
 (bd (bSl 1 ty_uint32 [(.int .u32 0)] 0 []) fun o3 =>
 (bd (appA 1 4 ty_uint32 (.slice ⟨some (H.n, 0), 0, 1, false⟩) v0 (H.push o3)) fun p4 =>
 (some (p4.1, p4.2))))))
theorem slices_Clone_api_Nat_uint32.r_e (n : Nat) (v0 : V) (H : Heap) : slices_Clone_api_Nat_uint32.r @bdI (callA C n) n v0 H = E C n 324 [] (argsA 0 [v0]) H (kR C 324) := by
  unfold slices_Clone_api_Nat_uint32.r
  kernel_rfl
noncomputable def slices_Clone_api_Nat_uint32.rf (bd : B3) (call : FuncId → List V → Heap → Option R) (n : Nat) (a : List V) (H : Heap) : Option R := (match a with | [v0] => slices_Clone_api_Nat_uint32.r bd call n v0 H | a => E C n 324 [] (argsA 0 a) H (kR C 324))
theorem slices_Clone_api_Nat_uint32.rf_b (n : Nat) (a : List V) (H : Heap) : (match a with | [v0] => slices_Clone_api_Nat_uint32.r @bdI (callA C n) n v0 H | a => E C n 324 [] (argsA 0 a) H (kR C 324)) = E C n 324 [] (argsA 0 a) H (kR C 324) := by
  split
  · exact slices_Clone_api_Nat_uint32.r_e n _ H
  · rfl
theorem slices_Clone_api_Nat_uint32.rf_e (n : Nat) (a : List V) (H : Heap) : slices_Clone_api_Nat_uint32.rf @bdI (callA C n) n a H = callA C (n + 1) 324 a H := by
  unfold slices_Clone_api_Nat_uint32.rf
  refine (slices_Clone_api_Nat_uint32.rf_b n a H).trans ?_
  kernel_rfl
noncomputable def pred_square.r (bd : B3) (call : FuncId → List V → Heap → Option R) (n : Nat) (v0 : V) (H : Heap) : Option R :=
 (bd (boxA ty_api_Point v0) fun o1 =>
 (bd (faA 0 (.ptr (some (H.n, 0)))) fun t3_2 =>
 (bd (ld1 t3_2 (((H.push o1).push (.cells [(.int .i64 0), (.int .u64 0)] ty_api_Wide false)).more 0)) fun t4_3 =>
 (bd (faA 0 (.ptr (some (H.n, 0)))) fun t5_4 =>
 (bd (ld1 t5_4 (((H.push o1).push (.cells [(.int .i64 0), (.int .u64 0)] ty_api_Wide false)).more 0)) fun t6_5 =>
 (bd (call 212 [t4_3, t6_5] (((H.push o1).push (.cells [(.int .i64 0), (.int .u64 0)] ty_api_Wide false)).more 0)) fun r6 =>
 (bd (faA 1 (.ptr (some (H.n, 0)))) fun t8_7 =>
 (bd (ld1 t8_7 r6.2) fun t9_8 =>
 (bd (chk (ld1 t8_7 (((H.push o1).push (.cells [(.int .i64 0), (.int .u64 0)] ty_api_Wide false)).more 0)) t9_8) fun _ =>
 (bd (faA 1 (.ptr (some (H.n, 0)))) fun t10_9 =>
 (bd (ld1 t10_9 r6.2) fun t11_10 =>
 (bd (chk (ld1 t10_9 (((H.push o1).push (.cells [(.int .i64 0), (.int .u64 0)] ty_api_Wide false)).more 0)) t11_10) fun _ =>
 (bd (call 212 [t9_8, t11_10] r6.2) fun r11 =>
 (bd (call 207 [r6.1, r11.1] r11.2) fun r12 =>
 (bd (stA 2 (.ptr (some ((H.push o1).n, 0))) r12.1 r12.2) fun H13 =>
 (bd (ldN 2 (.ptr (some ((H.push o1).n, 0))) H13) fun t14 =>
 (some (t14, H13))))))))))))))))))
theorem pred_square.r_e (n : Nat) (v0 : V) (H : Heap) : pred_square.r @bdI (callA C n) n v0 H = E C n 325 [] (argsA 0 [v0]) H (kR C 325) := by
  unfold pred_square.r
  kernel_rfl
noncomputable def pred_square.rf (bd : B3) (call : FuncId → List V → Heap → Option R) (n : Nat) (a : List V) (H : Heap) : Option R := pureA a H fun a => (match a with | [v0] => pred_square.r bd call n v0 ⟨0, .nil⟩ | a => E C n 325 [] (argsA 0 a) ⟨0, .nil⟩ (kR C 325))
theorem pred_square.rf_b (n : Nat) (a : List V) (H : Heap) : (match a with | [v0] => pred_square.r @bdI (callA C n) n v0 H | a => E C n 325 [] (argsA 0 a) H (kR C 325)) = E C n 325 [] (argsA 0 a) H (kR C 325) := by
  split
  · exact pred_square.r_e n _ H
  · rfl
theorem pred_square.rf_e (n : Nat) (a : List V) (H : Heap) : pred_square.rf @bdI (callA C n) n a H = callA C (n + 1) 325 a H := by
  unfold pred_square.rf
  refine (congrArg (pureA a H) (funext fun a => pred_square.rf_b n a ⟨0, .nil⟩)).trans ?_
  kernel_rfl
noncomputable def nat_Bits.r (bd : B3) (call : FuncId → List V → Heap → Option R) (n : Nat) (v0 : V) (H : Heap) : Option R :=
 (bd (call 364 [v0] H) fun r1 =>
 (some (r1.1, r1.2)))
theorem nat_Bits.r_e (n : Nat) (v0 : V) (H : Heap) : nat_Bits.r @bdI (callA C n) n v0 H = E C n 326 [] (argsA 0 [v0]) H (kR C 326) := by
  unfold nat_Bits.r
  kernel_rfl
noncomputable def nat_Bits.rf (bd : B3) (call : FuncId → List V → Heap → Option R) (n : Nat) (a : List V) (H : Heap) : Option R := pureA a H fun a => (match a with | [v0] => nat_Bits.r bd call n v0 ⟨0, .nil⟩ | a => E C n 326 [] (argsA 0 a) ⟨0, .nil⟩ (kR C 326))
theorem nat_Bits.rf_b (n : Nat) (a : List V) (H : Heap) : (match a with | [v0] => nat_Bits.r @bdI (callA C n) n v0 H | a => E C n 326 [] (argsA 0 a) H (kR C 326)) = E C n 326 [] (argsA 0 a) H (kR C 326) := by
  split
  · exact nat_Bits.r_e n _ H
  · rfl
theorem nat_Bits.rf_e (n : Nat) (a : List V) (H : Heap) : nat_Bits.rf @bdI (callA C n) n a H = callA C (n + 1) 326 a H := by
  unfold nat_Bits.rf
  refine (congrArg (pureA a H) (funext fun a => nat_Bits.rf_b n a ⟨0, .nil⟩)).trans ?_
  kernel_rfl
@[irreducible] noncomputable def nat_cmp.l0 (n m0 : Nat) (v0 v1 v5 : V) (H : Heap) : Option R := Lp C n 327 [1, 1, 1, 0, 1, 0, 0] m0 [(0, v0), (1, v1), (5, v5)] H (kB 0 (kC C n 327 [1, 1, 1, 1] (kR C 327)))
noncomputable def nat_cmp.r_l0 (bd : B3) (call : FuncId → List V → Heap → Option R) (n : Nat) (s0 : V → V → V → Heap → Option R) (v0 v1 v5 : V) (H : Heap) : Option R :=
 (bd (arA .geq v5 (.int .i64 0)) fun t24_1 =>
 (bd (asB t24_1) fun b2 =>
 if b2 = true then
 (bd (idxS 1 v0 v5) fun t30_3 =>
 (bd (ld1 t30_3 (H.more 0)) fun t31_4 =>
 (bd (idxS 1 v1 v5) fun t34_5 =>
 (bd (ld1 t34_5 (H.more 0)) fun t35_6 =>
 (bd (arA .lss t31_4 t35_6) fun t36_7 =>
 (bd (asB t36_7) fun b8 =>
 if b8 = true then
 (some ((.int .i64 (-1)), (H.more 0)))
 else
 (bd (idxS 1 v0 v5) fun t40_9 =>
 (bd (ld1 t40_9 ((H.more 0).more 0)) fun t41_10 =>
 (bd (idxS 1 v1 v5) fun t44_11 =>
 (bd (ld1 t44_11 ((H.more 0).more 0)) fun t45_12 =>
 (bd (arA .gtr t41_10 t45_12) fun t46_13 =>
 (bd (asB t46_13) fun b14 =>
 if b14 = true then
 (some ((.int .i64 1), ((H.more 0).more 0)))
 else
 (bd (arA .sub v5 (.int .i64 1)) fun t26_15 =>
 (s0 v0 v1 t26_15 ((H.more 0).more 0)))))))))))))))
 else
 (some ((.int .i64 0), H))))
theorem nat_cmp.r_l0_e (n m0 : Nat) : nat_cmp.r_l0 @bdI (callA C n) n (nat_cmp.l0 n m0) = nat_cmp.l0 n (m0 + 1) := by
  funext v0 v1 v5 H
  unfold nat_cmp.r_l0
  kernel_rfl
noncomputable def nat_cmp.r_l0_lp (bd : B3) (call : FuncId → List V → Heap → Option R) (n : Nat) (m : Nat) : V → V → V → Heap → Option R := Nat.rec (motive := fun _ => V → V → V → Heap → Option R) (fun _ _ _ _ => none) (fun _ self => nat_cmp.r_l0 bd call n self) m
theorem nat_cmp.r_l0_lp_e (n : Nat) : nat_cmp.r_l0_lp @bdI (callA C n) n = nat_cmp.l0 n := by
  funext m
  induction m with
  | zero => funext v0 v1 v5 H; kernel_rfl
  | succ k ih => exact (congrArg (nat_cmp.r_l0 @bdI (callA C n) n) ih).trans (nat_cmp.r_l0_e n k)
noncomputable def nat_cmp.r (bd : B3) (call : FuncId → List V → Heap → Option R) (n : Nat) (v0 v1 : V) (H : Heap) : Option R :=
 (bd (call 323 [v0] H) fun r1 =>
 (bd (call 323 [v1] r1.2) fun r2 =>
 (bd (lenSl r1.1) fun t11_3 =>
 (bd (lenSl r2.1) fun t13_4 =>
 (bd (arA .neq t11_3 t13_4) fun t14_5 =>
 (bd (asB t14_5) fun b6 =>
 if b6 = true then
 (bd (lenSl r1.1) fun t16_7 =>
 (bd (lenSl r2.1) fun t18_8 =>
 (bd (arA .lss t16_7 t18_8) fun t19_9 =>
 (bd (asB t19_9) fun b10 =>
 if b10 = true then
 (some ((.int .i64 (-1)), r2.2))
 else
 (some ((.int .i64 1), r2.2))))))
 else
 (bd (lenSl r1.1) fun t21_11 =>
 (bd (arA .sub t21_11 (.int .i64 1)) fun t22_12 =>
 (nat_cmp.r_l0_lp bd call n n r1.1 r2.1 t22_12 r2.2)))))))))
theorem nat_cmp.r_e (n : Nat) (v0 v1 : V) (H : Heap) : nat_cmp.r @bdI (callA C n) n v0 v1 H = E C n 327 [] (argsA 0 [v0, v1]) H (kR C 327) := by
  unfold nat_cmp.r
  rewrite [nat_cmp.r_l0_lp_e]
  kernel_rfl
noncomputable def nat_cmp.rf (bd : B3) (call : FuncId → List V → Heap → Option R) (n : Nat) (a : List V) (H : Heap) : Option R := pureA a H fun a => (match a with | [v0, v1] => nat_cmp.r bd call n v0 v1 ⟨0, .nil⟩ | a => E C n 327 [] (argsA 0 a) ⟨0, .nil⟩ (kR C 327))
theorem nat_cmp.rf_b (n : Nat) (a : List V) (H : Heap) : (match a with | [v0, v1] => nat_cmp.r @bdI (callA C n) n v0 v1 H | a => E C n 327 [] (argsA 0 a) H (kR C 327)) = E C n 327 [] (argsA 0 a) H (kR C 327) := by
  split
  · exact nat_cmp.r_e n _ _ H
  · rfl
theorem nat_cmp.rf_e (n : Nat) (a : List V) (H : Heap) : nat_cmp.rf @bdI (callA C n) n a H = callA C (n + 1) 327 a H := by
  unfold nat_cmp.rf
  refine (congrArg (pureA a H) (funext fun a => nat_cmp.rf_b n a ⟨0, .nil⟩)).trans ?_
  kernel_rfl
noncomputable def quad_Sign.r (bd : B3) (call : FuncId → List V → Heap → Option R) (n : Nat) (v0 : V) (H : Heap) : Option R :=
 (bd (boxA ty_api_Quad v0) fun o1 =>
 (bd (ldN 4 (.ptr (some (H.n, 0))) (H.push o1)) fun t4_2 =>
 (bd (call 365 [t4_2] (H.push o1)) fun r3 =>
 (bd (asB r3.1) fun b4 =>
 if b4 = true then
 (some ((.int .i64 (-1)), r3.2))
 else
 (bd (ldN 4 (.ptr (some (H.n, 0))) r3.2) fun t7_5 =>
 (bd (flE 1 [(.int .u64 0), (.int .u64 0), (.int .u64 0), (.int .u64 0)] []) fun t8_6 =>
 (bd (eqlA P ty_api_Quad t7_5 t8_6) fun t9_7 =>
 (bd (asB t9_7) fun b8 =>
 if b8 = true then
 (some ((.int .i64 0), r3.2))
 else
 (some ((.int .i64 1), r3.2))))))))))
theorem quad_Sign.r_e (n : Nat) (v0 : V) (H : Heap) : quad_Sign.r @bdI (callA C n) n v0 H = E C n 328 [] (argsA 0 [v0]) H (kR C 328) := by
  unfold quad_Sign.r
  kernel_rfl
noncomputable def quad_Sign.rf (bd : B3) (call : FuncId → List V → Heap → Option R) (n : Nat) (a : List V) (H : Heap) : Option R := pureA a H fun a => (match a with | [v0] => quad_Sign.r bd call n v0 ⟨0, .nil⟩ | a => E C n 328 [] (argsA 0 a) ⟨0, .nil⟩ (kR C 328))
theorem quad_Sign.rf_b (n : Nat) (a : List V) (H : Heap) : (match a with | [v0] => quad_Sign.r @bdI (callA C n) n v0 H | a => E C n 328 [] (argsA 0 a) H (kR C 328)) = E C n 328 [] (argsA 0 a) H (kR C 328) := by
  split
  · exact quad_Sign.r_e n _ H
  · rfl
theorem quad_Sign.rf_e (n : Nat) (a : List V) (H : Heap) : quad_Sign.rf @bdI (callA C n) n a H = callA C (n + 1) 328 a H := by
  unfold quad_Sign.rf
  refine (congrArg (pureA a H) (funext fun a => quad_Sign.rf_b n a ⟨0, .nil⟩)).trans ?_
  kernel_rfl
noncomputable def quad_of.r (bd : B3) (call : FuncId → List V → Heap → Option R) (n : Nat) (v0 : V) (H : Heap) : Option R :=
 (bd (boxA ty_api_Wide v0) fun o1 =>
 (bd (faA 0 (.ptr (some (H.n, 0)))) fun t4_2 =>
 (bd (ld1 t4_2 ((H.push o1).push (.cells [(.int .u64 0), (.int .u64 0), (.int .u64 0), (.int .u64 0)] ty_api_Quad false))) fun t5_3 =>
 (bd (shA .shr t5_3 (.int .u64 63)) fun t6_4 =>
 (bd (cvInt .u64 t6_4) fun t7_5 =>
 (bd (faA 1 (.ptr (some (H.n, 0)))) fun t8_6 =>
 (bd (ld1 t8_6 ((H.push o1).push (.cells [(.int .u64 0), (.int .u64 0), (.int .u64 0), (.int .u64 0)] ty_api_Quad false))) fun t9_7 =>
 (bd (faA 0 (.ptr (some (H.n, 0)))) fun t10_8 =>
 (bd (ld1 t10_8 ((H.push o1).push (.cells [(.int .u64 0), (.int .u64 0), (.int .u64 0), (.int .u64 0)] ty_api_Quad false))) fun t11_9 =>
 (bd (cvInt .u64 t11_9) fun t12_10 =>
 (bd (flE 1 [(.int .u64 0), (.int .u64 0), (.int .u64 0), (.int .u64 0)] [(0, t9_7), (1, t12_10), (2, t7_5), (3, t7_5)]) fun t15_11 =>
 (bd (stA 4 (.ptr (some ((H.push o1).n, 0))) t15_11 ((H.push o1).push (.cells [(.int .u64 0), (.int .u64 0), (.int .u64 0), (.int .u64 0)] ty_api_Quad false))) fun H12 =>
 (bd (ldN 4 (.ptr (some ((H.push o1).n, 0))) H12) fun t13 =>
 (some (t13, H12)))))))))))))))
theorem quad_of.r_e (n : Nat) (v0 : V) (H : Heap) : quad_of.r @bdI (callA C n) n v0 H = E C n 330 [] (argsA 0 [v0]) H (kR C 330) := by
  unfold quad_of.r
  kernel_rfl
noncomputable def quad_of.rf (bd : B3) (call : FuncId → List V → Heap → Option R) (n : Nat) (a : List V) (H : Heap) : Option R := pureA a H fun a => (match a with | [v0] => quad_of.r bd call n v0 ⟨0, .nil⟩ | a => E C n 330 [] (argsA 0 a) ⟨0, .nil⟩ (kR C 330))
theorem quad_of.rf_b (n : Nat) (a : List V) (H : Heap) : (match a with | [v0] => quad_of.r @bdI (callA C n) n v0 H | a => E C n 330 [] (argsA 0 a) H (kR C 330)) = E C n 330 [] (argsA 0 a) H (kR C 330) := by
  split
  · exact quad_of.r_e n _ H
  · rfl
theorem quad_of.rf_e (n : Nat) (a : List V) (H : Heap) : quad_of.rf @bdI (callA C n) n a H = callA C (n + 1) 330 a H := by
  unfold quad_of.rf
  refine (congrArg (pureA a H) (funext fun a => quad_of.rf_b n a ⟨0, .nil⟩)).trans ?_
  kernel_rfl
@[irreducible] noncomputable def quad_apart.p0 (n : Nat) (v1 v2 v4 : V) (H : Heap) : Option R := E C n 331 [1, 1, 1] [(1, v1), (2, v2), (4, v4)] H (kR C 331)
noncomputable def quad_apart.r_p0 (bd : B3) (call : FuncId → List V → Heap → Option R) (n : Nat) (v1 v2 v4 : V) (H : Heap) : Option R :=
 (bd (faA 1 v1) fun t11_1 =>
 (bd (ld1 t11_1 H) fun t12_2 =>
 (bd (faA 0 v1) fun t13_3 =>
 (bd (ld1 t13_3 H) fun t14_4 =>
 (bd (cvInt .u64 t14_4) fun t15_5 =>
 (bd (flE 1 [(.int .u64 0), (.int .u64 0)] [(0, t12_2), (1, t15_5)]) fun t16_6 =>
 (bd (stA 2 v2 t16_6 H) fun H7 =>
 (bd (ldN 2 v2 H7) fun t8 =>
 (some (.tuple [t8, v4], H7))))))))))
theorem quad_apart.r_p0_e (n : Nat) : quad_apart.r_p0 @bdI (callA C n) n = quad_apart.p0 n := by
  funext v1 v2 v4 H
  unfold quad_apart.r_p0
  kernel_rfl
noncomputable def quad_apart.r (bd : B3) (call : FuncId → List V → Heap → Option R) (n : Nat) (v0 : V) (H : Heap) : Option R :=
 (bd (boxA ty_api_Wide v0) fun o1 =>
 (bd (faA 0 (.ptr (some (H.n, 0)))) fun t5_2 =>
 (bd (ld1 t5_2 ((H.push o1).push (.cells [(.int .u64 0), (.int .u64 0)] ty_2_uint64 false))) fun t6_3 =>
 (bd (arA .lss t6_3 (.int .i64 0)) fun t7_4 =>
 (bd (asB t7_4) fun b5 =>
 if b5 = true then
 (bd (ldN 2 (.ptr (some (H.n, 0))) ((H.push o1).push (.cells [(.int .u64 0), (.int .u64 0)] ty_2_uint64 false))) fun t9_6 =>
 (bd (call 366 [t9_6] ((H.push o1).push (.cells [(.int .u64 0), (.int .u64 0)] ty_2_uint64 false))) fun r7 =>
 (bd (stA 2 (.ptr (some (H.n, 0))) r7.1 r7.2) fun H8 =>
 (quad_apart.r_p0 bd call n (.ptr (some (H.n, 0))) (.ptr (some ((H.push o1).n, 0))) t7_4 H8))))
 else
 (quad_apart.r_p0 bd call n (.ptr (some (H.n, 0))) (.ptr (some ((H.push o1).n, 0))) t7_4 ((H.push o1).push (.cells [(.int .u64 0), (.int .u64 0)] ty_2_uint64 false))))))))
theorem quad_apart.r_e (n : Nat) (v0 : V) (H : Heap) : quad_apart.r @bdI (callA C n) n v0 H = E C n 331 [] (argsA 0 [v0]) H (kR C 331) := by
  unfold quad_apart.r
  rewrite [quad_apart.r_p0_e]
  kernel_rfl
noncomputable def quad_apart.rf (bd : B3) (call : FuncId → List V → Heap → Option R) (n : Nat) (a : List V) (H : Heap) : Option R := pureA a H fun a => (match a with | [v0] => quad_apart.r bd call n v0 ⟨0, .nil⟩ | a => E C n 331 [] (argsA 0 a) ⟨0, .nil⟩ (kR C 331))
theorem quad_apart.rf_b (n : Nat) (a : List V) (H : Heap) : (match a with | [v0] => quad_apart.r @bdI (callA C n) n v0 H | a => E C n 331 [] (argsA 0 a) H (kR C 331)) = E C n 331 [] (argsA 0 a) H (kR C 331) := by
  split
  · exact quad_apart.r_e n _ H
  · rfl
theorem quad_apart.rf_e (n : Nat) (a : List V) (H : Heap) : quad_apart.rf @bdI (callA C n) n a H = callA C (n + 1) 331 a H := by
  unfold quad_apart.rf
  refine (congrArg (pureA a H) (funext fun a => quad_apart.rf_b n a ⟨0, .nil⟩)).trans ?_
  kernel_rfl
noncomputable def wide_sign.r (bd : B3) (call : FuncId → List V → Heap → Option R) (n : Nat) (v0 : V) (H : Heap) : Option R :=
 (bd (boxA ty_api_Wide v0) fun o1 =>
 (bd (faA 0 (.ptr (some (H.n, 0)))) fun t4_2 =>
 (bd (ld1 t4_2 (H.push o1)) fun t5_3 =>
 (bd (arA .lss t5_3 (.int .i64 0)) fun t6_4 =>
 (bd (asB t6_4) fun b5 =>
 if b5 = true then
 (some ((.int .i64 (-1)), (H.push o1)))
 else
 (bd (faA 0 (.ptr (some (H.n, 0)))) fun t8_6 =>
 (bd (ld1 t8_6 (H.push o1)) fun t9_7 =>
 (bd (arA .eql t9_7 (.int .i64 0)) fun t10_8 =>
 (bd (asB t10_8) fun b9 =>
 if b9 = true then
 (bd (faA 1 (.ptr (some (H.n, 0)))) fun t12_10 =>
 (bd (ld1 t12_10 (H.push o1)) fun t13_11 =>
 (bd (arA .eql t13_11 (.int .u64 0)) fun t14_12 =>
 (bd (asB t14_12) fun b13 =>
 if b13 = true then
 (some ((.int .i64 0), (H.push o1)))
 else
 (some ((.int .i64 1), (H.push o1)))))))
 else
 (some ((.int .i64 1), (H.push o1))))))))))))
theorem wide_sign.r_e (n : Nat) (v0 : V) (H : Heap) : wide_sign.r @bdI (callA C n) n v0 H = E C n 333 [] (argsA 0 [v0]) H (kR C 333) := by
  unfold wide_sign.r
  kernel_rfl
noncomputable def wide_sign.rf (bd : B3) (call : FuncId → List V → Heap → Option R) (n : Nat) (a : List V) (H : Heap) : Option R := pureA a H fun a => (match a with | [v0] => wide_sign.r bd call n v0 ⟨0, .nil⟩ | a => E C n 333 [] (argsA 0 a) ⟨0, .nil⟩ (kR C 333))
theorem wide_sign.rf_b (n : Nat) (a : List V) (H : Heap) : (match a with | [v0] => wide_sign.r @bdI (callA C n) n v0 H | a => E C n 333 [] (argsA 0 a) H (kR C 333)) = E C n 333 [] (argsA 0 a) H (kR C 333) := by
  split
  · exact wide_sign.r_e n _ H
  · rfl
theorem wide_sign.rf_e (n : Nat) (a : List V) (H : Heap) : wide_sign.rf @bdI (callA C n) n a H = callA C (n + 1) 333 a H := by
  unfold wide_sign.rf
  refine (congrArg (pureA a H) (funext fun a => wide_sign.rf_b n a ⟨0, .nil⟩)).trans ?_
  kernel_rfl
noncomputable def wide_sub.r (bd : B3) (call : FuncId → List V → Heap → Option R) (n : Nat) (v0 v1 : V) (H : Heap) : Option R :=
 (bd (boxA ty_api_Wide v0) fun o1 =>
 (bd (boxA ty_api_Wide v1) fun o2 =>
 (bd (faA 1 (.ptr (some (H.n, 0)))) fun t10_3 =>
 (bd (ld1 t10_3 (((H.push o1).push o2).push (.cells [(.int .i64 0), (.int .u64 0)] ty_api_Wide false))) fun t11_4 =>
 (bd (faA 1 (.ptr (some ((H.push o1).n, 0)))) fun t12_5 =>
 (bd (ld1 t12_5 (((H.push o1).push o2).push (.cells [(.int .i64 0), (.int .u64 0)] ty_api_Wide false))) fun t13_6 =>
 (bd (call 367 [t11_4, t13_6, (.int .u64 0)] (((H.push o1).push o2).push (.cells [(.int .i64 0), (.int .u64 0)] ty_api_Wide false))) fun r7 =>
 (bd (extA r7.1 0) fun t15_8 =>
 (bd (extA r7.1 1) fun t16_9 =>
 (bd (faA 0 (.ptr (some (H.n, 0)))) fun t18_10 =>
 (bd (ld1 t18_10 r7.2) fun t19_11 =>
 (bd (cvInt .u64 t19_11) fun t20_12 =>
 (bd (faA 0 (.ptr (some ((H.push o1).n, 0)))) fun t21_13 =>
 (bd (ld1 t21_13 r7.2) fun t22_14 =>
 (bd (cvInt .u64 t22_14) fun t23_15 =>
 (bd (call 367 [t20_12, t23_15, t16_9] r7.2) fun r16 =>
 (bd (extA r16.1 0) fun t26_17 =>
 (bd (extA r16.1 1) fun t27_18 =>
 (bd (cvInt .i64 t26_17) fun t29_19 =>
 (bd (flA [(0, 1), (1, 1)] [(.int .i64 0), (.int .u64 0)] [(0, t29_19), (1, t15_8)]) fun t31_20 =>
 (bd (stA 2 (.ptr (some (((H.push o1).push o2).n, 0))) t31_20 r16.2) fun H21 =>
 (bd (ldN 2 (.ptr (some (((H.push o1).push o2).n, 0))) H21) fun t22 =>
 (some (t22, H21))))))))))))))))))))))))
theorem wide_sub.r_e (n : Nat) (v0 v1 : V) (H : Heap) : wide_sub.r @bdI (callA C n) n v0 v1 H = E C n 363 [] (argsA 0 [v0, v1]) H (kR C 363) := by
  unfold wide_sub.r
  kernel_rfl
noncomputable def wide_sub.rf (bd : B3) (call : FuncId → List V → Heap → Option R) (n : Nat) (a : List V) (H : Heap) : Option R := pureA a H fun a => (match a with | [v0, v1] => wide_sub.r bd call n v0 v1 ⟨0, .nil⟩ | a => E C n 363 [] (argsA 0 a) ⟨0, .nil⟩ (kR C 363))
theorem wide_sub.rf_b (n : Nat) (a : List V) (H : Heap) : (match a with | [v0, v1] => wide_sub.r @bdI (callA C n) n v0 v1 H | a => E C n 363 [] (argsA 0 a) H (kR C 363)) = E C n 363 [] (argsA 0 a) H (kR C 363) := by
  split
  · exact wide_sub.r_e n _ _ H
  · rfl
theorem wide_sub.rf_e (n : Nat) (a : List V) (H : Heap) : wide_sub.rf @bdI (callA C n) n a H = callA C (n + 1) 363 a H := by
  unfold wide_sub.rf
  refine (congrArg (pureA a H) (funext fun a => wide_sub.rf_b n a ⟨0, .nil⟩)).trans ?_
  kernel_rfl
noncomputable def nat_size.r (bd : B3) (call : FuncId → List V → Heap → Option R) (n : Nat) (v0 : V) (H : Heap) : Option R :=
 (bd (call 323 [v0] H) fun r1 =>
 (bd (lenSl r1.1) fun t6_2 =>
 (bd (arA .eql t6_2 (.int .i64 0)) fun t7_3 =>
 (bd (asB t7_3) fun b4 =>
 if b4 = true then
 (some ((.int .i64 0), r1.2))
 else
 (bd (lenSl r1.1) fun t9_5 =>
 (bd (arA .sub t9_5 (.int .i64 1)) fun t10_6 =>
 (bd (arA .mul (.int .i64 32) t10_6) fun t11_7 =>
 (bd (lenSl r1.1) fun t14_8 =>
 (bd (arA .sub t14_8 (.int .i64 1)) fun t15_9 =>
 (bd (idxS 1 r1.1 t15_9) fun t16_10 =>
 (bd (ld1 t16_10 r1.2) fun t17_11 =>
 (bd (call 56 [t17_11] r1.2) fun r12 =>
 (bd (arA .add t11_7 r12.1) fun t19_13 =>
 (some (t19_13, r12.2)))))))))))))))
theorem nat_size.r_e (n : Nat) (v0 : V) (H : Heap) : nat_size.r @bdI (callA C n) n v0 H = E C n 364 [] (argsA 0 [v0]) H (kR C 364) := by
  unfold nat_size.r
  kernel_rfl
noncomputable def nat_size.rf (bd : B3) (call : FuncId → List V → Heap → Option R) (n : Nat) (a : List V) (H : Heap) : Option R := pureA a H fun a => (match a with | [v0] => nat_size.r bd call n v0 ⟨0, .nil⟩ | a => E C n 364 [] (argsA 0 a) ⟨0, .nil⟩ (kR C 364))
theorem nat_size.rf_b (n : Nat) (a : List V) (H : Heap) : (match a with | [v0] => nat_size.r @bdI (callA C n) n v0 H | a => E C n 364 [] (argsA 0 a) H (kR C 364)) = E C n 364 [] (argsA 0 a) H (kR C 364) := by
  split
  · exact nat_size.r_e n _ H
  · rfl
theorem nat_size.rf_e (n : Nat) (a : List V) (H : Heap) : nat_size.rf @bdI (callA C n) n a H = callA C (n + 1) 364 a H := by
  unfold nat_size.rf
  refine (congrArg (pureA a H) (funext fun a => nat_size.rf_b n a ⟨0, .nil⟩)).trans ?_
  kernel_rfl
noncomputable def quad_below.r (bd : B3) (call : FuncId → List V → Heap → Option R) (n : Nat) (v0 : V) (H : Heap) : Option R :=
 (bd (boxA ty_api_Quad v0) fun o1 =>
 (bd (idxP 4 1 (.ptr (some (H.n, 0))) (.int .i64 3)) fun t3_2 =>
 (bd (ld1 t3_2 (H.push o1)) fun t4_3 =>
 (bd (shA .shr t4_3 (.int .u64 63)) fun t5_4 =>
 (bd (arA .eql t5_4 (.int .u64 1)) fun t6_5 =>
 (some (t6_5, (H.push o1))))))))
theorem quad_below.r_e (n : Nat) (v0 : V) (H : Heap) : quad_below.r @bdI (callA C n) n v0 H = E C n 365 [] (argsA 0 [v0]) H (kR C 365) := by
  unfold quad_below.r
  kernel_rfl
noncomputable def quad_below.rf (bd : B3) (call : FuncId → List V → Heap → Option R) (n : Nat) (a : List V) (H : Heap) : Option R := pureA a H fun a => (match a with | [v0] => quad_below.r bd call n v0 ⟨0, .nil⟩ | a => E C n 365 [] (argsA 0 a) ⟨0, .nil⟩ (kR C 365))
theorem quad_below.rf_b (n : Nat) (a : List V) (H : Heap) : (match a with | [v0] => quad_below.r @bdI (callA C n) n v0 H | a => E C n 365 [] (argsA 0 a) H (kR C 365)) = E C n 365 [] (argsA 0 a) H (kR C 365) := by
  split
  · exact quad_below.r_e n _ H
  · rfl
theorem quad_below.rf_e (n : Nat) (a : List V) (H : Heap) : quad_below.rf @bdI (callA C n) n a H = callA C (n + 1) 365 a H := by
  unfold quad_below.rf
  refine (congrArg (pureA a H) (funext fun a => quad_below.rf_b n a ⟨0, .nil⟩)).trans ?_
  kernel_rfl
end Go.AM.S
end
section
set_option linter.unusedVariables false
set_option linter.unusedSimpArgs false
set_option maxRecDepth 1000000
namespace Go.AM.S
theorem fns1_0 : tabList0.all (fun p => okFun P p.1) = true := by kernel_rfl
theorem fns1_1 : tabList1.all (fun p => okFun P p.1) = true := by kernel_rfl
theorem fns1_2 : tabList2.all (fun p => okFun P p.1) = true := by kernel_rfl
theorem fns1_3 : tabList3.all (fun p => okFun P p.1) = true := by kernel_rfl
theorem fns1 : tabList.all (fun p => okFun P p.1) = true := by simp only [tabList, List.all_append, fns1_0, fns1_1, fns1_2, fns1_3, Bool.and_self]
theorem fns : ∀ f tab, C.tabs f = some tab → okFun C.P f = true := fun f tab h => List.all_eq_true.1 fns1 (f, tab) (look_mem h)
set_option maxHeartbeats 8000000 in
theorem exts : ∀ p ∈ extList, ExtSound C.P p.1 p.2 ∧ ExtFrame p.2 := by
  intro p hp
  simp only [extList, List.mem_cons, List.not_mem_nil, or_false] at hp
  rcases hp with rfl | rfl
  · exact ⟨xs_add64 (Go.Proofs.Tryz.func318) (by kernel_rfl) (by kernel_rfl) (by kernel_rfl) (by kernel_rfl), extAdd64_frame⟩
  · exact ⟨xs_sub64 (Go.Proofs.Tryz.func367) (by kernel_rfl) (by kernel_rfl) (by kernel_rfl) (by kernel_rfl), extSub64_frame⟩
theorem mixed : C.P.follows .mixedOrders = true := (show P.follows .mixedOrders = true from seat_mixed)
theorem ext_mem {f : Nat} {g : List V → Heap → Option R} (h : C.ext f = some g) : (f, g) ∈ extList := look_mem (l := extList) (show extList.lookup f = some g from h)
theorem ok : C.Ok := { mixed := mixed, fns := fns, ext := fun f g h => exts (f, g) (ext_mem h), okc := fun _ _ h => h }
end Go.AM.S
end
section
set_option linter.unusedVariables false
set_option linter.unusedSimpArgs false
set_option maxRecDepth 1000000
namespace Go.AM.S
noncomputable def d0 (bd : B3) (call : FuncId → List V → Heap → Option R) (n : Nat) (f : FuncId) (a : List V) (H : Heap) : Option R := (bif Nat.beq f 56 then math_bits_Len32.rf bd call n a H else bodyA C (fcall call) n f a H)
theorem d0_e (n : Nat) (f : FuncId) (a : List V) (H : Heap) : d0 @bdI (callA C n) n f a H = callA C (n + 1) f a H := by
  unfold d0
  exact (by
  cases h : Nat.beq f 56
  · exact bodyA_e
  · have h := Nat.eq_of_beq_eq_true h; subst h; exact math_bits_Len32.rf_e n a H)
noncomputable def d1 (bd : B3) (call : FuncId → List V → Heap → Option R) (n : Nat) (f : FuncId) (a : List V) (H : Heap) : Option R := (bif Nat.beq f 134 then lift_can.rf bd call n a H else bodyA C (fcall call) n f a H)
theorem d1_e (n : Nat) (f : FuncId) (a : List V) (H : Heap) : d1 @bdI (callA C n) n f a H = callA C (n + 1) f a H := by
  unfold d1
  exact (by
  cases h : Nat.beq f 134
  · exact bodyA_e
  · have h := Nat.eq_of_beq_eq_true h; subst h; exact lift_can.rf_e n a H)
noncomputable def d2 (bd : B3) (call : FuncId → List V → Heap → Option R) (n : Nat) (f : FuncId) (a : List V) (H : Heap) : Option R := (bif Nat.ble f 56 then d0 bd call n f a H else d1 bd call n f a H)
theorem d2_e (n : Nat) (f : FuncId) (a : List V) (H : Heap) : d2 @bdI (callA C n) n f a H = callA C (n + 1) f a H := by
  unfold d2
  exact (by
  cases h : Nat.ble f 56
  · exact d1_e n f a H
  · exact d0_e n f a H)
noncomputable def d3 (bd : B3) (call : FuncId → List V → Heap → Option R) (n : Nat) (f : FuncId) (a : List V) (H : Heap) : Option R := (bif Nat.beq f 163 then circum_Small.rf bd call n a H else bodyA C (fcall call) n f a H)
theorem d3_e (n : Nat) (f : FuncId) (a : List V) (H : Heap) : d3 @bdI (callA C n) n f a H = callA C (n + 1) f a H := by
  unfold d3
  exact (by
  cases h : Nat.beq f 163
  · exact bodyA_e
  · have h := Nat.eq_of_beq_eq_true h; subst h; exact circum_Small.rf_e n a H)
noncomputable def d4 (bd : B3) (call : FuncId → List V → Heap → Option R) (n : Nat) (f : FuncId) (a : List V) (H : Heap) : Option R := (bif Nat.beq f 167 then pred_Orient.rf bd call n a H else bodyA C (fcall call) n f a H)
theorem d4_e (n : Nat) (f : FuncId) (a : List V) (H : Heap) : d4 @bdI (callA C n) n f a H = callA C (n + 1) f a H := by
  unfold d4
  exact (by
  cases h : Nat.beq f 167
  · exact bodyA_e
  · have h := Nat.eq_of_beq_eq_true h; subst h; exact pred_Orient.rf_e n a H)
noncomputable def d5 (bd : B3) (call : FuncId → List V → Heap → Option R) (n : Nat) (f : FuncId) (a : List V) (H : Heap) : Option R := (bif Nat.beq f 191 then lift_within.rf bd call n a H else bodyA C (fcall call) n f a H)
theorem d5_e (n : Nat) (f : FuncId) (a : List V) (H : Heap) : d5 @bdI (callA C n) n f a H = callA C (n + 1) f a H := by
  unfold d5
  exact (by
  cases h : Nat.beq f 191
  · exact bodyA_e
  · have h := Nat.eq_of_beq_eq_true h; subst h; exact lift_within.rf_e n a H)
noncomputable def d6 (bd : B3) (call : FuncId → List V → Heap → Option R) (n : Nat) (f : FuncId) (a : List V) (H : Heap) : Option R := (bif Nat.ble f 167 then d4 bd call n f a H else d5 bd call n f a H)
theorem d6_e (n : Nat) (f : FuncId) (a : List V) (H : Heap) : d6 @bdI (callA C n) n f a H = callA C (n + 1) f a H := by
  unfold d6
  exact (by
  cases h : Nat.ble f 167
  · exact d5_e n f a H
  · exact d4_e n f a H)
noncomputable def d7 (bd : B3) (call : FuncId → List V → Heap → Option R) (n : Nat) (f : FuncId) (a : List V) (H : Heap) : Option R := (bif Nat.ble f 163 then d3 bd call n f a H else d6 bd call n f a H)
theorem d7_e (n : Nat) (f : FuncId) (a : List V) (H : Heap) : d7 @bdI (callA C n) n f a H = callA C (n + 1) f a H := by
  unfold d7
  exact (by
  cases h : Nat.ble f 163
  · exact d6_e n f a H
  · exact d3_e n f a H)
noncomputable def d8 (bd : B3) (call : FuncId → List V → Heap → Option R) (n : Nat) (f : FuncId) (a : List V) (H : Heap) : Option R := (bif Nat.ble f 134 then d2 bd call n f a H else d7 bd call n f a H)
theorem d8_e (n : Nat) (f : FuncId) (a : List V) (H : Heap) : d8 @bdI (callA C n) n f a H = callA C (n + 1) f a H := by
  unfold d8
  exact (by
  cases h : Nat.ble f 134
  · exact d7_e n f a H
  · exact d2_e n f a H)
noncomputable def d9 (bd : B3) (call : FuncId → List V → Heap → Option R) (n : Nat) (f : FuncId) (a : List V) (H : Heap) : Option R := (bif Nat.beq f 207 then wide_Add.rf bd call n a H else bodyA C (fcall call) n f a H)
theorem d9_e (n : Nat) (f : FuncId) (a : List V) (H : Heap) : d9 @bdI (callA C n) n f a H = callA C (n + 1) f a H := by
  unfold d9
  exact (by
  cases h : Nat.beq f 207
  · exact bodyA_e
  · have h := Nat.eq_of_beq_eq_true h; subst h; exact wide_Add.rf_e n a H)
noncomputable def d10 (bd : B3) (call : FuncId → List V → Heap → Option R) (n : Nat) (f : FuncId) (a : List V) (H : Heap) : Option R := (bif Nat.beq f 208 then pred_Area2.rf bd call n a H else bodyA C (fcall call) n f a H)
theorem d10_e (n : Nat) (f : FuncId) (a : List V) (H : Heap) : d10 @bdI (callA C n) n f a H = callA C (n + 1) f a H := by
  unfold d10
  exact (by
  cases h : Nat.beq f 208
  · exact bodyA_e
  · have h := Nat.eq_of_beq_eq_true h; subst h; exact pred_Area2.rf_e n a H)
noncomputable def d11 (bd : B3) (call : FuncId → List V → Heap → Option R) (n : Nat) (f : FuncId) (a : List V) (H : Heap) : Option R := (bif Nat.beq f 212 then wide_Mul.rf bd call n a H else bodyA C (fcall call) n f a H)
theorem d11_e (n : Nat) (f : FuncId) (a : List V) (H : Heap) : d11 @bdI (callA C n) n f a H = callA C (n + 1) f a H := by
  unfold d11
  exact (by
  cases h : Nat.beq f 212
  · exact bodyA_e
  · have h := Nat.eq_of_beq_eq_true h; subst h; exact wide_Mul.rf_e n a H)
noncomputable def d12 (bd : B3) (call : FuncId → List V → Heap → Option R) (n : Nat) (f : FuncId) (a : List V) (H : Heap) : Option R := (bif Nat.ble f 208 then d10 bd call n f a H else d11 bd call n f a H)
theorem d12_e (n : Nat) (f : FuncId) (a : List V) (H : Heap) : d12 @bdI (callA C n) n f a H = callA C (n + 1) f a H := by
  unfold d12
  exact (by
  cases h : Nat.ble f 208
  · exact d11_e n f a H
  · exact d10_e n f a H)
noncomputable def d13 (bd : B3) (call : FuncId → List V → Heap → Option R) (n : Nat) (f : FuncId) (a : List V) (H : Heap) : Option R := (bif Nat.ble f 207 then d9 bd call n f a H else d12 bd call n f a H)
theorem d13_e (n : Nat) (f : FuncId) (a : List V) (H : Heap) : d13 @bdI (callA C n) n f a H = callA C (n + 1) f a H := by
  unfold d13
  exact (by
  cases h : Nat.ble f 207
  · exact d12_e n f a H
  · exact d9_e n f a H)
noncomputable def d14 (bd : B3) (call : FuncId → List V → Heap → Option R) (n : Nat) (f : FuncId) (a : List V) (H : Heap) : Option R := (bif Nat.beq f 221 then lift_Can.rf bd call n a H else bodyA C (fcall call) n f a H)
theorem d14_e (n : Nat) (f : FuncId) (a : List V) (H : Heap) : d14 @bdI (callA C n) n f a H = callA C (n + 1) f a H := by
  unfold d14
  exact (by
  cases h : Nat.beq f 221
  · exact bodyA_e
  · have h := Nat.eq_of_beq_eq_true h; subst h; exact lift_Can.rf_e n a H)
noncomputable def d15 (bd : B3) (call : FuncId → List V → Heap → Option R) (n : Nat) (f : FuncId) (a : List V) (H : Heap) : Option R := (bif Nat.beq f 222 then circum_circle.rf bd call n a H else bodyA C (fcall call) n f a H)
theorem d15_e (n : Nat) (f : FuncId) (a : List V) (H : Heap) : d15 @bdI (callA C n) n f a H = callA C (n + 1) f a H := by
  unfold d15
  exact (by
  cases h : Nat.beq f 222
  · exact bodyA_e
  · have h := Nat.eq_of_beq_eq_true h; subst h; exact circum_circle.rf_e n a H)
noncomputable def d16 (bd : B3) (call : FuncId → List V → Heap → Option R) (n : Nat) (f : FuncId) (a : List V) (H : Heap) : Option R := (bif Nat.beq f 223 then whole_Mul.rf bd call n a H else bodyA C (fcall call) n f a H)
theorem d16_e (n : Nat) (f : FuncId) (a : List V) (H : Heap) : d16 @bdI (callA C n) n f a H = callA C (n + 1) f a H := by
  unfold d16
  exact (by
  cases h : Nat.beq f 223
  · exact bodyA_e
  · have h := Nat.eq_of_beq_eq_true h; subst h; exact whole_Mul.rf_e n a H)
noncomputable def d17 (bd : B3) (call : FuncId → List V → Heap → Option R) (n : Nat) (f : FuncId) (a : List V) (H : Heap) : Option R := (bif Nat.ble f 222 then d15 bd call n f a H else d16 bd call n f a H)
theorem d17_e (n : Nat) (f : FuncId) (a : List V) (H : Heap) : d17 @bdI (callA C n) n f a H = callA C (n + 1) f a H := by
  unfold d17
  exact (by
  cases h : Nat.ble f 222
  · exact d16_e n f a H
  · exact d15_e n f a H)
noncomputable def d18 (bd : B3) (call : FuncId → List V → Heap → Option R) (n : Nat) (f : FuncId) (a : List V) (H : Heap) : Option R := (bif Nat.ble f 221 then d14 bd call n f a H else d17 bd call n f a H)
theorem d18_e (n : Nat) (f : FuncId) (a : List V) (H : Heap) : d18 @bdI (callA C n) n f a H = callA C (n + 1) f a H := by
  unfold d18
  exact (by
  cases h : Nat.ble f 221
  · exact d17_e n f a H
  · exact d14_e n f a H)
noncomputable def d19 (bd : B3) (call : FuncId → List V → Heap → Option R) (n : Nat) (f : FuncId) (a : List V) (H : Heap) : Option R := (bif Nat.ble f 212 then d13 bd call n f a H else d18 bd call n f a H)
theorem d19_e (n : Nat) (f : FuncId) (a : List V) (H : Heap) : d19 @bdI (callA C n) n f a H = callA C (n + 1) f a H := by
  unfold d19
  exact (by
  cases h : Nat.ble f 212
  · exact d18_e n f a H
  · exact d13_e n f a H)
noncomputable def d20 (bd : B3) (call : FuncId → List V → Heap → Option R) (n : Nat) (f : FuncId) (a : List V) (H : Heap) : Option R := (bif Nat.ble f 191 then d8 bd call n f a H else d19 bd call n f a H)
theorem d20_e (n : Nat) (f : FuncId) (a : List V) (H : Heap) : d20 @bdI (callA C n) n f a H = callA C (n + 1) f a H := by
  unfold d20
  exact (by
  cases h : Nat.ble f 191
  · exact d19_e n f a H
  · exact d8_e n f a H)
noncomputable def d21 (bd : B3) (call : FuncId → List V → Heap → Option R) (n : Nat) (f : FuncId) (a : List V) (H : Heap) : Option R := (bif Nat.beq f 224 then whole_Of.rf bd call n a H else bodyA C (fcall call) n f a H)
theorem d21_e (n : Nat) (f : FuncId) (a : List V) (H : Heap) : d21 @bdI (callA C n) n f a H = callA C (n + 1) f a H := by
  unfold d21
  exact (by
  cases h : Nat.beq f 224
  · exact bodyA_e
  · have h := Nat.eq_of_beq_eq_true h; subst h; exact whole_Of.rf_e n a H)
noncomputable def d22 (bd : B3) (call : FuncId → List V → Heap → Option R) (n : Nat) (f : FuncId) (a : List V) (H : Heap) : Option R := (bif Nat.beq f 225 then circum_sides.rf bd call n a H else bodyA C (fcall call) n f a H)
theorem d22_e (n : Nat) (f : FuncId) (a : List V) (H : Heap) : d22 @bdI (callA C n) n f a H = callA C (n + 1) f a H := by
  unfold d22
  exact (by
  cases h : Nat.beq f 225
  · exact bodyA_e
  · have h := Nat.eq_of_beq_eq_true h; subst h; exact circum_sides.rf_e n a H)
noncomputable def d23 (bd : B3) (call : FuncId → List V → Heap → Option R) (n : Nat) (f : FuncId) (a : List V) (H : Heap) : Option R := (bif Nat.beq f 226 then whole_Cmp.rf bd call n a H else bodyA C (fcall call) n f a H)
theorem d23_e (n : Nat) (f : FuncId) (a : List V) (H : Heap) : d23 @bdI (callA C n) n f a H = callA C (n + 1) f a H := by
  unfold d23
  exact (by
  cases h : Nat.beq f 226
  · exact bodyA_e
  · have h := Nat.eq_of_beq_eq_true h; subst h; exact whole_Cmp.rf_e n a H)
noncomputable def d24 (bd : B3) (call : FuncId → List V → Heap → Option R) (n : Nat) (f : FuncId) (a : List V) (H : Heap) : Option R := (bif Nat.ble f 225 then d22 bd call n f a H else d23 bd call n f a H)
theorem d24_e (n : Nat) (f : FuncId) (a : List V) (H : Heap) : d24 @bdI (callA C n) n f a H = callA C (n + 1) f a H := by
  unfold d24
  exact (by
  cases h : Nat.ble f 225
  · exact d23_e n f a H
  · exact d22_e n f a H)
noncomputable def d25 (bd : B3) (call : FuncId → List V → Heap → Option R) (n : Nat) (f : FuncId) (a : List V) (H : Heap) : Option R := (bif Nat.ble f 224 then d21 bd call n f a H else d24 bd call n f a H)
theorem d25_e (n : Nat) (f : FuncId) (a : List V) (H : Heap) : d25 @bdI (callA C n) n f a H = callA C (n + 1) f a H := by
  unfold d25
  exact (by
  cases h : Nat.ble f 224
  · exact d24_e n f a H
  · exact d21_e n f a H)
noncomputable def d26 (bd : B3) (call : FuncId → List V → Heap → Option R) (n : Nat) (f : FuncId) (a : List V) (H : Heap) : Option R := (bif Nat.beq f 227 then circum_long.rf bd call n a H else bodyA C (fcall call) n f a H)
theorem d26_e (n : Nat) (f : FuncId) (a : List V) (H : Heap) : d26 @bdI (callA C n) n f a H = callA C (n + 1) f a H := by
  unfold d26
  exact (by
  cases h : Nat.beq f 227
  · exact bodyA_e
  · have h := Nat.eq_of_beq_eq_true h; subst h; exact circum_long.rf_e n a H)
noncomputable def d27 (bd : B3) (call : FuncId → List V → Heap → Option R) (n : Nat) (f : FuncId) (a : List V) (H : Heap) : Option R := (bif Nat.beq f 228 then circum_square.rf bd call n a H else bodyA C (fcall call) n f a H)
theorem d27_e (n : Nat) (f : FuncId) (a : List V) (H : Heap) : d27 @bdI (callA C n) n f a H = callA C (n + 1) f a H := by
  unfold d27
  exact (by
  cases h : Nat.beq f 228
  · exact bodyA_e
  · have h := Nat.eq_of_beq_eq_true h; subst h; exact circum_square.rf_e n a H)
noncomputable def d28 (bd : B3) (call : FuncId → List V → Heap → Option R) (n : Nat) (f : FuncId) (a : List V) (H : Heap) : Option R := (bif Nat.beq f 229 then pred_can.rf bd call n a H else bodyA C (fcall call) n f a H)
theorem d28_e (n : Nat) (f : FuncId) (a : List V) (H : Heap) : d28 @bdI (callA C n) n f a H = callA C (n + 1) f a H := by
  unfold d28
  exact (by
  cases h : Nat.beq f 229
  · exact bodyA_e
  · have h := Nat.eq_of_beq_eq_true h; subst h; exact pred_can.rf_e n a H)
noncomputable def d29 (bd : B3) (call : FuncId → List V → Heap → Option R) (n : Nat) (f : FuncId) (a : List V) (H : Heap) : Option R := (bif Nat.ble f 228 then d27 bd call n f a H else d28 bd call n f a H)
theorem d29_e (n : Nat) (f : FuncId) (a : List V) (H : Heap) : d29 @bdI (callA C n) n f a H = callA C (n + 1) f a H := by
  unfold d29
  exact (by
  cases h : Nat.ble f 228
  · exact d28_e n f a H
  · exact d27_e n f a H)
noncomputable def d30 (bd : B3) (call : FuncId → List V → Heap → Option R) (n : Nat) (f : FuncId) (a : List V) (H : Heap) : Option R := (bif Nat.ble f 227 then d26 bd call n f a H else d29 bd call n f a H)
theorem d30_e (n : Nat) (f : FuncId) (a : List V) (H : Heap) : d30 @bdI (callA C n) n f a H = callA C (n + 1) f a H := by
  unfold d30
  exact (by
  cases h : Nat.ble f 227
  · exact d29_e n f a H
  · exact d26_e n f a H)
noncomputable def d31 (bd : B3) (call : FuncId → List V → Heap → Option R) (n : Nat) (f : FuncId) (a : List V) (H : Heap) : Option R := (bif Nat.ble f 226 then d25 bd call n f a H else d30 bd call n f a H)
theorem d31_e (n : Nat) (f : FuncId) (a : List V) (H : Heap) : d31 @bdI (callA C n) n f a H = callA C (n + 1) f a H := by
  unfold d31
  exact (by
  cases h : Nat.ble f 226
  · exact d30_e n f a H
  · exact d25_e n f a H)
noncomputable def d32 (bd : B3) (call : FuncId → List V → Heap → Option R) (n : Nat) (f : FuncId) (a : List V) (H : Heap) : Option R := (bif Nat.beq f 230 then pred_orient.rf bd call n a H else bodyA C (fcall call) n f a H)
theorem d32_e (n : Nat) (f : FuncId) (a : List V) (H : Heap) : d32 @bdI (callA C n) n f a H = callA C (n + 1) f a H := by
  unfold d32
  exact (by
  cases h : Nat.beq f 230
  · exact bodyA_e
  · have h := Nat.eq_of_beq_eq_true h; subst h; exact pred_orient.rf_e n a H)
noncomputable def d33 (bd : B3) (call : FuncId → List V → Heap → Option R) (n : Nat) (f : FuncId) (a : List V) (H : Heap) : Option R := (bif Nat.beq f 262 then wide_add.rf bd call n a H else bodyA C (fcall call) n f a H)
theorem d33_e (n : Nat) (f : FuncId) (a : List V) (H : Heap) : d33 @bdI (callA C n) n f a H = callA C (n + 1) f a H := by
  unfold d33
  exact (by
  cases h : Nat.beq f 262
  · exact bodyA_e
  · have h := Nat.eq_of_beq_eq_true h; subst h; exact wide_add.rf_e n a H)
noncomputable def d34 (bd : B3) (call : FuncId → List V → Heap → Option R) (n : Nat) (f : FuncId) (a : List V) (H : Heap) : Option R := (bif Nat.beq f 263 then pred_across.rf bd call n a H else bodyA C (fcall call) n f a H)
theorem d34_e (n : Nat) (f : FuncId) (a : List V) (H : Heap) : d34 @bdI (callA C n) n f a H = callA C (n + 1) f a H := by
  unfold d34
  exact (by
  cases h : Nat.beq f 263
  · exact bodyA_e
  · have h := Nat.eq_of_beq_eq_true h; subst h; exact pred_across.rf_e n a H)
noncomputable def d35 (bd : B3) (call : FuncId → List V → Heap → Option R) (n : Nat) (f : FuncId) (a : List V) (H : Heap) : Option R := (bif Nat.ble f 262 then d33 bd call n f a H else d34 bd call n f a H)
theorem d35_e (n : Nat) (f : FuncId) (a : List V) (H : Heap) : d35 @bdI (callA C n) n f a H = callA C (n + 1) f a H := by
  unfold d35
  exact (by
  cases h : Nat.ble f 262
  · exact d34_e n f a H
  · exact d33_e n f a H)
noncomputable def d36 (bd : B3) (call : FuncId → List V → Heap → Option R) (n : Nat) (f : FuncId) (a : List V) (H : Heap) : Option R := (bif Nat.ble f 230 then d32 bd call n f a H else d35 bd call n f a H)
theorem d36_e (n : Nat) (f : FuncId) (a : List V) (H : Heap) : d36 @bdI (callA C n) n f a H = callA C (n + 1) f a H := by
  unfold d36
  exact (by
  cases h : Nat.ble f 230
  · exact d35_e n f a H
  · exact d32_e n f a H)
noncomputable def d37 (bd : B3) (call : FuncId → List V → Heap → Option R) (n : Nat) (f : FuncId) (a : List V) (H : Heap) : Option R := (bif Nat.beq f 264 then pred_way.rf bd call n a H else bodyA C (fcall call) n f a H)
theorem d37_e (n : Nat) (f : FuncId) (a : List V) (H : Heap) : d37 @bdI (callA C n) n f a H = callA C (n + 1) f a H := by
  unfold d37
  exact (by
  cases h : Nat.beq f 264
  · exact bodyA_e
  · have h := Nat.eq_of_beq_eq_true h; subst h; exact pred_way.rf_e n a H)
noncomputable def d38 (bd : B3) (call : FuncId → List V → Heap → Option R) (n : Nat) (f : FuncId) (a : List V) (H : Heap) : Option R := (bif Nat.beq f 266 then math_bits_Mul64.rf bd call n a H else bodyA C (fcall call) n f a H)
theorem d38_e (n : Nat) (f : FuncId) (a : List V) (H : Heap) : d38 @bdI (callA C n) n f a H = callA C (n + 1) f a H := by
  unfold d38
  exact (by
  cases h : Nat.beq f 266
  · exact bodyA_e
  · have h := Nat.eq_of_beq_eq_true h; subst h; exact math_bits_Mul64.rf_e n a H)
noncomputable def d39 (bd : B3) (call : FuncId → List V → Heap → Option R) (n : Nat) (f : FuncId) (a : List V) (H : Heap) : Option R := (bif Nat.beq f 270 then whole_norm.rf bd call n a H else bodyA C (fcall call) n f a H)
theorem d39_e (n : Nat) (f : FuncId) (a : List V) (H : Heap) : d39 @bdI (callA C n) n f a H = callA C (n + 1) f a H := by
  unfold d39
  exact (by
  cases h : Nat.beq f 270
  · exact bodyA_e
  · have h := Nat.eq_of_beq_eq_true h; subst h; exact whole_norm.rf_e n a H)
noncomputable def d40 (bd : B3) (call : FuncId → List V → Heap → Option R) (n : Nat) (f : FuncId) (a : List V) (H : Heap) : Option R := (bif Nat.ble f 266 then d38 bd call n f a H else d39 bd call n f a H)
theorem d40_e (n : Nat) (f : FuncId) (a : List V) (H : Heap) : d40 @bdI (callA C n) n f a H = callA C (n + 1) f a H := by
  unfold d40
  exact (by
  cases h : Nat.ble f 266
  · exact d39_e n f a H
  · exact d38_e n f a H)
noncomputable def d41 (bd : B3) (call : FuncId → List V → Heap → Option R) (n : Nat) (f : FuncId) (a : List V) (H : Heap) : Option R := (bif Nat.ble f 264 then d37 bd call n f a H else d40 bd call n f a H)
theorem d41_e (n : Nat) (f : FuncId) (a : List V) (H : Heap) : d41 @bdI (callA C n) n f a H = callA C (n + 1) f a H := by
  unfold d41
  exact (by
  cases h : Nat.ble f 264
  · exact d40_e n f a H
  · exact d37_e n f a H)
noncomputable def d42 (bd : B3) (call : FuncId → List V → Heap → Option R) (n : Nat) (f : FuncId) (a : List V) (H : Heap) : Option R := (bif Nat.ble f 263 then d36 bd call n f a H else d41 bd call n f a H)
theorem d42_e (n : Nat) (f : FuncId) (a : List V) (H : Heap) : d42 @bdI (callA C n) n f a H = callA C (n + 1) f a H := by
  unfold d42
  exact (by
  cases h : Nat.ble f 263
  · exact d41_e n f a H
  · exact d36_e n f a H)
noncomputable def d43 (bd : B3) (call : FuncId → List V → Heap → Option R) (n : Nat) (f : FuncId) (a : List V) (H : Heap) : Option R := (bif Nat.ble f 229 then d31 bd call n f a H else d42 bd call n f a H)
theorem d43_e (n : Nat) (f : FuncId) (a : List V) (H : Heap) : d43 @bdI (callA C n) n f a H = callA C (n + 1) f a H := by
  unfold d43
  exact (by
  cases h : Nat.ble f 229
  · exact d42_e n f a H
  · exact d31_e n f a H)
noncomputable def d44 (bd : B3) (call : FuncId → List V → Heap → Option R) (n : Nat) (f : FuncId) (a : List V) (H : Heap) : Option R := (bif Nat.ble f 223 then d20 bd call n f a H else d43 bd call n f a H)
theorem d44_e (n : Nat) (f : FuncId) (a : List V) (H : Heap) : d44 @bdI (callA C n) n f a H = callA C (n + 1) f a H := by
  unfold d44
  exact (by
  cases h : Nat.ble f 223
  · exact d43_e n f a H
  · exact d20_e n f a H)
noncomputable def d45 (bd : B3) (call : FuncId → List V → Heap → Option R) (n : Nat) (f : FuncId) (a : List V) (H : Heap) : Option R := (bif Nat.beq f 271 then nat_Mul.rf bd call n a H else bodyA C (fcall call) n f a H)
theorem d45_e (n : Nat) (f : FuncId) (a : List V) (H : Heap) : d45 @bdI (callA C n) n f a H = callA C (n + 1) f a H := by
  unfold d45
  exact (by
  cases h : Nat.beq f 271
  · exact bodyA_e
  · have h := Nat.eq_of_beq_eq_true h; subst h; exact nat_Mul.rf_e n a H)
noncomputable def d46 (bd : B3) (call : FuncId → List V → Heap → Option R) (n : Nat) (f : FuncId) (a : List V) (H : Heap) : Option R := (bif Nat.beq f 272 then nat_Of.rf bd call n a H else bodyA C (fcall call) n f a H)
theorem d46_e (n : Nat) (f : FuncId) (a : List V) (H : Heap) : d46 @bdI (callA C n) n f a H = callA C (n + 1) f a H := by
  unfold d46
  exact (by
  cases h : Nat.beq f 272
  · exact bodyA_e
  · have h := Nat.eq_of_beq_eq_true h; subst h; exact nat_Of.rf_e n a H)
noncomputable def d47 (bd : B3) (call : FuncId → List V → Heap → Option R) (n : Nat) (f : FuncId) (a : List V) (H : Heap) : Option R := (bif Nat.ble f 271 then d45 bd call n f a H else d46 bd call n f a H)
theorem d47_e (n : Nat) (f : FuncId) (a : List V) (H : Heap) : d47 @bdI (callA C n) n f a H = callA C (n + 1) f a H := by
  unfold d47
  exact (by
  cases h : Nat.ble f 271
  · exact d46_e n f a H
  · exact d45_e n f a H)
noncomputable def d48 (bd : B3) (call : FuncId → List V → Heap → Option R) (n : Nat) (f : FuncId) (a : List V) (H : Heap) : Option R := (bif Nat.beq f 273 then pred_Dist2.rf bd call n a H else bodyA C (fcall call) n f a H)
theorem d48_e (n : Nat) (f : FuncId) (a : List V) (H : Heap) : d48 @bdI (callA C n) n f a H = callA C (n + 1) f a H := by
  unfold d48
  exact (by
  cases h : Nat.beq f 273
  · exact bodyA_e
  · have h := Nat.eq_of_beq_eq_true h; subst h; exact pred_Dist2.rf_e n a H)
noncomputable def d49 (bd : B3) (call : FuncId → List V → Heap → Option R) (n : Nat) (f : FuncId) (a : List V) (H : Heap) : Option R := (bif Nat.beq f 274 then whole_sign.rf bd call n a H else bodyA C (fcall call) n f a H)
theorem d49_e (n : Nat) (f : FuncId) (a : List V) (H : Heap) : d49 @bdI (callA C n) n f a H = callA C (n + 1) f a H := by
  unfold d49
  exact (by
  cases h : Nat.beq f 274
  · exact bodyA_e
  · have h := Nat.eq_of_beq_eq_true h; subst h; exact whole_sign.rf_e n a H)
noncomputable def d50 (bd : B3) (call : FuncId → List V → Heap → Option R) (n : Nat) (f : FuncId) (a : List V) (H : Heap) : Option R := (bif Nat.beq f 275 then nat_Cmp.rf bd call n a H else bodyA C (fcall call) n f a H)
theorem d50_e (n : Nat) (f : FuncId) (a : List V) (H : Heap) : d50 @bdI (callA C n) n f a H = callA C (n + 1) f a H := by
  unfold d50
  exact (by
  cases h : Nat.beq f 275
  · exact bodyA_e
  · have h := Nat.eq_of_beq_eq_true h; subst h; exact nat_Cmp.rf_e n a H)
noncomputable def d51 (bd : B3) (call : FuncId → List V → Heap → Option R) (n : Nat) (f : FuncId) (a : List V) (H : Heap) : Option R := (bif Nat.ble f 274 then d49 bd call n f a H else d50 bd call n f a H)
theorem d51_e (n : Nat) (f : FuncId) (a : List V) (H : Heap) : d51 @bdI (callA C n) n f a H = callA C (n + 1) f a H := by
  unfold d51
  exact (by
  cases h : Nat.ble f 274
  · exact d50_e n f a H
  · exact d49_e n f a H)
noncomputable def d52 (bd : B3) (call : FuncId → List V → Heap → Option R) (n : Nat) (f : FuncId) (a : List V) (H : Heap) : Option R := (bif Nat.ble f 273 then d48 bd call n f a H else d51 bd call n f a H)
theorem d52_e (n : Nat) (f : FuncId) (a : List V) (H : Heap) : d52 @bdI (callA C n) n f a H = callA C (n + 1) f a H := by
  unfold d52
  exact (by
  cases h : Nat.ble f 273
  · exact d51_e n f a H
  · exact d48_e n f a H)
noncomputable def d53 (bd : B3) (call : FuncId → List V → Heap → Option R) (n : Nat) (f : FuncId) (a : List V) (H : Heap) : Option R := (bif Nat.ble f 272 then d47 bd call n f a H else d52 bd call n f a H)
theorem d53_e (n : Nat) (f : FuncId) (a : List V) (H : Heap) : d53 @bdI (callA C n) n f a H = callA C (n + 1) f a H := by
  unfold d53
  exact (by
  cases h : Nat.ble f 272
  · exact d52_e n f a H
  · exact d47_e n f a H)
noncomputable def d54 (bd : B3) (call : FuncId → List V → Heap → Option R) (n : Nat) (f : FuncId) (a : List V) (H : Heap) : Option R := (bif Nat.beq f 276 then whole_OfQuad.rf bd call n a H else bodyA C (fcall call) n f a H)
theorem d54_e (n : Nat) (f : FuncId) (a : List V) (H : Heap) : d54 @bdI (callA C n) n f a H = callA C (n + 1) f a H := by
  unfold d54
  exact (by
  cases h : Nat.beq f 276
  · exact bodyA_e
  · have h := Nat.eq_of_beq_eq_true h; subst h; exact whole_OfQuad.rf_e n a H)
noncomputable def d55 (bd : B3) (call : FuncId → List V → Heap → Option R) (n : Nat) (f : FuncId) (a : List V) (H : Heap) : Option R := (bif Nat.beq f 277 then quad_Of.rf bd call n a H else bodyA C (fcall call) n f a H)
theorem d55_e (n : Nat) (f : FuncId) (a : List V) (H : Heap) : d55 @bdI (callA C n) n f a H = callA C (n + 1) f a H := by
  unfold d55
  exact (by
  cases h : Nat.beq f 277
  · exact bodyA_e
  · have h := Nat.eq_of_beq_eq_true h; subst h; exact quad_Of.rf_e n a H)
noncomputable def d56 (bd : B3) (call : FuncId → List V → Heap → Option R) (n : Nat) (f : FuncId) (a : List V) (H : Heap) : Option R := (bif Nat.beq f 278 then quad_Mul.rf bd call n a H else bodyA C (fcall call) n f a H)
theorem d56_e (n : Nat) (f : FuncId) (a : List V) (H : Heap) : d56 @bdI (callA C n) n f a H = callA C (n + 1) f a H := by
  unfold d56
  exact (by
  cases h : Nat.beq f 278
  · exact bodyA_e
  · have h := Nat.eq_of_beq_eq_true h; subst h; exact quad_Mul.rf_e n a H)
noncomputable def d57 (bd : B3) (call : FuncId → List V → Heap → Option R) (n : Nat) (f : FuncId) (a : List V) (H : Heap) : Option R := (bif Nat.ble f 277 then d55 bd call n f a H else d56 bd call n f a H)
theorem d57_e (n : Nat) (f : FuncId) (a : List V) (H : Heap) : d57 @bdI (callA C n) n f a H = callA C (n + 1) f a H := by
  unfold d57
  exact (by
  cases h : Nat.ble f 277
  · exact d56_e n f a H
  · exact d55_e n f a H)
noncomputable def d58 (bd : B3) (call : FuncId → List V → Heap → Option R) (n : Nat) (f : FuncId) (a : List V) (H : Heap) : Option R := (bif Nat.ble f 276 then d54 bd call n f a H else d57 bd call n f a H)
theorem d58_e (n : Nat) (f : FuncId) (a : List V) (H : Heap) : d58 @bdI (callA C n) n f a H = callA C (n + 1) f a H := by
  unfold d58
  exact (by
  cases h : Nat.ble f 276
  · exact d57_e n f a H
  · exact d54_e n f a H)
noncomputable def d59 (bd : B3) (call : FuncId → List V → Heap → Option R) (n : Nat) (f : FuncId) (a : List V) (H : Heap) : Option R := (bif Nat.beq f 279 then wide_Sign.rf bd call n a H else bodyA C (fcall call) n f a H)
theorem d59_e (n : Nat) (f : FuncId) (a : List V) (H : Heap) : d59 @bdI (callA C n) n f a H = callA C (n + 1) f a H := by
  unfold d59
  exact (by
  cases h : Nat.beq f 279
  · exact bodyA_e
  · have h := Nat.eq_of_beq_eq_true h; subst h; exact wide_Sign.rf_e n a H)
noncomputable def d60 (bd : B3) (call : FuncId → List V → Heap → Option R) (n : Nat) (f : FuncId) (a : List V) (H : Heap) : Option R := (bif Nat.beq f 319 then wide_Sub.rf bd call n a H else bodyA C (fcall call) n f a H)
theorem d60_e (n : Nat) (f : FuncId) (a : List V) (H : Heap) : d60 @bdI (callA C n) n f a H = callA C (n + 1) f a H := by
  unfold d60
  exact (by
  cases h : Nat.beq f 319
  · exact bodyA_e
  · have h := Nat.eq_of_beq_eq_true h; subst h; exact wide_Sub.rf_e n a H)
noncomputable def d61 (bd : B3) (call : FuncId → List V → Heap → Option R) (n : Nat) (f : FuncId) (a : List V) (H : Heap) : Option R := (bif Nat.beq f 322 then nat_Trim.rf bd call n a H else bodyA C (fcall call) n f a H)
theorem d61_e (n : Nat) (f : FuncId) (a : List V) (H : Heap) : d61 @bdI (callA C n) n f a H = callA C (n + 1) f a H := by
  unfold d61
  exact (by
  cases h : Nat.beq f 322
  · exact bodyA_e
  · have h := Nat.eq_of_beq_eq_true h; subst h; exact nat_Trim.rf_e n a H)
noncomputable def d62 (bd : B3) (call : FuncId → List V → Heap → Option R) (n : Nat) (f : FuncId) (a : List V) (H : Heap) : Option R := (bif Nat.ble f 319 then d60 bd call n f a H else d61 bd call n f a H)
theorem d62_e (n : Nat) (f : FuncId) (a : List V) (H : Heap) : d62 @bdI (callA C n) n f a H = callA C (n + 1) f a H := by
  unfold d62
  exact (by
  cases h : Nat.ble f 319
  · exact d61_e n f a H
  · exact d60_e n f a H)
noncomputable def d63 (bd : B3) (call : FuncId → List V → Heap → Option R) (n : Nat) (f : FuncId) (a : List V) (H : Heap) : Option R := (bif Nat.ble f 279 then d59 bd call n f a H else d62 bd call n f a H)
theorem d63_e (n : Nat) (f : FuncId) (a : List V) (H : Heap) : d63 @bdI (callA C n) n f a H = callA C (n + 1) f a H := by
  unfold d63
  exact (by
  cases h : Nat.ble f 279
  · exact d62_e n f a H
  · exact d59_e n f a H)
noncomputable def d64 (bd : B3) (call : FuncId → List V → Heap → Option R) (n : Nat) (f : FuncId) (a : List V) (H : Heap) : Option R := (bif Nat.ble f 278 then d58 bd call n f a H else d63 bd call n f a H)
theorem d64_e (n : Nat) (f : FuncId) (a : List V) (H : Heap) : d64 @bdI (callA C n) n f a H = callA C (n + 1) f a H := by
  unfold d64
  exact (by
  cases h : Nat.ble f 278
  · exact d63_e n f a H
  · exact d58_e n f a H)
noncomputable def d65 (bd : B3) (call : FuncId → List V → Heap → Option R) (n : Nat) (f : FuncId) (a : List V) (H : Heap) : Option R := (bif Nat.ble f 275 then d53 bd call n f a H else d64 bd call n f a H)
theorem d65_e (n : Nat) (f : FuncId) (a : List V) (H : Heap) : d65 @bdI (callA C n) n f a H = callA C (n + 1) f a H := by
  unfold d65
  exact (by
  cases h : Nat.ble f 275
  · exact d64_e n f a H
  · exact d53_e n f a H)
noncomputable def d66 (bd : B3) (call : FuncId → List V → Heap → Option R) (n : Nat) (f : FuncId) (a : List V) (H : Heap) : Option R := (bif Nat.beq f 323 then nat_trim.rf bd call n a H else bodyA C (fcall call) n f a H)
theorem d66_e (n : Nat) (f : FuncId) (a : List V) (H : Heap) : d66 @bdI (callA C n) n f a H = callA C (n + 1) f a H := by
  unfold d66
  exact (by
  cases h : Nat.beq f 323
  · exact bodyA_e
  · have h := Nat.eq_of_beq_eq_true h; subst h; exact nat_trim.rf_e n a H)
noncomputable def d67 (bd : B3) (call : FuncId → List V → Heap → Option R) (n : Nat) (f : FuncId) (a : List V) (H : Heap) : Option R := (bif Nat.beq f 324 then slices_Clone_api_Nat_uint32.rf bd call n a H else bodyA C (fcall call) n f a H)
theorem d67_e (n : Nat) (f : FuncId) (a : List V) (H : Heap) : d67 @bdI (callA C n) n f a H = callA C (n + 1) f a H := by
  unfold d67
  exact (by
  cases h : Nat.beq f 324
  · exact bodyA_e
  · have h := Nat.eq_of_beq_eq_true h; subst h; exact slices_Clone_api_Nat_uint32.rf_e n a H)
noncomputable def d68 (bd : B3) (call : FuncId → List V → Heap → Option R) (n : Nat) (f : FuncId) (a : List V) (H : Heap) : Option R := (bif Nat.beq f 325 then pred_square.rf bd call n a H else bodyA C (fcall call) n f a H)
theorem d68_e (n : Nat) (f : FuncId) (a : List V) (H : Heap) : d68 @bdI (callA C n) n f a H = callA C (n + 1) f a H := by
  unfold d68
  exact (by
  cases h : Nat.beq f 325
  · exact bodyA_e
  · have h := Nat.eq_of_beq_eq_true h; subst h; exact pred_square.rf_e n a H)
noncomputable def d69 (bd : B3) (call : FuncId → List V → Heap → Option R) (n : Nat) (f : FuncId) (a : List V) (H : Heap) : Option R := (bif Nat.ble f 324 then d67 bd call n f a H else d68 bd call n f a H)
theorem d69_e (n : Nat) (f : FuncId) (a : List V) (H : Heap) : d69 @bdI (callA C n) n f a H = callA C (n + 1) f a H := by
  unfold d69
  exact (by
  cases h : Nat.ble f 324
  · exact d68_e n f a H
  · exact d67_e n f a H)
noncomputable def d70 (bd : B3) (call : FuncId → List V → Heap → Option R) (n : Nat) (f : FuncId) (a : List V) (H : Heap) : Option R := (bif Nat.ble f 323 then d66 bd call n f a H else d69 bd call n f a H)
theorem d70_e (n : Nat) (f : FuncId) (a : List V) (H : Heap) : d70 @bdI (callA C n) n f a H = callA C (n + 1) f a H := by
  unfold d70
  exact (by
  cases h : Nat.ble f 323
  · exact d69_e n f a H
  · exact d66_e n f a H)
noncomputable def d71 (bd : B3) (call : FuncId → List V → Heap → Option R) (n : Nat) (f : FuncId) (a : List V) (H : Heap) : Option R := (bif Nat.beq f 326 then nat_Bits.rf bd call n a H else bodyA C (fcall call) n f a H)
theorem d71_e (n : Nat) (f : FuncId) (a : List V) (H : Heap) : d71 @bdI (callA C n) n f a H = callA C (n + 1) f a H := by
  unfold d71
  exact (by
  cases h : Nat.beq f 326
  · exact bodyA_e
  · have h := Nat.eq_of_beq_eq_true h; subst h; exact nat_Bits.rf_e n a H)
noncomputable def d72 (bd : B3) (call : FuncId → List V → Heap → Option R) (n : Nat) (f : FuncId) (a : List V) (H : Heap) : Option R := (bif Nat.beq f 327 then nat_cmp.rf bd call n a H else bodyA C (fcall call) n f a H)
theorem d72_e (n : Nat) (f : FuncId) (a : List V) (H : Heap) : d72 @bdI (callA C n) n f a H = callA C (n + 1) f a H := by
  unfold d72
  exact (by
  cases h : Nat.beq f 327
  · exact bodyA_e
  · have h := Nat.eq_of_beq_eq_true h; subst h; exact nat_cmp.rf_e n a H)
noncomputable def d73 (bd : B3) (call : FuncId → List V → Heap → Option R) (n : Nat) (f : FuncId) (a : List V) (H : Heap) : Option R := (bif Nat.beq f 328 then quad_Sign.rf bd call n a H else bodyA C (fcall call) n f a H)
theorem d73_e (n : Nat) (f : FuncId) (a : List V) (H : Heap) : d73 @bdI (callA C n) n f a H = callA C (n + 1) f a H := by
  unfold d73
  exact (by
  cases h : Nat.beq f 328
  · exact bodyA_e
  · have h := Nat.eq_of_beq_eq_true h; subst h; exact quad_Sign.rf_e n a H)
noncomputable def d74 (bd : B3) (call : FuncId → List V → Heap → Option R) (n : Nat) (f : FuncId) (a : List V) (H : Heap) : Option R := (bif Nat.ble f 327 then d72 bd call n f a H else d73 bd call n f a H)
theorem d74_e (n : Nat) (f : FuncId) (a : List V) (H : Heap) : d74 @bdI (callA C n) n f a H = callA C (n + 1) f a H := by
  unfold d74
  exact (by
  cases h : Nat.ble f 327
  · exact d73_e n f a H
  · exact d72_e n f a H)
noncomputable def d75 (bd : B3) (call : FuncId → List V → Heap → Option R) (n : Nat) (f : FuncId) (a : List V) (H : Heap) : Option R := (bif Nat.ble f 326 then d71 bd call n f a H else d74 bd call n f a H)
theorem d75_e (n : Nat) (f : FuncId) (a : List V) (H : Heap) : d75 @bdI (callA C n) n f a H = callA C (n + 1) f a H := by
  unfold d75
  exact (by
  cases h : Nat.ble f 326
  · exact d74_e n f a H
  · exact d71_e n f a H)
noncomputable def d76 (bd : B3) (call : FuncId → List V → Heap → Option R) (n : Nat) (f : FuncId) (a : List V) (H : Heap) : Option R := (bif Nat.ble f 325 then d70 bd call n f a H else d75 bd call n f a H)
theorem d76_e (n : Nat) (f : FuncId) (a : List V) (H : Heap) : d76 @bdI (callA C n) n f a H = callA C (n + 1) f a H := by
  unfold d76
  exact (by
  cases h : Nat.ble f 325
  · exact d75_e n f a H
  · exact d70_e n f a H)
noncomputable def d77 (bd : B3) (call : FuncId → List V → Heap → Option R) (n : Nat) (f : FuncId) (a : List V) (H : Heap) : Option R := (bif Nat.beq f 330 then quad_of.rf bd call n a H else bodyA C (fcall call) n f a H)
theorem d77_e (n : Nat) (f : FuncId) (a : List V) (H : Heap) : d77 @bdI (callA C n) n f a H = callA C (n + 1) f a H := by
  unfold d77
  exact (by
  cases h : Nat.beq f 330
  · exact bodyA_e
  · have h := Nat.eq_of_beq_eq_true h; subst h; exact quad_of.rf_e n a H)
noncomputable def d78 (bd : B3) (call : FuncId → List V → Heap → Option R) (n : Nat) (f : FuncId) (a : List V) (H : Heap) : Option R := (bif Nat.beq f 331 then quad_apart.rf bd call n a H else bodyA C (fcall call) n f a H)
theorem d78_e (n : Nat) (f : FuncId) (a : List V) (H : Heap) : d78 @bdI (callA C n) n f a H = callA C (n + 1) f a H := by
  unfold d78
  exact (by
  cases h : Nat.beq f 331
  · exact bodyA_e
  · have h := Nat.eq_of_beq_eq_true h; subst h; exact quad_apart.rf_e n a H)
noncomputable def d79 (bd : B3) (call : FuncId → List V → Heap → Option R) (n : Nat) (f : FuncId) (a : List V) (H : Heap) : Option R := (bif Nat.beq f 333 then wide_sign.rf bd call n a H else bodyA C (fcall call) n f a H)
theorem d79_e (n : Nat) (f : FuncId) (a : List V) (H : Heap) : d79 @bdI (callA C n) n f a H = callA C (n + 1) f a H := by
  unfold d79
  exact (by
  cases h : Nat.beq f 333
  · exact bodyA_e
  · have h := Nat.eq_of_beq_eq_true h; subst h; exact wide_sign.rf_e n a H)
noncomputable def d80 (bd : B3) (call : FuncId → List V → Heap → Option R) (n : Nat) (f : FuncId) (a : List V) (H : Heap) : Option R := (bif Nat.ble f 331 then d78 bd call n f a H else d79 bd call n f a H)
theorem d80_e (n : Nat) (f : FuncId) (a : List V) (H : Heap) : d80 @bdI (callA C n) n f a H = callA C (n + 1) f a H := by
  unfold d80
  exact (by
  cases h : Nat.ble f 331
  · exact d79_e n f a H
  · exact d78_e n f a H)
noncomputable def d81 (bd : B3) (call : FuncId → List V → Heap → Option R) (n : Nat) (f : FuncId) (a : List V) (H : Heap) : Option R := (bif Nat.ble f 330 then d77 bd call n f a H else d80 bd call n f a H)
theorem d81_e (n : Nat) (f : FuncId) (a : List V) (H : Heap) : d81 @bdI (callA C n) n f a H = callA C (n + 1) f a H := by
  unfold d81
  exact (by
  cases h : Nat.ble f 330
  · exact d80_e n f a H
  · exact d77_e n f a H)
noncomputable def d82 (bd : B3) (call : FuncId → List V → Heap → Option R) (n : Nat) (f : FuncId) (a : List V) (H : Heap) : Option R := (bif Nat.beq f 363 then wide_sub.rf bd call n a H else bodyA C (fcall call) n f a H)
theorem d82_e (n : Nat) (f : FuncId) (a : List V) (H : Heap) : d82 @bdI (callA C n) n f a H = callA C (n + 1) f a H := by
  unfold d82
  exact (by
  cases h : Nat.beq f 363
  · exact bodyA_e
  · have h := Nat.eq_of_beq_eq_true h; subst h; exact wide_sub.rf_e n a H)
noncomputable def d83 (bd : B3) (call : FuncId → List V → Heap → Option R) (n : Nat) (f : FuncId) (a : List V) (H : Heap) : Option R := (bif Nat.beq f 364 then nat_size.rf bd call n a H else bodyA C (fcall call) n f a H)
theorem d83_e (n : Nat) (f : FuncId) (a : List V) (H : Heap) : d83 @bdI (callA C n) n f a H = callA C (n + 1) f a H := by
  unfold d83
  exact (by
  cases h : Nat.beq f 364
  · exact bodyA_e
  · have h := Nat.eq_of_beq_eq_true h; subst h; exact nat_size.rf_e n a H)
noncomputable def d84 (bd : B3) (call : FuncId → List V → Heap → Option R) (n : Nat) (f : FuncId) (a : List V) (H : Heap) : Option R := (bif Nat.beq f 365 then quad_below.rf bd call n a H else bodyA C (fcall call) n f a H)
theorem d84_e (n : Nat) (f : FuncId) (a : List V) (H : Heap) : d84 @bdI (callA C n) n f a H = callA C (n + 1) f a H := by
  unfold d84
  exact (by
  cases h : Nat.beq f 365
  · exact bodyA_e
  · have h := Nat.eq_of_beq_eq_true h; subst h; exact quad_below.rf_e n a H)
noncomputable def d85 (bd : B3) (call : FuncId → List V → Heap → Option R) (n : Nat) (f : FuncId) (a : List V) (H : Heap) : Option R := (bif Nat.ble f 364 then d83 bd call n f a H else d84 bd call n f a H)
theorem d85_e (n : Nat) (f : FuncId) (a : List V) (H : Heap) : d85 @bdI (callA C n) n f a H = callA C (n + 1) f a H := by
  unfold d85
  exact (by
  cases h : Nat.ble f 364
  · exact d84_e n f a H
  · exact d83_e n f a H)
noncomputable def d86 (bd : B3) (call : FuncId → List V → Heap → Option R) (n : Nat) (f : FuncId) (a : List V) (H : Heap) : Option R := (bif Nat.ble f 363 then d82 bd call n f a H else d85 bd call n f a H)
theorem d86_e (n : Nat) (f : FuncId) (a : List V) (H : Heap) : d86 @bdI (callA C n) n f a H = callA C (n + 1) f a H := by
  unfold d86
  exact (by
  cases h : Nat.ble f 363
  · exact d85_e n f a H
  · exact d82_e n f a H)
noncomputable def d87 (bd : B3) (call : FuncId → List V → Heap → Option R) (n : Nat) (f : FuncId) (a : List V) (H : Heap) : Option R := (bif Nat.ble f 333 then d81 bd call n f a H else d86 bd call n f a H)
theorem d87_e (n : Nat) (f : FuncId) (a : List V) (H : Heap) : d87 @bdI (callA C n) n f a H = callA C (n + 1) f a H := by
  unfold d87
  exact (by
  cases h : Nat.ble f 333
  · exact d86_e n f a H
  · exact d81_e n f a H)
noncomputable def d88 (bd : B3) (call : FuncId → List V → Heap → Option R) (n : Nat) (f : FuncId) (a : List V) (H : Heap) : Option R := (bif Nat.ble f 328 then d76 bd call n f a H else d87 bd call n f a H)
theorem d88_e (n : Nat) (f : FuncId) (a : List V) (H : Heap) : d88 @bdI (callA C n) n f a H = callA C (n + 1) f a H := by
  unfold d88
  exact (by
  cases h : Nat.ble f 328
  · exact d87_e n f a H
  · exact d76_e n f a H)
noncomputable def d89 (bd : B3) (call : FuncId → List V → Heap → Option R) (n : Nat) (f : FuncId) (a : List V) (H : Heap) : Option R := (bif Nat.ble f 322 then d65 bd call n f a H else d88 bd call n f a H)
theorem d89_e (n : Nat) (f : FuncId) (a : List V) (H : Heap) : d89 @bdI (callA C n) n f a H = callA C (n + 1) f a H := by
  unfold d89
  exact (by
  cases h : Nat.ble f 322
  · exact d88_e n f a H
  · exact d65_e n f a H)
noncomputable def d90 (bd : B3) (call : FuncId → List V → Heap → Option R) (n : Nat) (f : FuncId) (a : List V) (H : Heap) : Option R := (bif Nat.ble f 270 then d44 bd call n f a H else d89 bd call n f a H)
theorem d90_e (n : Nat) (f : FuncId) (a : List V) (H : Heap) : d90 @bdI (callA C n) n f a H = callA C (n + 1) f a H := by
  unfold d90
  exact (by
  cases h : Nat.ble f 270
  · exact d89_e n f a H
  · exact d44_e n f a H)
noncomputable def ev (bd : B3) (n : Nat) : FuncId → List V → Heap → Option R := Nat.rec (motive := fun _ => FuncId → List V → Heap → Option R) (fun _ _ _ => none) (fun n ih => d90 bd ih n) n
theorem ev_e (n : Nat) : ev @bf n = callA C n := by
  rw [bf_is]
  induction n with
  | zero => funext f a H; unfold callA; rfl
  | succ n ih => funext f a H; exact (congrArg (fun c => d90 @bdI c n f a H) ih).trans (d90_e n f a H)
end Go.AM.S
end
section
set_option linter.unusedVariables false
set_option linter.unusedSimpArgs false
set_option maxRecDepth 1000000
namespace Go.AM.S
def chkRun (r : Option R) (v : V) : Bool := match r with
  | some p => V.beq p.1 v
  | none => false
theorem chkRun_is {c : Option R} {v : V} (h : chkRun c v = true) : ∃ H1, c = some (v, H1) := by
  unfold chkRun at h
  split at h
  · rename_i p
    exact ⟨p.2, by rw [← V.beq_eq h]⟩
  · cases h
theorem tab_0 : ((tab.drop 0).take 6).all (fun q => chkRun (ev @bf 100 163 q.1 ⟨0, .nil⟩) q.2) = true := by kernel_rfl
theorem tab_1 : ((tab.drop 6).take 6).all (fun q => chkRun (ev @bf 100 163 q.1 ⟨0, .nil⟩) q.2) = true := by kernel_rfl
theorem tab_2 : ((tab.drop 12).take 6).all (fun q => chkRun (ev @bf 100 163 q.1 ⟨0, .nil⟩) q.2) = true := by kernel_rfl
theorem tab_all : tab.all (fun q => chkRun (ev @bf 100 163 q.1 ⟨0, .nil⟩) q.2) = true := by
  have e : tab = (tab.drop 0).take 6 ++ (tab.drop 6).take 6 ++ (tab.drop 12).take 6 := by rfl
  rw [e]; simp only [List.all_append, tab_0, tab_1, tab_2, Bool.and_self]
theorem tab_free : tab.all (fun q => V.frees q.1 && q.2.free) = true := by kernel_rfl
theorem tab_ext : ExtSound C.P 163 (extP tab) := by
  refine extPure (C0 := C) ok (fun q hq => ?_)
  have h1 := List.all_eq_true.1 tab_all q hq
  have h2 := List.all_eq_true.1 tab_free q hq
  simp only [Bool.and_eq_true] at h2
  obtain ⟨H1, h⟩ := chkRun_is h1
  exact ⟨h2.1, h2.2, 100, H1, by rw [← ev_e]; exact h⟩
end Go.AM.S
end
section
set_option linter.unusedVariables false
set_option linter.unusedSimpArgs false
set_option maxRecDepth 1000000
namespace Go.AM.L
theorem fns1_0 : tabList0.all (fun p => okFun P p.1) = true := by kernel_rfl
theorem fns1_1 : tabList1.all (fun p => okFun P p.1) = true := by kernel_rfl
theorem fns1_2 : tabList2.all (fun p => okFun P p.1) = true := by kernel_rfl
theorem fns1_3 : tabList3.all (fun p => okFun P p.1) = true := by kernel_rfl
theorem fns1_4 : tabList4.all (fun p => okFun P p.1) = true := by kernel_rfl
theorem fns1_5 : tabList5.all (fun p => okFun P p.1) = true := by kernel_rfl
theorem fns1_6 : tabList6.all (fun p => okFun P p.1) = true := by kernel_rfl
theorem fns1_7 : tabList7.all (fun p => okFun P p.1) = true := by kernel_rfl
theorem fns1 : tabList.all (fun p => okFun P p.1) = true := by simp only [tabList, List.all_append, fns1_0, fns1_1, fns1_2, fns1_3, fns1_4, fns1_5, fns1_6, fns1_7, Bool.and_self]
theorem fns : ∀ f tab, C.tabs f = some tab → okFun C.P f = true := fun f tab h => List.all_eq_true.1 fns1 (f, tab) (look_mem h)
set_option maxHeartbeats 8000000 in
theorem exts : ∀ p ∈ extList, ExtSound C.P p.1 p.2 ∧ ExtFrame p.2 := by
  intro p hp
  simp only [extList, List.mem_cons, List.not_mem_nil, or_false] at hp
  rcases hp with rfl | rfl | rfl
  · exact ⟨Go.AM.S.tab_ext, extP_frame _⟩
  · exact ⟨xs_add64 (Go.Proofs.Tryz.func318) (by kernel_rfl) (by kernel_rfl) (by kernel_rfl) (by kernel_rfl), extAdd64_frame⟩
  · exact ⟨xs_sub64 (Go.Proofs.Tryz.func367) (by kernel_rfl) (by kernel_rfl) (by kernel_rfl) (by kernel_rfl), extSub64_frame⟩
theorem mixed : C.P.follows .mixedOrders = true := (show P.follows .mixedOrders = true from seat_mixed)
theorem ext_mem {f : Nat} {g : List V → Heap → Option R} (h : C.ext f = some g) : (f, g) ∈ extList := look_mem (l := extList) (show extList.lookup f = some g from h)
theorem ok : C.Ok := { mixed := mixed, fns := fns, ext := fun f g h => exts (f, g) (ext_mem h), okc := fun _ _ h => h }
end Go.AM.L
end
