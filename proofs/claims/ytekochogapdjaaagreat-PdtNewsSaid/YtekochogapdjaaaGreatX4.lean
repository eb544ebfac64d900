/- Merged by program from: NvLR2 NvLR3 NvLR4 NvLR5 NvLR6 NvLO. -/
import Derived.Test.YtekochogapdjaaaGreatX3
section
set_option linter.unusedVariables false
set_option linter.unusedSimpArgs false
set_option maxRecDepth 1000000
set_option linter.unusedVariables false
namespace Go.AM.L
noncomputable def circum_Small.r (bd : B3) (call : FuncId → List V → Heap → Option R) (n : Nat) (v0 v1 v2 v3 : V) (H : Heap) : Option R :=
 (bd (boxA ty_api_Point v0) fun o1 =>
 (bd (boxA ty_api_Point v1) fun o2 =>
 (bd (boxA ty_api_Point v2) fun o3 =>
 (bd (arA .lss v3 (.int .i64 1)) fun t11_4 =>
 (bd (asB t11_4) fun b5 =>
 if b5 = true then
 (some ((.bool false), (((H.push o1).push o2).push o3)))
 else
 (bd (arA .gtr v3 (.int .i64 17179869184)) fun t14_6 =>
 (bd (asB t14_6) fun b7 =>
 if b7 = true then
 (some ((.bool false), (((H.push o1).push o2).push o3)))
 else
 (bd (ldN 2 (.ptr (some (H.n, 0))) (((H.push o1).push o2).push o3)) fun t17_8 =>
 (bd (call 109 [t17_8] (((H.push o1).push o2).push o3)) fun r9 =>
 (bd (unA .not r9.1) fun t19_10 =>
 (bd (asB t19_10) fun b11 =>
 if b11 = true then
 (some ((.bool false), r9.2))
 else
 (bd (ldN 2 (.ptr (some (H.n, 0))) r9.2) fun t22_12 =>
 (bd (ldN 2 (.ptr (some ((H.push o1).n, 0))) r9.2) fun t23_13 =>
 (bd (ldN 2 (.ptr (some (((H.push o1).push o2).n, 0))) r9.2) fun t24_14 =>
 (bd (call 110 [t22_12, t23_13, t24_14] r9.2) fun r15 =>
 (bd (unA .not r15.1) fun t26_16 =>
 (bd (asB t26_16) fun b17 =>
 if b17 = true then
 (some ((.bool false), r15.2))
 else
 (bd (call 112 [(.int .i64 4)] (r15.2.more 1)) fun r18 =>
 (bd (ldN 2 (.ptr (some (H.n, 0))) r18.2) fun t29_19 =>
 (bd (chk (ldN 2 (.ptr (some (H.n, 0))) (r15.2.more 1)) t29_19) fun _ =>
 (bd (ldN 2 (.ptr (some ((H.push o1).n, 0))) r18.2) fun t30_20 =>
 (bd (chk (ldN 2 (.ptr (some ((H.push o1).n, 0))) (r15.2.more 1)) t30_20) fun _ =>
 (bd (ldN 2 (.ptr (some (((H.push o1).push o2).n, 0))) r18.2) fun t31_21 =>
 (bd (chk (ldN 2 (.ptr (some (((H.push o1).push o2).n, 0))) (r15.2.more 1)) t31_21) fun _ =>
 (bd (call 113 [t29_19, t30_20, t31_21] r18.2) fun r22 =>
 (bd (call 111 [r18.1, r22.1] r22.2) fun r23 =>
 (bd (stA 2 (.ptr (some ((r15.2.n + 0), 0))) r23.1 (r23.2.set (r15.2.n + 0) (.cells [(.bool false), (.slice ⟨none, 0, 0, false⟩)] ty_api_Int false))) fun H24 =>
 (bd (call 116 [v3, v3] (H24.more 0)) fun r25 =>
 (bd (call 115 [r25.1] r25.2) fun r26 =>
 (bd (ldN 2 (.ptr (some (H.n, 0))) r26.2) fun t39_27 =>
 (bd (chk (ldN 2 (.ptr (some (H.n, 0))) r25.2) t39_27) fun _ =>
 (bd (chk (ldN 2 (.ptr (some (H.n, 0))) (H24.more 0)) t39_27) fun _ =>
 (bd (ldN 2 (.ptr (some ((H.push o1).n, 0))) r26.2) fun t40_28 =>
 (bd (chk (ldN 2 (.ptr (some ((H.push o1).n, 0))) r25.2) t40_28) fun _ =>
 (bd (chk (ldN 2 (.ptr (some ((H.push o1).n, 0))) (H24.more 0)) t40_28) fun _ =>
 (bd (ldN 2 (.ptr (some (((H.push o1).push o2).n, 0))) r26.2) fun t41_29 =>
 (bd (chk (ldN 2 (.ptr (some (((H.push o1).push o2).n, 0))) r25.2) t41_29) fun _ =>
 (bd (chk (ldN 2 (.ptr (some (((H.push o1).push o2).n, 0))) (H24.more 0)) t41_29) fun _ =>
 (bd (call 117 [t39_27, t40_28, t41_29] r26.2) fun r30 =>
 (bd (call 111 [r26.1, r30.1] r30.2) fun r31 =>
 (bd (ldN 2 (.ptr (some ((r15.2.n + 0), 0))) r31.2) fun t34_32 =>
 (bd (chk (ldN 2 (.ptr (some ((r15.2.n + 0), 0))) r30.2) t34_32) fun _ =>
 (bd (chk (ldN 2 (.ptr (some ((r15.2.n + 0), 0))) r26.2) t34_32) fun _ =>
 (bd (chk (ldN 2 (.ptr (some ((r15.2.n + 0), 0))) r25.2) t34_32) fun _ =>
 (bd (chk (ldN 2 (.ptr (some ((r15.2.n + 0), 0))) (H24.more 0)) t34_32) fun _ =>
 (bd (call 114 [t34_32, r31.1] r31.2) fun r33 =>
 (bd (arA .lss r33.1 (.int .i64 0)) fun t45_34 =>
 (some (t45_34, r33.2)))))))))))))))))))))))))))))))))))))))))))))))))
theorem circum_Small.r_e (n : Nat) (v0 v1 v2 v3 : V) (H : Heap) : circum_Small.r @bdI (callA C n) n v0 v1 v2 v3 H = E C n 65 [] (argsA 0 [v0, v1, v2, v3]) H (kR C 65) := by
  unfold circum_Small.r
  kernel_rfl
noncomputable def circum_Small.rf (bd : B3) (call : FuncId → List V → Heap → Option R) (n : Nat) (a : List V) (H : Heap) : Option R := pureA a H fun a => (match a with | [v0, v1, v2, v3] => circum_Small.r bd call n v0 v1 v2 v3 ⟨0, .nil⟩ | a => E C n 65 [] (argsA 0 a) ⟨0, .nil⟩ (kR C 65))
theorem circum_Small.rf_b (n : Nat) (a : List V) (H : Heap) : (match a with | [v0, v1, v2, v3] => circum_Small.r @bdI (callA C n) n v0 v1 v2 v3 H | a => E C n 65 [] (argsA 0 a) H (kR C 65)) = E C n 65 [] (argsA 0 a) H (kR C 65) := by
  split
  · exact circum_Small.r_e n _ _ _ _ H
  · rfl
theorem circum_Small.rf_e (n : Nat) (a : List V) (H : Heap) : circum_Small.rf @bdI (callA C n) n a H = callA C (n + 1) 65 a H := by
  unfold circum_Small.rf
  refine (congrArg (pureA a H) (funext fun a => circum_Small.rf_b n a ⟨0, .nil⟩)).trans ?_
  kernel_rfl
@[irreducible] noncomputable def cover_sheets.l0 (n m0 : Nat) (v0 v4 : V) (H : Heap) : Option R := Lp C n 66 [1, 0, 0] m0 [(0, v0), (4, v4)] H (kB 0 (kR C 66))
@[irreducible] noncomputable def cover_sheets.l1 (n m0 m1 : Nat) (v0 v2 v4 v7 : V) (H : Heap) : Option R := Lp C n 66 [1, 0, 0, 1, 1, 0, 0, 1, 1, 0, 0] m1 [(0, v0), (2, v2), (4, v4), (7, v7)] H (kB 2 (kB 1 (kC C n 66 [1, 0, 0, 1, 1, 1] (kL C n 66 [1, 0, 0] m0 (kB 0 (kR C 66))))))
noncomputable def cover_sheets.r_l1 (bd : B3) (call : FuncId → List V → Heap → Option R) (n : Nat) (s0 : V → V → Heap → Option R) (s1 : V → V → V → V → Heap → Option R) (v0 v2 v4 v7 : V) (H : Heap) : Option R :=
 (bd (arA .lss v7 (.int .i64 3)) fun t8_1 =>
 (bd (asB t8_1) fun b2 =>
 if b2 = true then
 (bd (flA [(0, 1), (1, 1)] [(.int .i64 0), (.int .i64 0)] [(0, v2), (1, v7)]) fun t13_3 =>
 (bd (callV call v0 [t13_3] H) fun r4 =>
 (bd (unA .not r4.1) fun t15_5 =>
 (bd (asB t15_5) fun b6 =>
 if b6 = true then
 (some (.tuple [], r4.2))
 else
 (bd (arA .add v7 (.int .i64 1)) fun t16_7 =>
 (s1 v0 v2 v4 t16_7 r4.2))))))
 else
 (bd (arA .add v4 (.int .i64 1)) fun t17_8 =>
 (s0 v0 t17_8 H))))
theorem cover_sheets.r_l1_e (n m0 m1 : Nat) : cover_sheets.r_l1 @bdI (callA C n) n (cover_sheets.l0 n m0) (cover_sheets.l1 n m0 m1) = cover_sheets.l1 n m0 (m1 + 1) := by
  funext v0 v2 v4 v7 H
  unfold cover_sheets.r_l1
  kernel_rfl
noncomputable def cover_sheets.r_l1_lp (bd : B3) (call : FuncId → List V → Heap → Option R) (n : Nat) (s0 : V → V → Heap → Option R) (m : Nat) : V → V → V → V → Heap → Option R := Nat.rec (motive := fun _ => V → V → V → V → Heap → Option R) (fun _ _ _ _ _ => none) (fun _ self => cover_sheets.r_l1 bd call n s0 self) m
theorem cover_sheets.r_l1_lp_e (n m0 : Nat) : cover_sheets.r_l1_lp @bdI (callA C n) n (cover_sheets.l0 n m0) = cover_sheets.l1 n m0 := by
  funext m
  induction m with
  | zero => funext v0 v2 v4 v7 H; kernel_rfl
  | succ k ih => exact (congrArg (cover_sheets.r_l1 @bdI (callA C n) n (cover_sheets.l0 n m0)) ih).trans (cover_sheets.r_l1_e n m0 k)
noncomputable def cover_sheets.r_l0 (bd : B3) (call : FuncId → List V → Heap → Option R) (n : Nat) (s0 : V → V → Heap → Option R) (v0 v4 : V) (H : Heap) : Option R :=
 (bd (arA .lss v4 (.int .i64 3)) fun t5_1 =>
 (bd (asB t5_1) fun b2 =>
 if b2 = true then
 (cover_sheets.r_l1_lp bd call n s0 n v0 v4 v4 (.int .i64 0) H)
 else
 (some (.tuple [], H))))
theorem cover_sheets.r_l0_e (n m0 : Nat) : cover_sheets.r_l0 @bdI (callA C n) n (cover_sheets.l0 n m0) = cover_sheets.l0 n (m0 + 1) := by
  funext v0 v4 H
  unfold cover_sheets.r_l0
  rewrite [cover_sheets.r_l1_lp_e]
  kernel_rfl
noncomputable def cover_sheets.r_l0_lp (bd : B3) (call : FuncId → List V → Heap → Option R) (n : Nat) (m : Nat) : V → V → Heap → Option R := Nat.rec (motive := fun _ => V → V → Heap → Option R) (fun _ _ _ => none) (fun _ self => cover_sheets.r_l0 bd call n self) m
theorem cover_sheets.r_l0_lp_e (n : Nat) : cover_sheets.r_l0_lp @bdI (callA C n) n = cover_sheets.l0 n := by
  funext m
  induction m with
  | zero => funext v0 v4 H; kernel_rfl
  | succ k ih => exact (congrArg (cover_sheets.r_l0 @bdI (callA C n) n) ih).trans (cover_sheets.r_l0_e n k)
noncomputable def cover_sheets.r (bd : B3) (call : FuncId → List V → Heap → Option R) (n : Nat) (v0 : V) (H : Heap) : Option R :=
 (cover_sheets.r_l0_lp bd call n n v0 (.int .i64 0) H)
theorem cover_sheets.r_e (n : Nat) (v0 : V) (H : Heap) : cover_sheets.r @bdI (callA C n) n v0 H = E C n 66 [] (argsA 0 [v0]) H (kR C 66) := by
  unfold cover_sheets.r
  rewrite [cover_sheets.r_l0_lp_e]
  kernel_rfl
noncomputable def cover_sheets.rf (bd : B3) (call : FuncId → List V → Heap → Option R) (n : Nat) (a : List V) (H : Heap) : Option R := (match a with | [v0] => cover_sheets.r bd call n v0 H | a => E C n 66 [] (argsA 0 a) H (kR C 66))
theorem cover_sheets.rf_b (n : Nat) (a : List V) (H : Heap) : (match a with | [v0] => cover_sheets.r @bdI (callA C n) n v0 H | a => E C n 66 [] (argsA 0 a) H (kR C 66)) = E C n 66 [] (argsA 0 a) H (kR C 66) := by
  split
  · exact cover_sheets.r_e n _ H
  · rfl
theorem cover_sheets.rf_e (n : Nat) (a : List V) (H : Heap) : cover_sheets.rf @bdI (callA C n) n a H = callA C (n + 1) 66 a H := by
  unfold cover_sheets.rf
  refine (cover_sheets.rf_b n a H).trans ?_
  kernel_rfl
noncomputable def cover_corner.r (bd : B3) (call : FuncId → List V → Heap → Option R) (n : Nat) (v0 v1 : V) (H : Heap) : Option R :=
 (bd (boxA ty_api_Off v1) fun o1 =>
 (bd (faA 0 (.ptr (some (H.n, 0)))) fun t11_2 =>
 (bd (ld1 t11_2 ((H.push o1).push (.cells [(.int .i64 0), (.int .i64 0)] ty_api_Off false))) fun t12_3 =>
 (bd (call 118 [t12_3] ((H.push o1).push (.cells [(.int .i64 0), (.int .i64 0)] ty_api_Off false))) fun r4 =>
 (bd (extA r4.1 0) fun t14_5 =>
 (bd (extA r4.1 1) fun t15_6 =>
 (bd (faA 1 (.ptr (some (H.n, 0)))) fun t17_7 =>
 (bd (ld1 t17_7 r4.2) fun t18_8 =>
 (bd (call 118 [t18_8] r4.2) fun r9 =>
 (bd (extA r9.1 0) fun t20_10 =>
 (bd (extA r9.1 1) fun t21_11 =>
 (bd (arA .mul (.int .i64 9) v0) fun t23_12 =>
 (bd (arA .mul (.int .i64 3) t14_5) fun t25_13 =>
 (bd (arA .add t23_12 t25_13) fun t26_14 =>
 (bd (arA .add t26_14 t20_10) fun t28_15 =>
 (bd (flA [(0, 1), (1, 1)] [(.int .i64 0), (.int .i64 0)] [(0, t15_6), (1, t21_11)]) fun t31_16 =>
 (bd (stA 2 (.ptr (some ((H.push o1).n, 0))) t31_16 r9.2) fun H17 =>
 (bd (ldN 2 (.ptr (some ((H.push o1).n, 0))) H17) fun t18 =>
 (some (.tuple [t28_15, t18], H17))))))))))))))))))))
theorem cover_corner.r_e (n : Nat) (v0 v1 : V) (H : Heap) : cover_corner.r @bdI (callA C n) n v0 v1 H = E C n 67 [] (argsA 0 [v0, v1]) H (kR C 67) := by
  unfold cover_corner.r
  kernel_rfl
noncomputable def cover_corner.rf (bd : B3) (call : FuncId → List V → Heap → Option R) (n : Nat) (a : List V) (H : Heap) : Option R := pureA a H fun a => (match a with | [v0, v1] => cover_corner.r bd call n v0 v1 ⟨0, .nil⟩ | a => E C n 67 [] (argsA 0 a) ⟨0, .nil⟩ (kR C 67))
theorem cover_corner.rf_b (n : Nat) (a : List V) (H : Heap) : (match a with | [v0, v1] => cover_corner.r @bdI (callA C n) n v0 v1 H | a => E C n 67 [] (argsA 0 a) H (kR C 67)) = E C n 67 [] (argsA 0 a) H (kR C 67) := by
  split
  · exact cover_corner.r_e n _ _ H
  · rfl
theorem cover_corner.rf_e (n : Nat) (a : List V) (H : Heap) : cover_corner.rf @bdI (callA C n) n a H = callA C (n + 1) 67 a H := by
  unfold cover_corner.rf
  refine (congrArg (pureA a H) (funext fun a => cover_corner.rf_b n a ⟨0, .nil⟩)).trans ?_
  kernel_rfl
noncomputable def lift_Sum.r (bd : B3) (call : FuncId → List V → Heap → Option R) (n : Nat) (v0 v1 : V) (H : Heap) : Option R :=
 (bd (boxA ty_api_Off v0) fun o1 =>
 (bd (boxA ty_api_Off v1) fun o2 =>
 (bd (faA 0 (.ptr (some (H.n, 0)))) fun t5_3 =>
 (bd (ld1 t5_3 (((H.push o1).push o2).push (.cells [(.int .i64 0), (.int .i64 0)] ty_api_Off false))) fun t6_4 =>
 (bd (faA 0 (.ptr (some ((H.push o1).n, 0)))) fun t7_5 =>
 (bd (ld1 t7_5 (((H.push o1).push o2).push (.cells [(.int .i64 0), (.int .i64 0)] ty_api_Off false))) fun t8_6 =>
 (bd (arA .add t6_4 t8_6) fun t9_7 =>
 (bd (faA 1 (.ptr (some (H.n, 0)))) fun t10_8 =>
 (bd (ld1 t10_8 (((H.push o1).push o2).push (.cells [(.int .i64 0), (.int .i64 0)] ty_api_Off false))) fun t11_9 =>
 (bd (faA 1 (.ptr (some ((H.push o1).n, 0)))) fun t12_10 =>
 (bd (ld1 t12_10 (((H.push o1).push o2).push (.cells [(.int .i64 0), (.int .i64 0)] ty_api_Off false))) fun t13_11 =>
 (bd (arA .add t11_9 t13_11) fun t14_12 =>
 (bd (flA [(0, 1), (1, 1)] [(.int .i64 0), (.int .i64 0)] [(0, t9_7), (1, t14_12)]) fun t15_13 =>
 (bd (stA 2 (.ptr (some (((H.push o1).push o2).n, 0))) t15_13 (((H.push o1).push o2).push (.cells [(.int .i64 0), (.int .i64 0)] ty_api_Off false))) fun H14 =>
 (bd (ldN 2 (.ptr (some (((H.push o1).push o2).n, 0))) H14) fun t15 =>
 (some (t15, H14)))))))))))))))))
theorem lift_Sum.r_e (n : Nat) (v0 v1 : V) (H : Heap) : lift_Sum.r @bdI (callA C n) n v0 v1 H = E C n 68 [] (argsA 0 [v0, v1]) H (kR C 68) := by
  unfold lift_Sum.r
  kernel_rfl
noncomputable def lift_Sum.rf (bd : B3) (call : FuncId → List V → Heap → Option R) (n : Nat) (a : List V) (H : Heap) : Option R := pureA a H fun a => (match a with | [v0, v1] => lift_Sum.r bd call n v0 v1 ⟨0, .nil⟩ | a => E C n 68 [] (argsA 0 a) ⟨0, .nil⟩ (kR C 68))
theorem lift_Sum.rf_b (n : Nat) (a : List V) (H : Heap) : (match a with | [v0, v1] => lift_Sum.r @bdI (callA C n) n v0 v1 H | a => E C n 68 [] (argsA 0 a) H (kR C 68)) = E C n 68 [] (argsA 0 a) H (kR C 68) := by
  split
  · exact lift_Sum.r_e n _ _ H
  · rfl
theorem lift_Sum.rf_e (n : Nat) (a : List V) (H : Heap) : lift_Sum.rf @bdI (callA C n) n a H = callA C (n + 1) 68 a H := by
  unfold lift_Sum.rf
  refine (congrArg (pureA a H) (funext fun a => lift_Sum.rf_b n a ⟨0, .nil⟩)).trans ?_
  kernel_rfl
noncomputable def arena_Arena_live.r (bd : B3) (call : FuncId → List V → Heap → Option R) (n : Nat) (v0 v1 : V) (H : Heap) : Option R :=
 (bd (eqlA P ty_p_arena_Arena v0 (.ptr none)) fun t8_1 =>
 (bd (asB t8_1) fun b2 =>
 if b2 = true then
 (some ((.bool false), H))
 else
 (bd (arA .lss v1 (.int .i64 0)) fun t11_3 =>
 (bd (asB t11_3) fun b4 =>
 if b4 = true then
 (some ((.bool false), H))
 else
 (bd (nilC v0) fun t16_5 =>
 (bd (faA 0 t16_5) fun t17_6 =>
 (bd (ld1 t17_6 H) fun t18_7 =>
 (bd (lenSl t18_7) fun t19_8 =>
 (bd (arA .geq v1 t19_8) fun t20_9 =>
 (bd (asB t20_9) fun b10 =>
 if b10 = true then
 (some ((.bool false), H))
 else
 (bd (nilC v0) fun t24_11 =>
 (bd (faA 0 t24_11) fun t25_12 =>
 (bd (ld1 t25_12 H) fun t26_13 =>
 (bd (idxS 1 t26_13 v1) fun t28_14 =>
 (bd (ld1 t28_14 H) fun t29_15 =>
 (bd (asOk ty_int (.int .i64 0) t29_15) fun t30_16 =>
 (bd (extA t30_16 0) fun t31_17 =>
 (bd (extA t30_16 1) fun t32_18 =>
 (bd (asB t32_18) fun b19 =>
 if b19 = true then
 (bd (arA .eql t31_17 (.int .i64 (-2))) fun t36_20 =>
 (some (t36_20, H)))
 else
 (some ((.bool false), H)))))))))))))))))))))
theorem arena_Arena_live.r_e (n : Nat) (v0 v1 : V) (H : Heap) : arena_Arena_live.r @bdI (callA C n) n v0 v1 H = E C n 72 [] (argsA 0 [v0, v1]) H (kR C 72) := by
  unfold arena_Arena_live.r
  kernel_rfl
noncomputable def arena_Arena_live.rf (bd : B3) (call : FuncId → List V → Heap → Option R) (n : Nat) (a : List V) (H : Heap) : Option R := (match a with | [v0, v1] => arena_Arena_live.r bd call n v0 v1 H | a => E C n 72 [] (argsA 0 a) H (kR C 72))
theorem arena_Arena_live.rf_b (n : Nat) (a : List V) (H : Heap) : (match a with | [v0, v1] => arena_Arena_live.r @bdI (callA C n) n v0 v1 H | a => E C n 72 [] (argsA 0 a) H (kR C 72)) = E C n 72 [] (argsA 0 a) H (kR C 72) := by
  split
  · exact arena_Arena_live.r_e n _ _ H
  · rfl
theorem arena_Arena_live.rf_e (n : Nat) (a : List V) (H : Heap) : arena_Arena_live.rf @bdI (callA C n) n a H = callA C (n + 1) 72 a H := by
  unfold arena_Arena_live.rf
  refine (arena_Arena_live.rf_b n a H).trans ?_
  kernel_rfl
noncomputable def bucket_Grid_cell.r (bd : B3) (call : FuncId → List V → Heap → Option R) (n : Nat) (v0 v1 : V) (H : Heap) : Option R :=
 (bd (boxA ty_api_Point v1) fun o1 =>
 (bd (eqlA P ty_p_bucket_Grid v0 (.ptr none)) fun t11_2 =>
 (bd (asB t11_2) fun b3 =>
 if b3 = true then
 (some (.tuple [(.int .i64 (-1)), (.int .i64 (-1)), (.bool false)], (H.push o1)))
 else
 (bd (ldN 2 (.ptr (some (H.n, 0))) ((H.push o1).more 2)) fun t13_4 =>
 (bd (nilC v0) fun t15_5 =>
 (bd (faA 0 t15_5) fun t16_6 =>
 (bd (ld1 t16_6 ((H.push o1).more 2)) fun t17_7 =>
 (bd (call 92 [t13_4, t17_7] ((H.push o1).more 2)) fun r8 =>
 (bd (extA r8.1 0) fun t19_9 =>
 (bd (stA 2 (.ptr (some (((H.push o1).n + 0), 0))) t19_9 ((r8.2.set ((H.push o1).n + 0) (.cells [(.int .i64 0), (.int .i64 0)] ty_api_Point false)).set ((H.push o1).n + 1) (.cells [(.int .i64 0), (.int .i64 0)] ty_api_Off false))) fun H10 =>
 (bd (extA r8.1 1) fun t20_11 =>
 (bd (stA 2 (.ptr (some (((H.push o1).n + 1), 0))) t20_11 H10) fun H12 =>
 (bd (extA r8.1 2) fun t21_13 =>
 (bd (unA .not t21_13) fun t23_14 =>
 (bd (asB t23_14) fun b15 =>
 if b15 = true then
 (some (.tuple [(.int .i64 (-1)), (.int .i64 (-1)), (.bool false)], H12))
 else
 (bd (faA 0 (.ptr (some (((H.push o1).n + 0), 0)))) fun t24_16 =>
 (bd (ld1 t24_16 (H12.more 0)) fun t25_17 =>
 (bd (nilC v0) fun t27_18 =>
 (bd (faA 1 t27_18) fun t28_19 =>
 (bd (ld1 t28_19 (H12.more 0)) fun t29_20 =>
 (bd (arA .mul t25_17 t29_20) fun t30_21 =>
 (bd (nilC v0) fun t32_22 =>
 (bd (faA 0 t32_22) fun t33_23 =>
 (bd (ld1 t33_23 (H12.more 0)) fun t34_24 =>
 (bd (arA .quo t30_21 t34_24) fun t35_25 =>
 (bd (faA 1 (.ptr (some (((H.push o1).n + 0), 0)))) fun t36_26 =>
 (bd (ld1 t36_26 (H12.more 0)) fun t37_27 =>
 (bd (nilC v0) fun t39_28 =>
 (bd (faA 1 t39_28) fun t40_29 =>
 (bd (ld1 t40_29 (H12.more 0)) fun t41_30 =>
 (bd (arA .mul t37_27 t41_30) fun t42_31 =>
 (bd (nilC v0) fun t44_32 =>
 (bd (faA 0 t44_32) fun t45_33 =>
 (bd (ld1 t45_33 (H12.more 0)) fun t46_34 =>
 (bd (arA .quo t42_31 t46_34) fun t47_35 =>
 (some (.tuple [t35_25, t47_35, (.bool true)], (H12.more 0))))))))))))))))))))))))))))))))))))))
theorem bucket_Grid_cell.r_e (n : Nat) (v0 v1 : V) (H : Heap) : bucket_Grid_cell.r @bdI (callA C n) n v0 v1 H = E C n 73 [] (argsA 0 [v0, v1]) H (kR C 73) := by
  unfold bucket_Grid_cell.r
  kernel_rfl
noncomputable def bucket_Grid_cell.rf (bd : B3) (call : FuncId → List V → Heap → Option R) (n : Nat) (a : List V) (H : Heap) : Option R := (match a with | [v0, v1] => bucket_Grid_cell.r bd call n v0 v1 H | a => E C n 73 [] (argsA 0 a) H (kR C 73))
theorem bucket_Grid_cell.rf_b (n : Nat) (a : List V) (H : Heap) : (match a with | [v0, v1] => bucket_Grid_cell.r @bdI (callA C n) n v0 v1 H | a => E C n 73 [] (argsA 0 a) H (kR C 73)) = E C n 73 [] (argsA 0 a) H (kR C 73) := by
  split
  · exact bucket_Grid_cell.r_e n _ _ H
  · rfl
theorem bucket_Grid_cell.rf_e (n : Nat) (a : List V) (H : Heap) : bucket_Grid_cell.rf @bdI (callA C n) n a H = callA C (n + 1) 73 a H := by
  unfold bucket_Grid_cell.rf
  refine (bucket_Grid_cell.rf_b n a H).trans ?_
  kernel_rfl
noncomputable def bucket_Grid_at.r (bd : B3) (call : FuncId → List V → Heap → Option R) (n : Nat) (v0 v1 v2 : V) (H : Heap) : Option R :=
 (bd (nilC v0) fun t9_1 =>
 (bd (faA 1 t9_1) fun t10_2 =>
 (bd (ld1 t10_2 H) fun t11_3 =>
 (bd (arA .add v1 t11_3) fun t14_4 =>
 (bd (arA .rem t14_4 t11_3) fun t16_5 =>
 (bd (arA .mul t16_5 t11_3) fun t18_6 =>
 (bd (arA .add v2 t11_3) fun t21_7 =>
 (bd (arA .rem t21_7 t11_3) fun t23_8 =>
 (bd (arA .add t18_6 t23_8) fun t24_9 =>
 (some (t24_9, (H.more 0))))))))))))
theorem bucket_Grid_at.r_e (n : Nat) (v0 v1 v2 : V) (H : Heap) : bucket_Grid_at.r @bdI (callA C n) n v0 v1 v2 H = E C n 74 [] (argsA 0 [v0, v1, v2]) H (kR C 74) := by
  unfold bucket_Grid_at.r
  kernel_rfl
noncomputable def bucket_Grid_at.rf (bd : B3) (call : FuncId → List V → Heap → Option R) (n : Nat) (a : List V) (H : Heap) : Option R := (match a with | [v0, v1, v2] => bucket_Grid_at.r bd call n v0 v1 v2 H | a => E C n 74 [] (argsA 0 a) H (kR C 74))
theorem bucket_Grid_at.rf_b (n : Nat) (a : List V) (H : Heap) : (match a with | [v0, v1, v2] => bucket_Grid_at.r @bdI (callA C n) n v0 v1 v2 H | a => E C n 74 [] (argsA 0 a) H (kR C 74)) = E C n 74 [] (argsA 0 a) H (kR C 74) := by
  split
  · exact bucket_Grid_at.r_e n _ _ _ H
  · rfl
theorem bucket_Grid_at.rf_e (n : Nat) (a : List V) (H : Heap) : bucket_Grid_at.rf @bdI (callA C n) n a H = callA C (n + 1) 74 a H := by
  unfold bucket_Grid_at.rf
  refine (bucket_Grid_at.rf_b n a H).trans ?_
  kernel_rfl
noncomputable def pdt_sheet_isBig.r (bd : B3) (call : FuncId → List V → Heap → Option R) (n : Nat) (v0 v1 : V) (H : Heap) : Option R :=
 (bd (nilC v0) fun t13_1 =>
 (bd (faA 0 t13_1) fun t14_2 =>
 (bd (ld1 t14_2 H) fun t15_3 =>
 (bd (call 123 [t15_3, v1, (.int .i64 0)] H) fun r4 =>
 (bd (extA r4.1 0) fun t18_5 =>
 (bd (extA r4.1 1) fun t19_6 =>
 (bd (stA 2 (.ptr (some (r4.2.n, 0))) t18_5 (r4.2.push (.cells [(.int .i64 0), (.int .i64 0)] ty_api_Point false))) fun H7 =>
 (bd (nilC v0) fun t22_8 =>
 (bd (faA 0 t22_8) fun t23_9 =>
 (bd (ld1 t23_9 H7) fun t24_10 =>
 (bd (call 123 [t24_10, v1, (.int .i64 1)] H7) fun r11 =>
 (bd (extA r11.1 0) fun t27_12 =>
 (bd (extA r11.1 1) fun t28_13 =>
 (bd (stA 2 (.ptr (some (r11.2.n, 0))) t27_12 (r11.2.push (.cells [(.int .i64 0), (.int .i64 0)] ty_api_Point false))) fun H14 =>
 (bd (nilC v0) fun t31_15 =>
 (bd (faA 0 t31_15) fun t32_16 =>
 (bd (ld1 t32_16 H14) fun t33_17 =>
 (bd (call 123 [t33_17, v1, (.int .i64 2)] H14) fun r18 =>
 (bd (extA r18.1 0) fun t36_19 =>
 (bd (extA r18.1 1) fun t37_20 =>
 (bd (stA 2 (.ptr (some (r18.2.n, 0))) t36_19 (r18.2.push (.cells [(.int .i64 0), (.int .i64 0)] ty_api_Point false))) fun H21 =>
 (bd (unA .not t19_6) fun t39_22 =>
 (bd (asB t39_22) fun b23 =>
 if b23 = true then
 (some ((.bool true), (H21.more 0)))
 else
 (bd (unA .not t28_13) fun t42_24 =>
 (bd (asB t42_24) fun b25 =>
 if b25 = true then
 (some ((.bool true), (H21.more 0)))
 else
 (bd (unA .not t37_20) fun t46_26 =>
 (bd (asB t46_26) fun b27 =>
 if b27 = true then
 (some ((.bool true), (H21.more 0)))
 else
 (bd (ldN 2 (.ptr (some (r4.2.n, 0))) (H21.more 0)) fun t49_28 =>
 (bd (ldN 2 (.ptr (some (r11.2.n, 0))) (H21.more 0)) fun t50_29 =>
 (bd (ldN 2 (.ptr (some (r18.2.n, 0))) (H21.more 0)) fun t51_30 =>
 (bd (nilC v0) fun t53_31 =>
 (bd (faA 2 t53_31) fun t54_32 =>
 (bd (ld1 t54_32 (H21.more 0)) fun t55_33 =>
 (bd (call 65 [t49_28, t50_29, t51_30, t55_33] (H21.more 0)) fun r34 =>
 (bd (unA .not r34.1) fun t57_35 =>
 (some (t57_35, r34.2)))))))))))))))))))))))))))))))))))))
theorem pdt_sheet_isBig.r_e (n : Nat) (v0 v1 : V) (H : Heap) : pdt_sheet_isBig.r @bdI (callA C n) n v0 v1 H = E C n 75 [] (argsA 0 [v0, v1]) H (kR C 75) := by
  unfold pdt_sheet_isBig.r
  kernel_rfl
noncomputable def pdt_sheet_isBig.rf (bd : B3) (call : FuncId → List V → Heap → Option R) (n : Nat) (a : List V) (H : Heap) : Option R := (match a with | [v0, v1] => pdt_sheet_isBig.r bd call n v0 v1 H | a => E C n 75 [] (argsA 0 a) H (kR C 75))
theorem pdt_sheet_isBig.rf_b (n : Nat) (a : List V) (H : Heap) : (match a with | [v0, v1] => pdt_sheet_isBig.r @bdI (callA C n) n v0 v1 H | a => E C n 75 [] (argsA 0 a) H (kR C 75)) = E C n 75 [] (argsA 0 a) H (kR C 75) := by
  split
  · exact pdt_sheet_isBig.r_e n _ _ H
  · rfl
theorem pdt_sheet_isBig.rf_e (n : Nat) (a : List V) (H : Heap) : pdt_sheet_isBig.rf @bdI (callA C n) n a H = callA C (n + 1) 75 a H := by
  unfold pdt_sheet_isBig.rf
  refine (pdt_sheet_isBig.rf_b n a H).trans ?_
  kernel_rfl
noncomputable def arena_Arena_Take.r (bd : B3) (call : FuncId → List V → Heap → Option R) (n : Nat) (v0 : V) (H : Heap) : Option R :=
 (bd (eqlA P ty_p_arena_Arena v0 (.ptr none)) fun t5_1 =>
 (bd (asB t5_1) fun b2 =>
 if b2 = true then
 (some ((.int .i64 (-1)), H))
 else
 (bd (nilC v0) fun t7_3 =>
 (bd (faA 2 t7_3) fun t8_4 =>
 (bd (ld1 t8_4 H) fun t9_5 =>
 (bd (arA .add t9_5 (.int .i64 1)) fun t10_6 =>
 (bd (nilC v0) fun t11_7 =>
 (bd (faA 2 t11_7) fun t12_8 =>
 (bd (stA 1 t12_8 t10_6 H) fun H9 =>
 (bd (nilC v0) fun t14_10 =>
 (bd (faA 1 t14_10) fun t15_11 =>
 (bd (ld1 t15_11 H9) fun t16_12 =>
 (bd (arA .eql t16_12 (.int .i64 (-1))) fun t18_13 =>
 (bd (asB t18_13) fun b14 =>
 if b14 = true then
 (bd (nilC v0) fun t21_15 =>
 (bd (faA 0 t21_15) fun t22_16 =>
 (bd (ld1 t22_16 H9) fun t23_17 =>
 (bd (bSl 1 ty_interface [.nilIface] 1 [(0, (.iface ty_int (.int .i64 (-2))))]) fun o18 =>
 (bd (appA 1 16 ty_interface t23_17 (.slice ⟨some (H9.n, 0), 1, 1, false⟩) (H9.push o18)) fun p19 =>
 (bd (nilC v0) fun t27_20 =>
 (bd (faA 0 t27_20) fun t28_21 =>
 (bd (stA 1 t28_21 p19.1 p19.2) fun H22 =>
 (bd (nilC v0) fun t30_23 =>
 (bd (faA 0 t30_23) fun t31_24 =>
 (bd (ld1 t31_24 H22) fun t32_25 =>
 (bd (lenSl t32_25) fun t33_26 =>
 (bd (arA .sub t33_26 (.int .i64 1)) fun t34_27 =>
 (some (t34_27, H22)))))))))))))))
 else
 (bd (call 125 [v0, t16_12] H9) fun r28 =>
 (bd (nilC v0) fun t39_29 =>
 (bd (faA 1 t39_29) fun t40_30 =>
 (bd (stA 1 t40_30 r28.1 r28.2) fun H31 =>
 (bd (nilC v0) fun t42_32 =>
 (bd (faA 0 t42_32) fun t43_33 =>
 (bd (ld1 t43_33 H31) fun t44_34 =>
 (bd (idxS 1 t44_34 t16_12) fun t47_35 =>
 (bd (stA 1 t47_35 (.iface ty_int (.int .i64 (-2))) H31) fun H36 =>
 (some (t16_12, H36)))))))))))))))))))))))))
theorem arena_Arena_Take.r_e (n : Nat) (v0 : V) (H : Heap) : arena_Arena_Take.r @bdI (callA C n) n v0 H = E C n 81 [] (argsA 0 [v0]) H (kR C 81) := by
  unfold arena_Arena_Take.r
  kernel_rfl
noncomputable def arena_Arena_Take.rf (bd : B3) (call : FuncId → List V → Heap → Option R) (n : Nat) (a : List V) (H : Heap) : Option R := (match a with | [v0] => arena_Arena_Take.r bd call n v0 H | a => E C n 81 [] (argsA 0 a) H (kR C 81))
theorem arena_Arena_Take.rf_b (n : Nat) (a : List V) (H : Heap) : (match a with | [v0] => arena_Arena_Take.r @bdI (callA C n) n v0 H | a => E C n 81 [] (argsA 0 a) H (kR C 81)) = E C n 81 [] (argsA 0 a) H (kR C 81) := by
  split
  · exact arena_Arena_Take.r_e n _ H
  · rfl
theorem arena_Arena_Take.rf_e (n : Nat) (a : List V) (H : Heap) : arena_Arena_Take.rf @bdI (callA C n) n a H = callA C (n + 1) 81 a H := by
  unfold arena_Arena_Take.rf
  refine (arena_Arena_Take.rf_b n a H).trans ?_
  kernel_rfl
noncomputable def mesh_put_api_Vert.r (bd : B3) (call : FuncId → List V → Heap → Option R) (n : Nat) (v0 v1 v2 : V) (H : Heap) : Option R :=
 (bd (boxA ty_api_Vert v2) fun o1 =>
 (bd (lenSl v0) fun t9_2 =>
 (bd (arA .eql v1 t9_2) fun t10_3 =>
 (bd (asB t10_3) fun b4 =>
 if b4 = true then
 (bd (ldN 4 (.ptr (some (H.n, 0))) (H.push o1)) fun t12_5 =>
 (bd (bSl 4 ty_api_Vert [(.int .i64 0), (.int .i64 0), (.int .i64 0), (.int .i64 0)] 1 [(0, t12_5)]) fun o6 =>
 (bd (appA 4 32 ty_api_Vert v0 (.slice ⟨some ((H.push o1).n, 0), 1, 4, false⟩) ((H.push o1).push o6)) fun p7 =>
 (some (p7.1, p7.2)))))
 else
 (bd (ldN 4 (.ptr (some (H.n, 0))) (H.push o1)) fun t17_8 =>
 (bd (idxS 4 v0 v1) fun t18_9 =>
 (bd (stA 4 t18_9 t17_8 (H.push o1)) fun H10 =>
 (some (v0, H10)))))))))
theorem mesh_put_api_Vert.r_e (n : Nat) (v0 v1 v2 : V) (H : Heap) : mesh_put_api_Vert.r @bdI (callA C n) n v0 v1 v2 H = E C n 82 [] (argsA 0 [v0, v1, v2]) H (kR C 82) := by
  unfold mesh_put_api_Vert.r
  kernel_rfl
noncomputable def mesh_put_api_Vert.rf (bd : B3) (call : FuncId → List V → Heap → Option R) (n : Nat) (a : List V) (H : Heap) : Option R := (match a with | [v0, v1, v2] => mesh_put_api_Vert.r bd call n v0 v1 v2 H | a => E C n 82 [] (argsA 0 a) H (kR C 82))
theorem mesh_put_api_Vert.rf_b (n : Nat) (a : List V) (H : Heap) : (match a with | [v0, v1, v2] => mesh_put_api_Vert.r @bdI (callA C n) n v0 v1 v2 H | a => E C n 82 [] (argsA 0 a) H (kR C 82)) = E C n 82 [] (argsA 0 a) H (kR C 82) := by
  split
  · exact mesh_put_api_Vert.r_e n _ _ _ H
  · rfl
theorem mesh_put_api_Vert.rf_e (n : Nat) (a : List V) (H : Heap) : mesh_put_api_Vert.rf @bdI (callA C n) n a H = callA C (n + 1) 82 a H := by
  unfold mesh_put_api_Vert.rf
  refine (mesh_put_api_Vert.rf_b n a H).trans ?_
  kernel_rfl
noncomputable def mesh_Mesh_vert.r (bd : B3) (call : FuncId → List V → Heap → Option R) (n : Nat) (v0 v1 : V) (H : Heap) : Option R :=
 (bd (neqA P ty_p_mesh_Mesh v0 (.ptr none)) fun t6_1 =>
 (bd (asB t6_1) fun b2 =>
 if b2 = true then
 (bd (nilC v0) fun t9_3 =>
 (bd (faA 1 t9_3) fun t10_4 =>
 (bd (ld1 t10_4 H) fun t11_5 =>
 (bd (call 126 [t11_5, v1] H) fun r6 =>
 (some (r6.1, r6.2))))))
 else
 (some ((.bool false), H))))
theorem mesh_Mesh_vert.r_e (n : Nat) (v0 v1 : V) (H : Heap) : mesh_Mesh_vert.r @bdI (callA C n) n v0 v1 H = E C n 83 [] (argsA 0 [v0, v1]) H (kR C 83) := by
  unfold mesh_Mesh_vert.r
  kernel_rfl
noncomputable def mesh_Mesh_vert.rf (bd : B3) (call : FuncId → List V → Heap → Option R) (n : Nat) (a : List V) (H : Heap) : Option R := (match a with | [v0, v1] => mesh_Mesh_vert.r bd call n v0 v1 H | a => E C n 83 [] (argsA 0 a) H (kR C 83))
theorem mesh_Mesh_vert.rf_b (n : Nat) (a : List V) (H : Heap) : (match a with | [v0, v1] => mesh_Mesh_vert.r @bdI (callA C n) n v0 v1 H | a => E C n 83 [] (argsA 0 a) H (kR C 83)) = E C n 83 [] (argsA 0 a) H (kR C 83) := by
  split
  · exact mesh_Mesh_vert.r_e n _ _ H
  · rfl
theorem mesh_Mesh_vert.rf_e (n : Nat) (a : List V) (H : Heap) : mesh_Mesh_vert.rf @bdI (callA C n) n a H = callA C (n + 1) 83 a H := by
  unfold mesh_Mesh_vert.rf
  refine (mesh_Mesh_vert.rf_b n a H).trans ?_
  kernel_rfl
noncomputable def mesh_Mesh_turns.r (bd : B3) (call : FuncId → List V → Heap → Option R) (n : Nat) (v0 v1 : V) (H : Heap) : Option R :=
 (bd (boxA ty_api_Tri v1) fun o1 =>
 (bd (ldN 9 (.ptr (some (H.n, 0))) (H.push o1)) fun t13_2 =>
 (bd (call 127 [v0, t13_2, (.int .i64 0)] (H.push o1)) fun r3 =>
 (bd (extA r3.1 0) fun t15_4 =>
 (bd (extA r3.1 1) fun t16_5 =>
 (bd (stA 2 (.ptr (some (r3.2.n, 0))) t15_4 (r3.2.push (.cells [(.int .i64 0), (.int .i64 0)] ty_api_Point false))) fun H6 =>
 (bd (ldN 9 (.ptr (some (H.n, 0))) H6) fun t19_7 =>
 (bd (call 127 [v0, t19_7, (.int .i64 1)] H6) fun r8 =>
 (bd (extA r8.1 0) fun t21_9 =>
 (bd (extA r8.1 1) fun t22_10 =>
 (bd (stA 2 (.ptr (some (r8.2.n, 0))) t21_9 (r8.2.push (.cells [(.int .i64 0), (.int .i64 0)] ty_api_Point false))) fun H11 =>
 (bd (ldN 9 (.ptr (some (H.n, 0))) H11) fun t25_12 =>
 (bd (call 127 [v0, t25_12, (.int .i64 2)] H11) fun r13 =>
 (bd (extA r13.1 0) fun t27_14 =>
 (bd (extA r13.1 1) fun t28_15 =>
 (bd (stA 2 (.ptr (some (r13.2.n, 0))) t27_14 (r13.2.push (.cells [(.int .i64 0), (.int .i64 0)] ty_api_Point false))) fun H16 =>
 (bd (asB t16_5) fun b17 =>
 if b17 = true then
 (bd (asB t22_10) fun b18 =>
 if b18 = true then
 (bd (asB t28_15) fun b19 =>
 if b19 = true then
 (bd (ldN 2 (.ptr (some (r3.2.n, 0))) H16) fun t37_20 =>
 (bd (ldN 2 (.ptr (some (r8.2.n, 0))) H16) fun t38_21 =>
 (bd (ldN 2 (.ptr (some (r13.2.n, 0))) H16) fun t39_22 =>
 (bd (call 128 [t37_20, t38_21, t39_22] H16) fun r23 =>
 (bd (arA .eql r23.1 (.int .i64 1)) fun t41_24 =>
 (some (t41_24, r23.2)))))))
 else
 (some ((.bool false), H16)))
 else
 (some ((.bool false), H16)))
 else
 (some ((.bool false), H16)))))))))))))))))))
theorem mesh_Mesh_turns.r_e (n : Nat) (v0 v1 : V) (H : Heap) : mesh_Mesh_turns.r @bdI (callA C n) n v0 v1 H = E C n 84 [] (argsA 0 [v0, v1]) H (kR C 84) := by
  unfold mesh_Mesh_turns.r
  kernel_rfl
noncomputable def mesh_Mesh_turns.rf (bd : B3) (call : FuncId → List V → Heap → Option R) (n : Nat) (a : List V) (H : Heap) : Option R := (match a with | [v0, v1] => mesh_Mesh_turns.r bd call n v0 v1 H | a => E C n 84 [] (argsA 0 a) H (kR C 84))
theorem mesh_Mesh_turns.rf_b (n : Nat) (a : List V) (H : Heap) : (match a with | [v0, v1] => mesh_Mesh_turns.r @bdI (callA C n) n v0 v1 H | a => E C n 84 [] (argsA 0 a) H (kR C 84)) = E C n 84 [] (argsA 0 a) H (kR C 84) := by
  split
  · exact mesh_Mesh_turns.r_e n _ _ H
  · rfl
theorem mesh_Mesh_turns.rf_e (n : Nat) (a : List V) (H : Heap) : mesh_Mesh_turns.rf @bdI (callA C n) n a H = callA C (n + 1) 84 a H := by
  unfold mesh_Mesh_turns.rf
  refine (mesh_Mesh_turns.rf_b n a H).trans ?_
  kernel_rfl
noncomputable def mesh_side.r (bd : B3) (call : FuncId → List V → Heap → Option R) (n : Nat) (v0 v1 : V) (H : Heap) : Option R :=
 (bd (boxA ty_api_Tri v0) fun o1 =>
 (bd (arA .add v1 (.int .i64 1)) fun t7_2 =>
 (bd (call 129 [t7_2] ((H.push o1).push (.cells [(.int .i64 0), (.int .i64 0), (.int .i64 0), (.int .i64 0)] ty_mesh_edge false))) fun r3 =>
 (bd (faA 3 (.ptr (some (H.n, 0)))) fun t18_4 =>
 (bd (idxP 3 2 t18_4 r3.1) fun t19_5 =>
 (bd (ldN 2 t19_5 (r3.2.more 0)) fun t20_6 =>
 (bd (faA 3 (.ptr (some (H.n, 0)))) fun t22_7 =>
 (bd (idxP 3 2 t22_7 v1) fun t23_8 =>
 (bd (ldN 2 t23_8 (r3.2.more 0)) fun t24_9 =>
 (bd (call 130 [t20_6, t24_9] (r3.2.more 0)) fun r10 =>
 (bd (faA 0 (.ptr (some (H.n, 0)))) fun t10_11 =>
 (bd (idxP 3 1 t10_11 v1) fun t11_12 =>
 (bd (ld1 t11_12 r10.2) fun t12_13 =>
 (bd (chk (ld1 t11_12 (r3.2.more 0)) t12_13) fun _ =>
 (bd (faA 0 (.ptr (some (H.n, 0)))) fun t14_14 =>
 (bd (idxP 3 1 t14_14 r3.1) fun t15_15 =>
 (bd (ld1 t15_15 r10.2) fun t16_16 =>
 (bd (chk (ld1 t15_15 (r3.2.more 0)) t16_16) fun _ =>
 (bd (flA [(0, 1), (1, 1), (2, 2)] [(.int .i64 0), (.int .i64 0), (.int .i64 0), (.int .i64 0)] [(0, t12_13), (1, t16_16), (2, r10.1)]) fun t26_17 =>
 (bd (stA 4 (.ptr (some ((H.push o1).n, 0))) t26_17 r10.2) fun H18 =>
 (bd (ldN 4 (.ptr (some ((H.push o1).n, 0))) H18) fun t19 =>
 (some (t19, H18)))))))))))))))))))))))
theorem mesh_side.r_e (n : Nat) (v0 v1 : V) (H : Heap) : mesh_side.r @bdI (callA C n) n v0 v1 H = E C n 85 [] (argsA 0 [v0, v1]) H (kR C 85) := by
  unfold mesh_side.r
  kernel_rfl
noncomputable def mesh_side.rf (bd : B3) (call : FuncId → List V → Heap → Option R) (n : Nat) (a : List V) (H : Heap) : Option R := pureA a H fun a => (match a with | [v0, v1] => mesh_side.r bd call n v0 v1 ⟨0, .nil⟩ | a => E C n 85 [] (argsA 0 a) ⟨0, .nil⟩ (kR C 85))
theorem mesh_side.rf_b (n : Nat) (a : List V) (H : Heap) : (match a with | [v0, v1] => mesh_side.r @bdI (callA C n) n v0 v1 H | a => E C n 85 [] (argsA 0 a) H (kR C 85)) = E C n 85 [] (argsA 0 a) H (kR C 85) := by
  split
  · exact mesh_side.r_e n _ _ H
  · rfl
theorem mesh_side.rf_e (n : Nat) (a : List V) (H : Heap) : mesh_side.rf @bdI (callA C n) n a H = callA C (n + 1) 85 a H := by
  unfold mesh_side.rf
  refine (congrArg (pureA a H) (funext fun a => mesh_side.rf_b n a ⟨0, .nil⟩)).trans ?_
  kernel_rfl
noncomputable def mesh_put_api_Tri.r (bd : B3) (call : FuncId → List V → Heap → Option R) (n : Nat) (v0 v1 v2 : V) (H : Heap) : Option R :=
 (bd (boxA ty_api_Tri v2) fun o1 =>
 (bd (lenSl v0) fun t9_2 =>
 (bd (arA .eql v1 t9_2) fun t10_3 =>
 (bd (asB t10_3) fun b4 =>
 if b4 = true then
 (bd (ldN 9 (.ptr (some (H.n, 0))) (H.push o1)) fun t12_5 =>
 (bd (bSl 9 ty_api_Tri [(.int .i64 0), (.int .i64 0), (.int .i64 0), (.int .i64 0), (.int .i64 0), (.int .i64 0), (.int .i64 0), (.int .i64 0), (.int .i64 0)] 1 [(0, t12_5)]) fun o6 =>
 (bd (appA 9 72 ty_api_Tri v0 (.slice ⟨some ((H.push o1).n, 0), 1, 9, false⟩) ((H.push o1).push o6)) fun p7 =>
 (some (p7.1, p7.2)))))
 else
 (bd (ldN 9 (.ptr (some (H.n, 0))) (H.push o1)) fun t17_8 =>
 (bd (idxS 9 v0 v1) fun t18_9 =>
 (bd (stA 9 t18_9 t17_8 (H.push o1)) fun H10 =>
 (some (v0, H10)))))))))
theorem mesh_put_api_Tri.r_e (n : Nat) (v0 v1 v2 : V) (H : Heap) : mesh_put_api_Tri.r @bdI (callA C n) n v0 v1 v2 H = E C n 86 [] (argsA 0 [v0, v1, v2]) H (kR C 86) := by
  unfold mesh_put_api_Tri.r
  kernel_rfl
noncomputable def mesh_put_api_Tri.rf (bd : B3) (call : FuncId → List V → Heap → Option R) (n : Nat) (a : List V) (H : Heap) : Option R := (match a with | [v0, v1, v2] => mesh_put_api_Tri.r bd call n v0 v1 v2 H | a => E C n 86 [] (argsA 0 a) H (kR C 86))
theorem mesh_put_api_Tri.rf_b (n : Nat) (a : List V) (H : Heap) : (match a with | [v0, v1, v2] => mesh_put_api_Tri.r @bdI (callA C n) n v0 v1 v2 H | a => E C n 86 [] (argsA 0 a) H (kR C 86)) = E C n 86 [] (argsA 0 a) H (kR C 86) := by
  split
  · exact mesh_put_api_Tri.r_e n _ _ _ H
  · rfl
theorem mesh_put_api_Tri.rf_e (n : Nat) (a : List V) (H : Heap) : mesh_put_api_Tri.rf @bdI (callA C n) n a H = callA C (n + 1) 86 a H := by
  unfold mesh_put_api_Tri.rf
  refine (mesh_put_api_Tri.rf_b n a H).trans ?_
  kernel_rfl
noncomputable def slices_Contains_int_int.r (bd : B3) (call : FuncId → List V → Heap → Option R) (n : Nat) (v0 v1 : V) (H : Heap) : Option R :=
 (bd (call 121 [v0, v1] H) fun r1 =>
 (bd (arA .geq r1.1 (.int .i64 0)) fun t8_2 =>
 (some (t8_2, r1.2))))
theorem slices_Contains_int_int.r_e (n : Nat) (v0 v1 : V) (H : Heap) : slices_Contains_int_int.r @bdI (callA C n) n v0 v1 H = E C n 87 [] (argsA 0 [v0, v1]) H (kR C 87) := by
  unfold slices_Contains_int_int.r
  kernel_rfl
noncomputable def slices_Contains_int_int.rf (bd : B3) (call : FuncId → List V → Heap → Option R) (n : Nat) (a : List V) (H : Heap) : Option R := (match a with | [v0, v1] => slices_Contains_int_int.r bd call n v0 v1 H | a => E C n 87 [] (argsA 0 a) H (kR C 87))
theorem slices_Contains_int_int.rf_b (n : Nat) (a : List V) (H : Heap) : (match a with | [v0, v1] => slices_Contains_int_int.r @bdI (callA C n) n v0 v1 H | a => E C n 87 [] (argsA 0 a) H (kR C 87)) = E C n 87 [] (argsA 0 a) H (kR C 87) := by
  split
  · exact slices_Contains_int_int.r_e n _ _ H
  · rfl
theorem slices_Contains_int_int.rf_e (n : Nat) (a : List V) (H : Heap) : slices_Contains_int_int.rf @bdI (callA C n) n a H = callA C (n + 1) 87 a H := by
  unfold slices_Contains_int_int.rf
  refine (slices_Contains_int_int.rf_b n a H).trans ?_
  kernel_rfl
end Go.AM.L
end
section
set_option linter.unusedVariables false
set_option linter.unusedSimpArgs false
set_option maxRecDepth 1000000
set_option linter.unusedVariables false
namespace Go.AM.L
noncomputable def lift_Home.r (bd : B3) (call : FuncId → List V → Heap → Option R) (n : Nat) (v0 v1 : V) (H : Heap) : Option R :=
 (bd (boxA ty_api_Point v0) fun o1 =>
 (bd (call 101 [v1] (((H.push o1).push (.cells [(.int .i64 0), (.int .i64 0)] ty_api_Point false)).push (.cells [(.int .i64 0), (.int .i64 0)] ty_api_Off false))) fun r2 =>
 (bd (unA .not r2.1) fun t13_3 =>
 (bd (asB t13_3) fun b4 =>
 if b4 = true then
 (bd (flA [(0, 1), (1, 1)] [(.int .i64 0), (.int .i64 0)] []) fun t19_5 =>
 (bd (flA [(0, 1), (1, 1)] [(.int .i64 0), (.int .i64 0)] []) fun t20_6 =>
 (bd (stA 2 (.ptr (some ((H.push o1).n, 0))) t19_5 r2.2) fun H7 =>
 (bd (stA 2 (.ptr (some (((H.push o1).push (.cells [(.int .i64 0), (.int .i64 0)] ty_api_Point false)).n, 0))) t20_6 H7) fun H8 =>
 (bd (ldN 2 (.ptr (some ((H.push o1).n, 0))) H8) fun t9 =>
 (bd (ldN 2 (.ptr (some (((H.push o1).push (.cells [(.int .i64 0), (.int .i64 0)] ty_api_Point false)).n, 0))) H8) fun t10 =>
 (some (.tuple [t9, t10, (.bool false)], H8))))))))
 else
 (bd (ldN 2 (.ptr (some (H.n, 0))) r2.2) fun t15_11 =>
 (bd (call 102 [t15_11] r2.2) fun r12 =>
 (bd (unA .not r12.1) fun t17_13 =>
 (bd (asB t17_13) fun b14 =>
 if b14 = true then
 (bd (flA [(0, 1), (1, 1)] [(.int .i64 0), (.int .i64 0)] []) fun t19_15 =>
 (bd (flA [(0, 1), (1, 1)] [(.int .i64 0), (.int .i64 0)] []) fun t20_16 =>
 (bd (stA 2 (.ptr (some ((H.push o1).n, 0))) t19_15 r12.2) fun H17 =>
 (bd (stA 2 (.ptr (some (((H.push o1).push (.cells [(.int .i64 0), (.int .i64 0)] ty_api_Point false)).n, 0))) t20_16 H17) fun H18 =>
 (bd (ldN 2 (.ptr (some ((H.push o1).n, 0))) H18) fun t19 =>
 (bd (ldN 2 (.ptr (some (((H.push o1).push (.cells [(.int .i64 0), (.int .i64 0)] ty_api_Point false)).n, 0))) H18) fun t20 =>
 (some (.tuple [t19, t20, (.bool false)], H18))))))))
 else
 (bd (faA 0 (.ptr (some (H.n, 0)))) fun t22_21 =>
 (bd (ld1 t22_21 r12.2) fun t23_22 =>
 (bd (call 133 [t23_22, v1] r12.2) fun r23 =>
 (bd (extA r23.1 0) fun t26_24 =>
 (bd (extA r23.1 1) fun t27_25 =>
 (bd (faA 1 (.ptr (some (H.n, 0)))) fun t29_26 =>
 (bd (ld1 t29_26 r23.2) fun t30_27 =>
 (bd (call 133 [t30_27, v1] r23.2) fun r28 =>
 (bd (extA r28.1 0) fun t33_29 =>
 (bd (extA r28.1 1) fun t34_30 =>
 (bd (flA [(0, 1), (1, 1)] [(.int .i64 0), (.int .i64 0)] [(0, t26_24), (1, t33_29)]) fun t37_31 =>
 (bd (flA [(0, 1), (1, 1)] [(.int .i64 0), (.int .i64 0)] [(0, t27_25), (1, t34_30)]) fun t40_32 =>
 (bd (stA 2 (.ptr (some ((H.push o1).n, 0))) t37_31 r28.2) fun H33 =>
 (bd (stA 2 (.ptr (some (((H.push o1).push (.cells [(.int .i64 0), (.int .i64 0)] ty_api_Point false)).n, 0))) t40_32 H33) fun H34 =>
 (bd (ldN 2 (.ptr (some ((H.push o1).n, 0))) H34) fun t35 =>
 (bd (ldN 2 (.ptr (some (((H.push o1).push (.cells [(.int .i64 0), (.int .i64 0)] ty_api_Point false)).n, 0))) H34) fun t36 =>
 (some (.tuple [t35, t36, (.bool true)], H34))))))))))))))))))))))))))
theorem lift_Home.r_e (n : Nat) (v0 v1 : V) (H : Heap) : lift_Home.r @bdI (callA C n) n v0 v1 H = E C n 92 [] (argsA 0 [v0, v1]) H (kR C 92) := by
  unfold lift_Home.r
  kernel_rfl
noncomputable def lift_Home.rf (bd : B3) (call : FuncId → List V → Heap → Option R) (n : Nat) (a : List V) (H : Heap) : Option R := pureA a H fun a => (match a with | [v0, v1] => lift_Home.r bd call n v0 v1 ⟨0, .nil⟩ | a => E C n 92 [] (argsA 0 a) ⟨0, .nil⟩ (kR C 92))
theorem lift_Home.rf_b (n : Nat) (a : List V) (H : Heap) : (match a with | [v0, v1] => lift_Home.r @bdI (callA C n) n v0 v1 H | a => E C n 92 [] (argsA 0 a) H (kR C 92)) = E C n 92 [] (argsA 0 a) H (kR C 92) := by
  split
  · exact lift_Home.r_e n _ _ H
  · rfl
theorem lift_Home.rf_e (n : Nat) (a : List V) (H : Heap) : lift_Home.rf @bdI (callA C n) n a H = callA C (n + 1) 92 a H := by
  unfold lift_Home.rf
  refine (congrArg (pureA a H) (funext fun a => lift_Home.rf_b n a ⟨0, .nil⟩)).trans ?_
  kernel_rfl
noncomputable def lift_torus.r (bd : B3) (call : FuncId → List V → Heap → Option R) (n : Nat) (v0 : V) (H : Heap) : Option R :=
 (bd (arA .geq v0 (.int .i64 1)) fun t4_1 =>
 (bd (asB t4_1) fun b2 =>
 if b2 = true then
 (bd (arA .leq v0 (.int .i64 1099511627776)) fun t7_3 =>
 (some (t7_3, H)))
 else
 (some ((.bool false), H))))
theorem lift_torus.r_e (n : Nat) (v0 : V) (H : Heap) : lift_torus.r @bdI (callA C n) n v0 H = E C n 101 [] (argsA 0 [v0]) H (kR C 101) := by
  unfold lift_torus.r
  kernel_rfl
noncomputable def lift_torus.rf (bd : B3) (call : FuncId → List V → Heap → Option R) (n : Nat) (a : List V) (H : Heap) : Option R := pureA a H fun a => (match a with | [v0] => lift_torus.r bd call n v0 ⟨0, .nil⟩ | a => E C n 101 [] (argsA 0 a) ⟨0, .nil⟩ (kR C 101))
theorem lift_torus.rf_b (n : Nat) (a : List V) (H : Heap) : (match a with | [v0] => lift_torus.r @bdI (callA C n) n v0 H | a => E C n 101 [] (argsA 0 a) H (kR C 101)) = E C n 101 [] (argsA 0 a) H (kR C 101) := by
  split
  · exact lift_torus.r_e n _ H
  · rfl
theorem lift_torus.rf_e (n : Nat) (a : List V) (H : Heap) : lift_torus.rf @bdI (callA C n) n a H = callA C (n + 1) 101 a H := by
  unfold lift_torus.rf
  refine (congrArg (pureA a H) (funext fun a => lift_torus.rf_b n a ⟨0, .nil⟩)).trans ?_
  kernel_rfl
noncomputable def lift_can.r (bd : B3) (call : FuncId → List V → Heap → Option R) (n : Nat) (v0 : V) (H : Heap) : Option R :=
 (bd (boxA ty_api_Point v0) fun o1 =>
 (bd (faA 0 (.ptr (some (H.n, 0)))) fun t3_2 =>
 (bd (ld1 t3_2 (H.push o1)) fun t4_3 =>
 (bd (call 149 [t4_3] (H.push o1)) fun r4 =>
 (bd (asB r4.1) fun b5 =>
 if b5 = true then
 (bd (faA 1 (.ptr (some (H.n, 0)))) fun t7_6 =>
 (bd (ld1 t7_6 r4.2) fun t8_7 =>
 (bd (call 149 [t8_7] r4.2) fun r8 =>
 (some (r8.1, r8.2)))))
 else
 (some ((.bool false), r4.2)))))))
theorem lift_can.r_e (n : Nat) (v0 : V) (H : Heap) : lift_can.r @bdI (callA C n) n v0 H = E C n 102 [] (argsA 0 [v0]) H (kR C 102) := by
  unfold lift_can.r
  kernel_rfl
noncomputable def lift_can.rf (bd : B3) (call : FuncId → List V → Heap → Option R) (n : Nat) (a : List V) (H : Heap) : Option R := pureA a H fun a => (match a with | [v0] => lift_can.r bd call n v0 ⟨0, .nil⟩ | a => E C n 102 [] (argsA 0 a) ⟨0, .nil⟩ (kR C 102))
theorem lift_can.rf_b (n : Nat) (a : List V) (H : Heap) : (match a with | [v0] => lift_can.r @bdI (callA C n) n v0 H | a => E C n 102 [] (argsA 0 a) H (kR C 102)) = E C n 102 [] (argsA 0 a) H (kR C 102) := by
  split
  · exact lift_can.r_e n _ H
  · rfl
theorem lift_can.rf_e (n : Nat) (a : List V) (H : Heap) : lift_can.rf @bdI (callA C n) n a H = callA C (n + 1) 102 a H := by
  unfold lift_can.rf
  refine (congrArg (pureA a H) (funext fun a => lift_can.rf_b n a ⟨0, .nil⟩)).trans ?_
  kernel_rfl
noncomputable def lift_move.r (bd : B3) (call : FuncId → List V → Heap → Option R) (n : Nat) (v0 v1 v2 : V) (H : Heap) : Option R :=
 (bd (arA .lss v1 (.int .i64 (-2199023255552))) fun t10_1 =>
 (bd (asB t10_1) fun b2 =>
 if b2 = true then
 (some (.tuple [(.int .i64 0), (.bool false)], H))
 else
 (bd (arA .gtr v1 (.int .i64 2199023255552)) fun t13_3 =>
 (bd (asB t13_3) fun b4 =>
 if b4 = true then
 (some (.tuple [(.int .i64 0), (.bool false)], H))
 else
 (bd (arA .quo (.int .i64 2199023255552) v2) fun t16_5 =>
 (bd (unA .neg t16_5) fun t19_6 =>
 (bd (arA .lss v1 t19_6) fun t20_7 =>
 (bd (asB t20_7) fun b8 =>
 if b8 = true then
 (some (.tuple [(.int .i64 0), (.bool false)], H))
 else
 (bd (arA .gtr v1 t16_5) fun t24_9 =>
 (bd (asB t24_9) fun b10 =>
 if b10 = true then
 (some (.tuple [(.int .i64 0), (.bool false)], H))
 else
 (bd (arA .mul v1 v2) fun t29_11 =>
 (bd (arA .add v0 t29_11) fun t30_12 =>
 (bd (call 149 [t30_12] H) fun r13 =>
 (some (.tuple [t30_12, r13.1], r13.2)))))))))))))))
theorem lift_move.r_e (n : Nat) (v0 v1 v2 : V) (H : Heap) : lift_move.r @bdI (callA C n) n v0 v1 v2 H = E C n 103 [] (argsA 0 [v0, v1, v2]) H (kR C 103) := by
  unfold lift_move.r
  kernel_rfl
noncomputable def lift_move.rf (bd : B3) (call : FuncId → List V → Heap → Option R) (n : Nat) (a : List V) (H : Heap) : Option R := pureA a H fun a => (match a with | [v0, v1, v2] => lift_move.r bd call n v0 v1 v2 ⟨0, .nil⟩ | a => E C n 103 [] (argsA 0 a) ⟨0, .nil⟩ (kR C 103))
theorem lift_move.rf_b (n : Nat) (a : List V) (H : Heap) : (match a with | [v0, v1, v2] => lift_move.r @bdI (callA C n) n v0 v1 v2 H | a => E C n 103 [] (argsA 0 a) H (kR C 103)) = E C n 103 [] (argsA 0 a) H (kR C 103) := by
  split
  · exact lift_move.r_e n _ _ _ H
  · rfl
theorem lift_move.rf_e (n : Nat) (a : List V) (H : Heap) : lift_move.rf @bdI (callA C n) n a H = callA C (n + 1) 103 a H := by
  unfold lift_move.rf
  refine (congrArg (pureA a H) (funext fun a => lift_move.rf_b n a ⟨0, .nil⟩)).trans ?_
  kernel_rfl
noncomputable def lift_Can.r (bd : B3) (call : FuncId → List V → Heap → Option R) (n : Nat) (v0 : V) (H : Heap) : Option R :=
 (bd (boxA ty_api_Point v0) fun o1 =>
 (bd (ldN 2 (.ptr (some (H.n, 0))) (H.push o1)) fun t3_2 =>
 (bd (call 102 [t3_2] (H.push o1)) fun r3 =>
 (some (r3.1, r3.2)))))
theorem lift_Can.r_e (n : Nat) (v0 : V) (H : Heap) : lift_Can.r @bdI (callA C n) n v0 H = E C n 109 [] (argsA 0 [v0]) H (kR C 109) := by
  unfold lift_Can.r
  kernel_rfl
noncomputable def lift_Can.rf (bd : B3) (call : FuncId → List V → Heap → Option R) (n : Nat) (a : List V) (H : Heap) : Option R := pureA a H fun a => (match a with | [v0] => lift_Can.r bd call n v0 ⟨0, .nil⟩ | a => E C n 109 [] (argsA 0 a) ⟨0, .nil⟩ (kR C 109))
theorem lift_Can.rf_b (n : Nat) (a : List V) (H : Heap) : (match a with | [v0] => lift_Can.r @bdI (callA C n) n v0 H | a => E C n 109 [] (argsA 0 a) H (kR C 109)) = E C n 109 [] (argsA 0 a) H (kR C 109) := by
  split
  · exact lift_Can.r_e n _ H
  · rfl
theorem lift_Can.rf_e (n : Nat) (a : List V) (H : Heap) : lift_Can.rf @bdI (callA C n) n a H = callA C (n + 1) 109 a H := by
  unfold lift_Can.rf
  refine (congrArg (pureA a H) (funext fun a => lift_Can.rf_b n a ⟨0, .nil⟩)).trans ?_
  kernel_rfl
noncomputable def circum_circle.r (bd : B3) (call : FuncId → List V → Heap → Option R) (n : Nat) (v0 v1 v2 : V) (H : Heap) : Option R :=
 (bd (boxA ty_api_Point v0) fun o1 =>
 (bd (boxA ty_api_Point v1) fun o2 =>
 (bd (boxA ty_api_Point v2) fun o3 =>
 (bd (ldN 2 (.ptr (some (H.n, 0))) (((H.push o1).push o2).push o3)) fun t7_4 =>
 (bd (ldN 2 (.ptr (some ((H.push o1).n, 0))) (((H.push o1).push o2).push o3)) fun t8_5 =>
 (bd (ldN 2 (.ptr (some (((H.push o1).push o2).n, 0))) (((H.push o1).push o2).push o3)) fun t9_6 =>
 (bd (call 128 [t7_4, t8_5, t9_6] (((H.push o1).push o2).push o3)) fun r7 =>
 (bd (arA .neq r7.1 (.int .i64 0)) fun t11_8 =>
 (some (t11_8, r7.2))))))))))
theorem circum_circle.r_e (n : Nat) (v0 v1 v2 : V) (H : Heap) : circum_circle.r @bdI (callA C n) n v0 v1 v2 H = E C n 110 [] (argsA 0 [v0, v1, v2]) H (kR C 110) := by
  unfold circum_circle.r
  kernel_rfl
noncomputable def circum_circle.rf (bd : B3) (call : FuncId → List V → Heap → Option R) (n : Nat) (a : List V) (H : Heap) : Option R := pureA a H fun a => (match a with | [v0, v1, v2] => circum_circle.r bd call n v0 v1 v2 ⟨0, .nil⟩ | a => E C n 110 [] (argsA 0 a) ⟨0, .nil⟩ (kR C 110))
theorem circum_circle.rf_b (n : Nat) (a : List V) (H : Heap) : (match a with | [v0, v1, v2] => circum_circle.r @bdI (callA C n) n v0 v1 v2 H | a => E C n 110 [] (argsA 0 a) H (kR C 110)) = E C n 110 [] (argsA 0 a) H (kR C 110) := by
  split
  · exact circum_circle.r_e n _ _ _ H
  · rfl
theorem circum_circle.rf_e (n : Nat) (a : List V) (H : Heap) : circum_circle.rf @bdI (callA C n) n a H = callA C (n + 1) 110 a H := by
  unfold circum_circle.rf
  refine (congrArg (pureA a H) (funext fun a => circum_circle.rf_b n a ⟨0, .nil⟩)).trans ?_
  kernel_rfl
noncomputable def whole_Mul.r (bd : B3) (call : FuncId → List V → Heap → Option R) (n : Nat) (v0 v1 : V) (H : Heap) : Option R :=
 (bd (boxA ty_api_Int v0) fun o1 =>
 (bd (boxA ty_api_Int v1) fun o2 =>
 (bd (faA 1 (.ptr (some (H.n, 0)))) fun t10_3 =>
 (bd (ld1 t10_3 ((((H.push o1).push o2).push (.cells [(.bool false), (.slice ⟨none, 0, 0, false⟩)] ty_api_Int false)).more 0)) fun t11_4 =>
 (bd (faA 1 (.ptr (some ((H.push o1).n, 0)))) fun t12_5 =>
 (bd (ld1 t12_5 ((((H.push o1).push o2).push (.cells [(.bool false), (.slice ⟨none, 0, 0, false⟩)] ty_api_Int false)).more 0)) fun t13_6 =>
 (bd (call 156 [t11_4, t13_6] ((((H.push o1).push o2).push (.cells [(.bool false), (.slice ⟨none, 0, 0, false⟩)] ty_api_Int false)).more 0)) fun r7 =>
 (bd (faA 0 (.ptr (some (H.n, 0)))) fun t5_8 =>
 (bd (ld1 t5_8 r7.2) fun t6_9 =>
 (bd (chk (ld1 t5_8 ((((H.push o1).push o2).push (.cells [(.bool false), (.slice ⟨none, 0, 0, false⟩)] ty_api_Int false)).more 0)) t6_9) fun _ =>
 (bd (faA 0 (.ptr (some ((H.push o1).n, 0)))) fun t7_10 =>
 (bd (ld1 t7_10 r7.2) fun t8_11 =>
 (bd (chk (ld1 t7_10 ((((H.push o1).push o2).push (.cells [(.bool false), (.slice ⟨none, 0, 0, false⟩)] ty_api_Int false)).more 0)) t8_11) fun _ =>
 (bd (neqA P ty_bool t6_9 t8_11) fun t9_12 =>
 (bd (call 155 [t9_12, r7.1] r7.2) fun r13 =>
 (bd (stA 2 (.ptr (some (((H.push o1).push o2).n, 0))) r13.1 r13.2) fun H14 =>
 (bd (ldN 2 (.ptr (some (((H.push o1).push o2).n, 0))) H14) fun t15 =>
 (frzR t15 H14))))))))))))))))))
theorem whole_Mul.r_e (n : Nat) (v0 v1 : V) (H : Heap) : whole_Mul.r @bdI (callA C n) n v0 v1 H = E C n 111 [] (argsA 0 [v0, v1]) H (kR C 111) := by
  unfold whole_Mul.r
  kernel_rfl
noncomputable def whole_Mul.rf (bd : B3) (call : FuncId → List V → Heap → Option R) (n : Nat) (a : List V) (H : Heap) : Option R := pureA a H fun a => (match a with | [v0, v1] => whole_Mul.r bd call n v0 v1 ⟨0, .nil⟩ | a => E C n 111 [] (argsA 0 a) ⟨0, .nil⟩ (kR C 111))
theorem whole_Mul.rf_b (n : Nat) (a : List V) (H : Heap) : (match a with | [v0, v1] => whole_Mul.r @bdI (callA C n) n v0 v1 H | a => E C n 111 [] (argsA 0 a) H (kR C 111)) = E C n 111 [] (argsA 0 a) H (kR C 111) := by
  split
  · exact whole_Mul.r_e n _ _ H
  · rfl
theorem whole_Mul.rf_e (n : Nat) (a : List V) (H : Heap) : whole_Mul.rf @bdI (callA C n) n a H = callA C (n + 1) 111 a H := by
  unfold whole_Mul.rf
  refine (congrArg (pureA a H) (funext fun a => whole_Mul.rf_b n a ⟨0, .nil⟩)).trans ?_
  kernel_rfl
noncomputable def whole_Of.r (bd : B3) (call : FuncId → List V → Heap → Option R) (n : Nat) (v0 : V) (H : Heap) : Option R :=
 (bd (arA .lss v0 (.int .i64 0)) fun t4_1 =>
 (bd (asB t4_1) fun b2 =>
 if b2 = true then
 (bd (cvInt .u64 v0) fun t6_3 =>
 (bd (unA .neg t6_3) fun t7_4 =>
 (bd (call 157 [t7_4] (H.push (.cells [(.bool false), (.slice ⟨none, 0, 0, false⟩)] ty_api_Int false))) fun r5 =>
 (bd (call 155 [(.bool true), r5.1] r5.2) fun r6 =>
 (bd (stA 2 (.ptr (some (H.n, 0))) r6.1 r6.2) fun H7 =>
 (bd (ldN 2 (.ptr (some (H.n, 0))) H7) fun t8 =>
 (frzR t8 H7)))))))
 else
 (bd (cvInt .u64 v0) fun t11_9 =>
 (bd (call 157 [t11_9] (H.push (.cells [(.bool false), (.slice ⟨none, 0, 0, false⟩)] ty_api_Int false))) fun r10 =>
 (bd (call 155 [(.bool false), r10.1] r10.2) fun r11 =>
 (bd (stA 2 (.ptr (some (H.n, 0))) r11.1 r11.2) fun H12 =>
 (bd (ldN 2 (.ptr (some (H.n, 0))) H12) fun t13 =>
 (frzR t13 H12))))))))
theorem whole_Of.r_e (n : Nat) (v0 : V) (H : Heap) : whole_Of.r @bdI (callA C n) n v0 H = E C n 112 [] (argsA 0 [v0]) H (kR C 112) := by
  unfold whole_Of.r
  kernel_rfl
noncomputable def whole_Of.rf (bd : B3) (call : FuncId → List V → Heap → Option R) (n : Nat) (a : List V) (H : Heap) : Option R := pureA a H fun a => (match a with | [v0] => whole_Of.r bd call n v0 ⟨0, .nil⟩ | a => E C n 112 [] (argsA 0 a) ⟨0, .nil⟩ (kR C 112))
theorem whole_Of.rf_b (n : Nat) (a : List V) (H : Heap) : (match a with | [v0] => whole_Of.r @bdI (callA C n) n v0 H | a => E C n 112 [] (argsA 0 a) H (kR C 112)) = E C n 112 [] (argsA 0 a) H (kR C 112) := by
  split
  · exact whole_Of.r_e n _ H
  · rfl
theorem whole_Of.rf_e (n : Nat) (a : List V) (H : Heap) : whole_Of.rf @bdI (callA C n) n a H = callA C (n + 1) 112 a H := by
  unfold whole_Of.rf
  refine (congrArg (pureA a H) (funext fun a => whole_Of.rf_b n a ⟨0, .nil⟩)).trans ?_
  kernel_rfl
noncomputable def circum_sides.r (bd : B3) (call : FuncId → List V → Heap → Option R) (n : Nat) (v0 v1 v2 : V) (H : Heap) : Option R :=
 (bd (boxA ty_api_Point v0) fun o1 =>
 (bd (boxA ty_api_Point v1) fun o2 =>
 (bd (boxA ty_api_Point v2) fun o3 =>
 (bd (ldN 2 (.ptr (some (H.n, 0))) (((((H.push o1).push o2).push o3).push (.cells [(.bool false), (.slice ⟨none, 0, 0, false⟩)] ty_api_Int false)).more 0)) fun t7_4 =>
 (bd (ldN 2 (.ptr (some ((H.push o1).n, 0))) (((((H.push o1).push o2).push o3).push (.cells [(.bool false), (.slice ⟨none, 0, 0, false⟩)] ty_api_Int false)).more 0)) fun t8_5 =>
 (bd (call 158 [t7_4, t8_5] (((((H.push o1).push o2).push o3).push (.cells [(.bool false), (.slice ⟨none, 0, 0, false⟩)] ty_api_Int false)).more 0)) fun r6 =>
 (bd (call 115 [r6.1] r6.2) fun r7 =>
 (bd (ldN 2 (.ptr (some ((H.push o1).n, 0))) r7.2) fun t11_8 =>
 (bd (chk (ldN 2 (.ptr (some ((H.push o1).n, 0))) r6.2) t11_8) fun _ =>
 (bd (chk (ldN 2 (.ptr (some ((H.push o1).n, 0))) (((((H.push o1).push o2).push o3).push (.cells [(.bool false), (.slice ⟨none, 0, 0, false⟩)] ty_api_Int false)).more 0)) t11_8) fun _ =>
 (bd (ldN 2 (.ptr (some (((H.push o1).push o2).n, 0))) r7.2) fun t12_9 =>
 (bd (chk (ldN 2 (.ptr (some (((H.push o1).push o2).n, 0))) r6.2) t12_9) fun _ =>
 (bd (chk (ldN 2 (.ptr (some (((H.push o1).push o2).n, 0))) (((((H.push o1).push o2).push o3).push (.cells [(.bool false), (.slice ⟨none, 0, 0, false⟩)] ty_api_Int false)).more 0)) t12_9) fun _ =>
 (bd (call 158 [t11_8, t12_9] r7.2) fun r10 =>
 (bd (call 115 [r10.1] r10.2) fun r11 =>
 (bd (call 111 [r7.1, r11.1] r11.2) fun r12 =>
 (bd (ldN 2 (.ptr (some (((H.push o1).push o2).n, 0))) r12.2) fun t16_13 =>
 (bd (chk (ldN 2 (.ptr (some (((H.push o1).push o2).n, 0))) r11.2) t16_13) fun _ =>
 (bd (chk (ldN 2 (.ptr (some (((H.push o1).push o2).n, 0))) r10.2) t16_13) fun _ =>
 (bd (chk (ldN 2 (.ptr (some (((H.push o1).push o2).n, 0))) r7.2) t16_13) fun _ =>
 (bd (chk (ldN 2 (.ptr (some (((H.push o1).push o2).n, 0))) r6.2) t16_13) fun _ =>
 (bd (chk (ldN 2 (.ptr (some (((H.push o1).push o2).n, 0))) (((((H.push o1).push o2).push o3).push (.cells [(.bool false), (.slice ⟨none, 0, 0, false⟩)] ty_api_Int false)).more 0)) t16_13) fun _ =>
 (bd (ldN 2 (.ptr (some (H.n, 0))) r12.2) fun t17_14 =>
 (bd (chk (ldN 2 (.ptr (some (H.n, 0))) r11.2) t17_14) fun _ =>
 (bd (chk (ldN 2 (.ptr (some (H.n, 0))) r10.2) t17_14) fun _ =>
 (bd (chk (ldN 2 (.ptr (some (H.n, 0))) r7.2) t17_14) fun _ =>
 (bd (chk (ldN 2 (.ptr (some (H.n, 0))) r6.2) t17_14) fun _ =>
 (bd (chk (ldN 2 (.ptr (some (H.n, 0))) (((((H.push o1).push o2).push o3).push (.cells [(.bool false), (.slice ⟨none, 0, 0, false⟩)] ty_api_Int false)).more 0)) t17_14) fun _ =>
 (bd (call 158 [t16_13, t17_14] r12.2) fun r15 =>
 (bd (call 115 [r15.1] r15.2) fun r16 =>
 (bd (call 111 [r12.1, r16.1] r16.2) fun r17 =>
 (bd (stA 2 (.ptr (some ((((H.push o1).push o2).push o3).n, 0))) r17.1 r17.2) fun H18 =>
 (bd (ldN 2 (.ptr (some ((((H.push o1).push o2).push o3).n, 0))) H18) fun t19 =>
 (frzR t19 H18))))))))))))))))))))))))))))))))))
theorem circum_sides.r_e (n : Nat) (v0 v1 v2 : V) (H : Heap) : circum_sides.r @bdI (callA C n) n v0 v1 v2 H = E C n 113 [] (argsA 0 [v0, v1, v2]) H (kR C 113) := by
  unfold circum_sides.r
  kernel_rfl
noncomputable def circum_sides.rf (bd : B3) (call : FuncId → List V → Heap → Option R) (n : Nat) (a : List V) (H : Heap) : Option R := pureA a H fun a => (match a with | [v0, v1, v2] => circum_sides.r bd call n v0 v1 v2 ⟨0, .nil⟩ | a => E C n 113 [] (argsA 0 a) ⟨0, .nil⟩ (kR C 113))
theorem circum_sides.rf_b (n : Nat) (a : List V) (H : Heap) : (match a with | [v0, v1, v2] => circum_sides.r @bdI (callA C n) n v0 v1 v2 H | a => E C n 113 [] (argsA 0 a) H (kR C 113)) = E C n 113 [] (argsA 0 a) H (kR C 113) := by
  split
  · exact circum_sides.r_e n _ _ _ H
  · rfl
theorem circum_sides.rf_e (n : Nat) (a : List V) (H : Heap) : circum_sides.rf @bdI (callA C n) n a H = callA C (n + 1) 113 a H := by
  unfold circum_sides.rf
  refine (congrArg (pureA a H) (funext fun a => circum_sides.rf_b n a ⟨0, .nil⟩)).trans ?_
  kernel_rfl
noncomputable def whole_Cmp.r (bd : B3) (call : FuncId → List V → Heap → Option R) (n : Nat) (v0 v1 : V) (H : Heap) : Option R :=
 (bd (boxA ty_api_Int v0) fun o1 =>
 (bd (boxA ty_api_Int v1) fun o2 =>
 (bd (ldN 2 (.ptr (some (H.n, 0))) (((H.push o1).push o2).more 0)) fun t7_3 =>
 (bd (call 159 [t7_3] (((H.push o1).push o2).more 0)) fun r4 =>
 (bd (ldN 2 (.ptr (some ((H.push o1).n, 0))) r4.2) fun t9_5 =>
 (bd (chk (ldN 2 (.ptr (some ((H.push o1).n, 0))) (((H.push o1).push o2).more 0)) t9_5) fun _ =>
 (bd (call 159 [t9_5] r4.2) fun r6 =>
 (bd (arA .lss r4.1 r6.1) fun t14_7 =>
 (bd (asB t14_7) fun b8 =>
 if b8 = true then
 (some ((.int .i64 (-1)), r6.2))
 else
 (bd (arA .gtr r4.1 r6.1) fun t18_9 =>
 (bd (asB t18_9) fun b10 =>
 if b10 = true then
 (some ((.int .i64 1), r6.2))
 else
 (bd (arA .lss r4.1 (.int .i64 0)) fun t21_11 =>
 (bd (asB t21_11) fun b12 =>
 if b12 = true then
 (bd (faA 1 (.ptr (some ((H.push o1).n, 0)))) fun t22_13 =>
 (bd (ld1 t22_13 r6.2) fun t23_14 =>
 (bd (faA 1 (.ptr (some (H.n, 0)))) fun t24_15 =>
 (bd (ld1 t24_15 r6.2) fun t25_16 =>
 (bd (call 160 [t23_14, t25_16] r6.2) fun r17 =>
 (some (r17.1, r17.2)))))))
 else
 (bd (faA 1 (.ptr (some (H.n, 0)))) fun t27_18 =>
 (bd (ld1 t27_18 r6.2) fun t28_19 =>
 (bd (faA 1 (.ptr (some ((H.push o1).n, 0)))) fun t29_20 =>
 (bd (ld1 t29_20 r6.2) fun t30_21 =>
 (bd (call 160 [t28_19, t30_21] r6.2) fun r22 =>
 (some (r22.1, r22.2))))))))))))))))))))
theorem whole_Cmp.r_e (n : Nat) (v0 v1 : V) (H : Heap) : whole_Cmp.r @bdI (callA C n) n v0 v1 H = E C n 114 [] (argsA 0 [v0, v1]) H (kR C 114) := by
  unfold whole_Cmp.r
  kernel_rfl
noncomputable def whole_Cmp.rf (bd : B3) (call : FuncId → List V → Heap → Option R) (n : Nat) (a : List V) (H : Heap) : Option R := pureA a H fun a => (match a with | [v0, v1] => whole_Cmp.r bd call n v0 v1 ⟨0, .nil⟩ | a => E C n 114 [] (argsA 0 a) ⟨0, .nil⟩ (kR C 114))
theorem whole_Cmp.rf_b (n : Nat) (a : List V) (H : Heap) : (match a with | [v0, v1] => whole_Cmp.r @bdI (callA C n) n v0 v1 H | a => E C n 114 [] (argsA 0 a) H (kR C 114)) = E C n 114 [] (argsA 0 a) H (kR C 114) := by
  split
  · exact whole_Cmp.r_e n _ _ H
  · rfl
theorem whole_Cmp.rf_e (n : Nat) (a : List V) (H : Heap) : whole_Cmp.rf @bdI (callA C n) n a H = callA C (n + 1) 114 a H := by
  unfold whole_Cmp.rf
  refine (congrArg (pureA a H) (funext fun a => whole_Cmp.rf_b n a ⟨0, .nil⟩)).trans ?_
  kernel_rfl
noncomputable def circum_long.r (bd : B3) (call : FuncId → List V → Heap → Option R) (n : Nat) (v0 : V) (H : Heap) : Option R :=
 (bd (boxA ty_api_Wide v0) fun o1 =>
 (bd (ldN 2 (.ptr (some (H.n, 0))) ((H.push o1).push (.cells [(.bool false), (.slice ⟨none, 0, 0, false⟩)] ty_api_Int false))) fun t3_2 =>
 (bd (call 162 [t3_2] ((H.push o1).push (.cells [(.bool false), (.slice ⟨none, 0, 0, false⟩)] ty_api_Int false))) fun r3 =>
 (bd (call 161 [r3.1] r3.2) fun r4 =>
 (bd (stA 2 (.ptr (some ((H.push o1).n, 0))) r4.1 r4.2) fun H5 =>
 (bd (ldN 2 (.ptr (some ((H.push o1).n, 0))) H5) fun t6 =>
 (frzR t6 H5)))))))
theorem circum_long.r_e (n : Nat) (v0 : V) (H : Heap) : circum_long.r @bdI (callA C n) n v0 H = E C n 115 [] (argsA 0 [v0]) H (kR C 115) := by
  unfold circum_long.r
  kernel_rfl
noncomputable def circum_long.rf (bd : B3) (call : FuncId → List V → Heap → Option R) (n : Nat) (a : List V) (H : Heap) : Option R := pureA a H fun a => (match a with | [v0] => circum_long.r bd call n v0 ⟨0, .nil⟩ | a => E C n 115 [] (argsA 0 a) ⟨0, .nil⟩ (kR C 115))
theorem circum_long.rf_b (n : Nat) (a : List V) (H : Heap) : (match a with | [v0] => circum_long.r @bdI (callA C n) n v0 H | a => E C n 115 [] (argsA 0 a) H (kR C 115)) = E C n 115 [] (argsA 0 a) H (kR C 115) := by
  split
  · exact circum_long.r_e n _ H
  · rfl
theorem circum_long.rf_e (n : Nat) (a : List V) (H : Heap) : circum_long.rf @bdI (callA C n) n a H = callA C (n + 1) 115 a H := by
  unfold circum_long.rf
  refine (congrArg (pureA a H) (funext fun a => circum_long.rf_b n a ⟨0, .nil⟩)).trans ?_
  kernel_rfl
@[irreducible] noncomputable def wide_Mul.p0 (n : Nat) (v0 v1 v4 v5 v6 : V) (H : Heap) : Option R := E C n 116 [1, 1, 1] [(0, v0), (1, v1), (4, v4), (5, v5), (6, v6)] H (kR C 116)
noncomputable def wide_Mul.r_p0 (bd : B3) (call : FuncId → List V → Heap → Option R) (n : Nat) (v0 v1 v4 v5 v6 : V) (H : Heap) : Option R :=
 (bd (arA .lss v1 (.int .i64 0)) fun t22_1 =>
 (bd (asB t22_1) fun b2 =>
 if b2 = true then
 (bd (cvInt .u64 v0) fun t25_3 =>
 (bd (arA .sub v5 t25_3) fun t26_4 =>
 (bd (cvInt .i64 t26_4) fun t28_5 =>
 (bd (flA [(0, 1), (1, 1)] [(.int .i64 0), (.int .u64 0)] [(0, t28_5), (1, v6)]) fun t30_6 =>
 (bd (stA 2 v4 t30_6 H) fun H7 =>
 (bd (ldN 2 v4 H7) fun t8 =>
 (some (t8, H7))))))))
 else
 (bd (cvInt .i64 v5) fun t28_9 =>
 (bd (flA [(0, 1), (1, 1)] [(.int .i64 0), (.int .u64 0)] [(0, t28_9), (1, v6)]) fun t30_10 =>
 (bd (stA 2 v4 t30_10 H) fun H11 =>
 (bd (ldN 2 v4 H11) fun t12 =>
 (some (t12, H11))))))))
theorem wide_Mul.r_p0_e (n : Nat) : wide_Mul.r_p0 @bdI (callA C n) n = wide_Mul.p0 n := by
  funext v0 v1 v4 v5 v6 H
  unfold wide_Mul.r_p0
  kernel_rfl
noncomputable def wide_Mul.r (bd : B3) (call : FuncId → List V → Heap → Option R) (n : Nat) (v0 v1 : V) (H : Heap) : Option R :=
 (bd (cvInt .u64 v0) fun t9_1 =>
 (bd (cvInt .u64 v1) fun t11_2 =>
 (bd (call 163 [t9_1, t11_2] (H.push (.cells [(.int .i64 0), (.int .u64 0)] ty_api_Wide false))) fun r3 =>
 (bd (extA r3.1 0) fun t13_4 =>
 (bd (extA r3.1 1) fun t14_5 =>
 (bd (arA .lss v0 (.int .i64 0)) fun t16_6 =>
 (bd (asB t16_6) fun b7 =>
 if b7 = true then
 (bd (cvInt .u64 v1) fun t19_8 =>
 (bd (arA .sub t13_4 t19_8) fun t20_9 =>
 (wide_Mul.r_p0 bd call n v0 v1 (.ptr (some (H.n, 0))) t20_9 t14_5 r3.2)))
 else
 (wide_Mul.r_p0 bd call n v0 v1 (.ptr (some (H.n, 0))) t13_4 t14_5 r3.2))))))))
theorem wide_Mul.r_e (n : Nat) (v0 v1 : V) (H : Heap) : wide_Mul.r @bdI (callA C n) n v0 v1 H = E C n 116 [] (argsA 0 [v0, v1]) H (kR C 116) := by
  unfold wide_Mul.r
  rewrite [wide_Mul.r_p0_e]
  kernel_rfl
noncomputable def wide_Mul.rf (bd : B3) (call : FuncId → List V → Heap → Option R) (n : Nat) (a : List V) (H : Heap) : Option R := pureA a H fun a => (match a with | [v0, v1] => wide_Mul.r bd call n v0 v1 ⟨0, .nil⟩ | a => E C n 116 [] (argsA 0 a) ⟨0, .nil⟩ (kR C 116))
theorem wide_Mul.rf_b (n : Nat) (a : List V) (H : Heap) : (match a with | [v0, v1] => wide_Mul.r @bdI (callA C n) n v0 v1 H | a => E C n 116 [] (argsA 0 a) H (kR C 116)) = E C n 116 [] (argsA 0 a) H (kR C 116) := by
  split
  · exact wide_Mul.r_e n _ _ H
  · rfl
theorem wide_Mul.rf_e (n : Nat) (a : List V) (H : Heap) : wide_Mul.rf @bdI (callA C n) n a H = callA C (n + 1) 116 a H := by
  unfold wide_Mul.rf
  refine (congrArg (pureA a H) (funext fun a => wide_Mul.rf_b n a ⟨0, .nil⟩)).trans ?_
  kernel_rfl
noncomputable def circum_square.r (bd : B3) (call : FuncId → List V → Heap → Option R) (n : Nat) (v0 v1 v2 : V) (H : Heap) : Option R :=
 (bd (boxA ty_api_Point v0) fun o1 =>
 (bd (boxA ty_api_Point v1) fun o2 =>
 (bd (boxA ty_api_Point v2) fun o3 =>
 (bd (ldN 2 (.ptr (some (H.n, 0))) ((((H.push o1).push o2).push o3).push (.cells [(.bool false), (.slice ⟨none, 0, 0, false⟩)] ty_api_Int false))) fun t8_4 =>
 (bd (ldN 2 (.ptr (some ((H.push o1).n, 0))) ((((H.push o1).push o2).push o3).push (.cells [(.bool false), (.slice ⟨none, 0, 0, false⟩)] ty_api_Int false))) fun t9_5 =>
 (bd (ldN 2 (.ptr (some (((H.push o1).push o2).n, 0))) ((((H.push o1).push o2).push o3).push (.cells [(.bool false), (.slice ⟨none, 0, 0, false⟩)] ty_api_Int false))) fun t10_6 =>
 (bd (call 164 [t8_4, t9_5, t10_6] ((((H.push o1).push o2).push o3).push (.cells [(.bool false), (.slice ⟨none, 0, 0, false⟩)] ty_api_Int false))) fun r7 =>
 (bd (stA 2 (.ptr (some (r7.2.n, 0))) r7.1 (r7.2.push (.cells [(.int .i64 0), (.int .u64 0)] ty_api_Wide false))) fun H8 =>
 (bd (ldN 2 (.ptr (some (r7.2.n, 0))) H8) fun t12_9 =>
 (bd (ldN 2 (.ptr (some (r7.2.n, 0))) H8) fun t13_10 =>
 (bd (call 165 [t12_9, t13_10] H8) fun r11 =>
 (bd (call 161 [r11.1] r11.2) fun r12 =>
 (bd (stA 2 (.ptr (some ((((H.push o1).push o2).push o3).n, 0))) r12.1 r12.2) fun H13 =>
 (bd (ldN 2 (.ptr (some ((((H.push o1).push o2).push o3).n, 0))) H13) fun t14 =>
 (frzR t14 H13)))))))))))))))
theorem circum_square.r_e (n : Nat) (v0 v1 v2 : V) (H : Heap) : circum_square.r @bdI (callA C n) n v0 v1 v2 H = E C n 117 [] (argsA 0 [v0, v1, v2]) H (kR C 117) := by
  unfold circum_square.r
  kernel_rfl
noncomputable def circum_square.rf (bd : B3) (call : FuncId → List V → Heap → Option R) (n : Nat) (a : List V) (H : Heap) : Option R := pureA a H fun a => (match a with | [v0, v1, v2] => circum_square.r bd call n v0 v1 v2 ⟨0, .nil⟩ | a => E C n 117 [] (argsA 0 a) ⟨0, .nil⟩ (kR C 117))
theorem circum_square.rf_b (n : Nat) (a : List V) (H : Heap) : (match a with | [v0, v1, v2] => circum_square.r @bdI (callA C n) n v0 v1 v2 H | a => E C n 117 [] (argsA 0 a) H (kR C 117)) = E C n 117 [] (argsA 0 a) H (kR C 117) := by
  split
  · exact circum_square.r_e n _ _ _ H
  · rfl
theorem circum_square.rf_e (n : Nat) (a : List V) (H : Heap) : circum_square.rf @bdI (callA C n) n a H = callA C (n + 1) 117 a H := by
  unfold circum_square.rf
  refine (congrArg (pureA a H) (funext fun a => circum_square.rf_b n a ⟨0, .nil⟩)).trans ?_
  kernel_rfl
noncomputable def cover_part.r (bd : B3) (call : FuncId → List V → Heap → Option R) (n : Nat) (v0 : V) (H : Heap) : Option R :=
 (bd (arA .quo v0 (.int .i64 3)) fun t7_1 =>
 (bd (arA .rem v0 (.int .i64 3)) fun t9_2 =>
 (bd (arA .lss t9_2 (.int .i64 0)) fun t11_3 =>
 (bd (asB t11_3) fun b4 =>
 if b4 = true then
 (bd (arA .sub t7_1 (.int .i64 1)) fun t13_5 =>
 (bd (arA .add t9_2 (.int .i64 3)) fun t15_6 =>
 (some (.tuple [t15_6, t13_5], H))))
 else
 (some (.tuple [t9_2, t7_1], H))))))
theorem cover_part.r_e (n : Nat) (v0 : V) (H : Heap) : cover_part.r @bdI (callA C n) n v0 H = E C n 118 [] (argsA 0 [v0]) H (kR C 118) := by
  unfold cover_part.r
  kernel_rfl
noncomputable def cover_part.rf (bd : B3) (call : FuncId → List V → Heap → Option R) (n : Nat) (a : List V) (H : Heap) : Option R := pureA a H fun a => (match a with | [v0] => cover_part.r bd call n v0 ⟨0, .nil⟩ | a => E C n 118 [] (argsA 0 a) ⟨0, .nil⟩ (kR C 118))
theorem cover_part.rf_b (n : Nat) (a : List V) (H : Heap) : (match a with | [v0] => cover_part.r @bdI (callA C n) n v0 H | a => E C n 118 [] (argsA 0 a) H (kR C 118)) = E C n 118 [] (argsA 0 a) H (kR C 118) := by
  split
  · exact cover_part.r_e n _ H
  · rfl
theorem cover_part.rf_e (n : Nat) (a : List V) (H : Heap) : cover_part.rf @bdI (callA C n) n a H = callA C (n + 1) 118 a H := by
  unfold cover_part.rf
  refine (congrArg (pureA a H) (funext fun a => cover_part.rf_b n a ⟨0, .nil⟩)).trans ?_
  kernel_rfl
@[irreducible] noncomputable def slices_Index_int_int.l0 (n m0 : Nat) (v0 v1 v7 v8 : V) (H : Heap) : Option R := Lp C n 121 [1, 0, 1, 0, 0] m0 [(0, v0), (1, v1), (7, v7), (8, v8)] H (kB 0 (kC C n 121 [1, 1] (kR C 121)))
noncomputable def slices_Index_int_int.r_l0 (bd : B3) (call : FuncId → List V → Heap → Option R) (n : Nat) (s0 : V → V → V → V → Heap → Option R) (v0 v1 v7 v8 : V) (H : Heap) : Option R :=
 (bd (arA .lss v8 v7) fun t9_1 =>
 (bd (asB t9_1) fun b2 =>
 if b2 = true then
 (bd (idxS 1 v0 v8) fun t14_3 =>
 (bd (ld1 t14_3 H) fun t15_4 =>
 (bd (arA .eql v1 t15_4) fun t16_5 =>
 (bd (asB t16_5) fun b6 =>
 if b6 = true then
 (some (v8, H))
 else
 (bd (arA .add v8 (.int .i64 1)) fun t18_7 =>
 (s0 v0 v1 v7 t18_7 H))))))
 else
 (some ((.int .i64 (-1)), H))))
theorem slices_Index_int_int.r_l0_e (n m0 : Nat) : slices_Index_int_int.r_l0 @bdI (callA C n) n (slices_Index_int_int.l0 n m0) = slices_Index_int_int.l0 n (m0 + 1) := by
  funext v0 v1 v7 v8 H
  unfold slices_Index_int_int.r_l0
  kernel_rfl
noncomputable def slices_Index_int_int.r_l0_lp (bd : B3) (call : FuncId → List V → Heap → Option R) (n : Nat) (m : Nat) : V → V → V → V → Heap → Option R := Nat.rec (motive := fun _ => V → V → V → V → Heap → Option R) (fun _ _ _ _ _ => none) (fun _ self => slices_Index_int_int.r_l0 bd call n self) m
theorem slices_Index_int_int.r_l0_lp_e (n : Nat) : slices_Index_int_int.r_l0_lp @bdI (callA C n) n = slices_Index_int_int.l0 n := by
  funext m
  induction m with
  | zero => funext v0 v1 v7 v8 H; kernel_rfl
  | succ k ih => exact (congrArg (slices_Index_int_int.r_l0 @bdI (callA C n) n) ih).trans (slices_Index_int_int.r_l0_e n k)
noncomputable def slices_Index_int_int.r (bd : B3) (call : FuncId → List V → Heap → Option R) (n : Nat) (v0 v1 : V) (H : Heap) : Option R :=
 (bd (lenSl v0) fun t7_1 =>
 (slices_Index_int_int.r_l0_lp bd call n n v0 v1 t7_1 (.int .i64 0) H))
theorem slices_Index_int_int.r_e (n : Nat) (v0 v1 : V) (H : Heap) : slices_Index_int_int.r @bdI (callA C n) n v0 v1 H = E C n 121 [] (argsA 0 [v0, v1]) H (kR C 121) := by
  unfold slices_Index_int_int.r
  rewrite [slices_Index_int_int.r_l0_lp_e]
  kernel_rfl
noncomputable def slices_Index_int_int.rf (bd : B3) (call : FuncId → List V → Heap → Option R) (n : Nat) (a : List V) (H : Heap) : Option R := (match a with | [v0, v1] => slices_Index_int_int.r bd call n v0 v1 H | a => E C n 121 [] (argsA 0 a) H (kR C 121))
theorem slices_Index_int_int.rf_b (n : Nat) (a : List V) (H : Heap) : (match a with | [v0, v1] => slices_Index_int_int.r @bdI (callA C n) n v0 v1 H | a => E C n 121 [] (argsA 0 a) H (kR C 121)) = E C n 121 [] (argsA 0 a) H (kR C 121) := by
  split
  · exact slices_Index_int_int.r_e n _ _ H
  · rfl
theorem slices_Index_int_int.rf_e (n : Nat) (a : List V) (H : Heap) : slices_Index_int_int.rf @bdI (callA C n) n a H = callA C (n + 1) 121 a H := by
  unfold slices_Index_int_int.rf
  refine (slices_Index_int_int.rf_b n a H).trans ?_
  kernel_rfl
noncomputable def mesh_Mesh_Corner.r (bd : B3) (call : FuncId → List V → Heap → Option R) (n : Nat) (v0 v1 v2 : V) (H : Heap) : Option R :=
 (bd (call 134 [v0, v1] (H.push (.cells [(.int .i64 0), (.int .i64 0)] ty_api_Point false))) fun r1 =>
 (bd (unA .not r1.1) fun t11_2 =>
 (bd (asB t11_2) fun b3 =>
 if b3 = true then
 (bd (flA [(0, 1), (1, 1)] [(.int .i64 0), (.int .i64 0)] []) fun t12_4 =>
 (bd (stA 2 (.ptr (some (H.n, 0))) t12_4 r1.2) fun H5 =>
 (bd (ldN 2 (.ptr (some (H.n, 0))) H5) fun t6 =>
 (some (.tuple [t6, (.bool false)], H5)))))
 else
 (bd (call 129 [v2] (r1.2.more 0)) fun r7 =>
 (bd (nilC v0) fun t15_8 =>
 (bd (faA 4 t15_8) fun t16_9 =>
 (bd (ld1 t16_9 r7.2) fun t17_10 =>
 (bd (chk (ld1 t16_9 (r1.2.more 0)) t17_10) fun _ =>
 (bd (idxS 9 t17_10 v1) fun t19_11 =>
 (bd (ldN 9 t19_11 r7.2) fun t20_12 =>
 (bd (chk (ldN 9 t19_11 (r1.2.more 0)) t20_12) fun _ =>
 (bd (call 127 [v0, t20_12, r7.1] r7.2) fun r13 =>
 (bd (extA r13.1 0) fun t24_14 =>
 (bd (extA r13.1 1) fun t25_15 =>
 (bd (stA 2 (.ptr (some (H.n, 0))) t24_14 r13.2) fun H16 =>
 (bd (ldN 2 (.ptr (some (H.n, 0))) H16) fun t17 =>
 (some (.tuple [t17, t25_15], H16))))))))))))))))))
theorem mesh_Mesh_Corner.r_e (n : Nat) (v0 v1 v2 : V) (H : Heap) : mesh_Mesh_Corner.r @bdI (callA C n) n v0 v1 v2 H = E C n 123 [] (argsA 0 [v0, v1, v2]) H (kR C 123) := by
  unfold mesh_Mesh_Corner.r
  kernel_rfl
noncomputable def mesh_Mesh_Corner.rf (bd : B3) (call : FuncId → List V → Heap → Option R) (n : Nat) (a : List V) (H : Heap) : Option R := (match a with | [v0, v1, v2] => mesh_Mesh_Corner.r bd call n v0 v1 v2 H | a => E C n 123 [] (argsA 0 a) H (kR C 123))
theorem mesh_Mesh_Corner.rf_b (n : Nat) (a : List V) (H : Heap) : (match a with | [v0, v1, v2] => mesh_Mesh_Corner.r @bdI (callA C n) n v0 v1 v2 H | a => E C n 123 [] (argsA 0 a) H (kR C 123)) = E C n 123 [] (argsA 0 a) H (kR C 123) := by
  split
  · exact mesh_Mesh_Corner.r_e n _ _ _ H
  · rfl
theorem mesh_Mesh_Corner.rf_e (n : Nat) (a : List V) (H : Heap) : mesh_Mesh_Corner.rf @bdI (callA C n) n a H = callA C (n + 1) 123 a H := by
  unfold mesh_Mesh_Corner.rf
  refine (mesh_Mesh_Corner.rf_b n a H).trans ?_
  kernel_rfl
noncomputable def arena_Arena_Live.r (bd : B3) (call : FuncId → List V → Heap → Option R) (n : Nat) (v0 v1 : V) (H : Heap) : Option R :=
 (bd (call 72 [v0, v1] H) fun r1 =>
 (some (r1.1, r1.2)))
theorem arena_Arena_Live.r_e (n : Nat) (v0 v1 : V) (H : Heap) : arena_Arena_Live.r @bdI (callA C n) n v0 v1 H = E C n 126 [] (argsA 0 [v0, v1]) H (kR C 126) := by
  unfold arena_Arena_Live.r
  kernel_rfl
noncomputable def arena_Arena_Live.rf (bd : B3) (call : FuncId → List V → Heap → Option R) (n : Nat) (a : List V) (H : Heap) : Option R := (match a with | [v0, v1] => arena_Arena_Live.r bd call n v0 v1 H | a => E C n 126 [] (argsA 0 a) H (kR C 126))
theorem arena_Arena_Live.rf_b (n : Nat) (a : List V) (H : Heap) : (match a with | [v0, v1] => arena_Arena_Live.r @bdI (callA C n) n v0 v1 H | a => E C n 126 [] (argsA 0 a) H (kR C 126)) = E C n 126 [] (argsA 0 a) H (kR C 126) := by
  split
  · exact arena_Arena_Live.r_e n _ _ H
  · rfl
theorem arena_Arena_Live.rf_e (n : Nat) (a : List V) (H : Heap) : arena_Arena_Live.rf @bdI (callA C n) n a H = callA C (n + 1) 126 a H := by
  unfold arena_Arena_Live.rf
  refine (arena_Arena_Live.rf_b n a H).trans ?_
  kernel_rfl
noncomputable def mesh_Mesh_place.r (bd : B3) (call : FuncId → List V → Heap → Option R) (n : Nat) (v0 v1 v2 : V) (H : Heap) : Option R :=
 (bd (boxA ty_api_Tri v1) fun o1 =>
 (bd (nilC v0) fun t9_2 =>
 (bd (faA 3 t9_2) fun t10_3 =>
 (bd (ld1 t10_3 (((H.push o1).push (.cells [(.int .i64 0), (.int .i64 0)] ty_api_Point false)).more 0)) fun t11_4 =>
 (bd (faA 0 (.ptr (some (H.n, 0)))) fun t13_5 =>
 (bd (idxP 3 1 t13_5 v2) fun t14_6 =>
 (bd (ld1 t14_6 (((H.push o1).push (.cells [(.int .i64 0), (.int .i64 0)] ty_api_Point false)).more 0)) fun t15_7 =>
 (bd (idxS 4 t11_4 t15_7) fun t16_8 =>
 (bd (faA 1 t16_8) fun t17_9 =>
 (bd (ldN 2 t17_9 (((H.push o1).push (.cells [(.int .i64 0), (.int .i64 0)] ty_api_Point false)).more 0)) fun t18_10 =>
 (bd (faA 3 (.ptr (some (H.n, 0)))) fun t20_11 =>
 (bd (idxP 3 2 t20_11 v2) fun t21_12 =>
 (bd (ldN 2 t21_12 (((H.push o1).push (.cells [(.int .i64 0), (.int .i64 0)] ty_api_Point false)).more 0)) fun t22_13 =>
 (bd (nilC v0) fun t24_14 =>
 (bd (faA 0 t24_14) fun t25_15 =>
 (bd (ld1 t25_15 (((H.push o1).push (.cells [(.int .i64 0), (.int .i64 0)] ty_api_Point false)).more 0)) fun t26_16 =>
 (bd (call 33 [t18_10, t22_13, t26_16] (((H.push o1).push (.cells [(.int .i64 0), (.int .i64 0)] ty_api_Point false)).more 0)) fun r17 =>
 (bd (extA r17.1 0) fun t28_18 =>
 (bd (extA r17.1 1) fun t29_19 =>
 (bd (stA 2 (.ptr (some ((H.push o1).n, 0))) t28_18 r17.2) fun H20 =>
 (bd (ldN 2 (.ptr (some ((H.push o1).n, 0))) H20) fun t21 =>
 (some (.tuple [t21, t29_19], H20)))))))))))))))))))))))
theorem mesh_Mesh_place.r_e (n : Nat) (v0 v1 v2 : V) (H : Heap) : mesh_Mesh_place.r @bdI (callA C n) n v0 v1 v2 H = E C n 127 [] (argsA 0 [v0, v1, v2]) H (kR C 127) := by
  unfold mesh_Mesh_place.r
  kernel_rfl
noncomputable def mesh_Mesh_place.rf (bd : B3) (call : FuncId → List V → Heap → Option R) (n : Nat) (a : List V) (H : Heap) : Option R := (match a with | [v0, v1, v2] => mesh_Mesh_place.r bd call n v0 v1 v2 H | a => E C n 127 [] (argsA 0 a) H (kR C 127))
theorem mesh_Mesh_place.rf_b (n : Nat) (a : List V) (H : Heap) : (match a with | [v0, v1, v2] => mesh_Mesh_place.r @bdI (callA C n) n v0 v1 v2 H | a => E C n 127 [] (argsA 0 a) H (kR C 127)) = E C n 127 [] (argsA 0 a) H (kR C 127) := by
  split
  · exact mesh_Mesh_place.r_e n _ _ _ H
  · rfl
theorem mesh_Mesh_place.rf_e (n : Nat) (a : List V) (H : Heap) : mesh_Mesh_place.rf @bdI (callA C n) n a H = callA C (n + 1) 127 a H := by
  unfold mesh_Mesh_place.rf
  refine (mesh_Mesh_place.rf_b n a H).trans ?_
  kernel_rfl
end Go.AM.L
end
section
set_option linter.unusedVariables false
set_option linter.unusedSimpArgs false
set_option maxRecDepth 1000000
set_option linter.unusedVariables false
namespace Go.AM.L
noncomputable def pred_Orient.r (bd : B3) (call : FuncId → List V → Heap → Option R) (n : Nat) (v0 v1 v2 : V) (H : Heap) : Option R :=
 (bd (boxA ty_api_Point v0) fun o1 =>
 (bd (boxA ty_api_Point v1) fun o2 =>
 (bd (boxA ty_api_Point v2) fun o3 =>
 (bd (ldN 2 (.ptr (some (H.n, 0))) (((H.push o1).push o2).push o3)) fun t7_4 =>
 (bd (ldN 2 (.ptr (some ((H.push o1).n, 0))) (((H.push o1).push o2).push o3)) fun t8_5 =>
 (bd (ldN 2 (.ptr (some (((H.push o1).push o2).n, 0))) (((H.push o1).push o2).push o3)) fun t9_6 =>
 (bd (bSl 2 ty_api_Point [(.int .i64 0), (.int .i64 0)] 3 [(0, t7_4), (1, t8_5), (2, t9_6)]) fun o7 =>
 (bd (call 168 [(.slice ⟨some ((((H.push o1).push o2).push o3).n, 0), 3, 2, false⟩)] ((((H.push o1).push o2).push o3).push o7)) fun r8 =>
 (bd (unA .not r8.1) fun t12_9 =>
 (bd (asB t12_9) fun b10 =>
 if b10 = true then
 (some ((.int .i64 0), r8.2))
 else
 (bd (ldN 2 (.ptr (some (H.n, 0))) r8.2) fun t13_11 =>
 (bd (ldN 2 (.ptr (some ((H.push o1).n, 0))) r8.2) fun t14_12 =>
 (bd (ldN 2 (.ptr (some (((H.push o1).push o2).n, 0))) r8.2) fun t15_13 =>
 (bd (call 169 [t13_11, t14_12, t15_13] r8.2) fun r14 =>
 (some (r14.1, r14.2))))))))))))))))
theorem pred_Orient.r_e (n : Nat) (v0 v1 v2 : V) (H : Heap) : pred_Orient.r @bdI (callA C n) n v0 v1 v2 H = E C n 128 [] (argsA 0 [v0, v1, v2]) H (kR C 128) := by
  unfold pred_Orient.r
  kernel_rfl
noncomputable def pred_Orient.rf (bd : B3) (call : FuncId → List V → Heap → Option R) (n : Nat) (a : List V) (H : Heap) : Option R := pureA a H fun a => (match a with | [v0, v1, v2] => pred_Orient.r bd call n v0 v1 v2 ⟨0, .nil⟩ | a => E C n 128 [] (argsA 0 a) ⟨0, .nil⟩ (kR C 128))
theorem pred_Orient.rf_b (n : Nat) (a : List V) (H : Heap) : (match a with | [v0, v1, v2] => pred_Orient.r @bdI (callA C n) n v0 v1 v2 H | a => E C n 128 [] (argsA 0 a) H (kR C 128)) = E C n 128 [] (argsA 0 a) H (kR C 128) := by
  split
  · exact pred_Orient.r_e n _ _ _ H
  · rfl
theorem pred_Orient.rf_e (n : Nat) (a : List V) (H : Heap) : pred_Orient.rf @bdI (callA C n) n a H = callA C (n + 1) 128 a H := by
  unfold pred_Orient.rf
  refine (congrArg (pureA a H) (funext fun a => pred_Orient.rf_b n a ⟨0, .nil⟩)).trans ?_
  kernel_rfl
noncomputable def mesh_third.r (bd : B3) (call : FuncId → List V → Heap → Option R) (n : Nat) (v0 : V) (H : Heap) : Option R :=
 (bd (arA .rem v0 (.int .i64 3)) fun t4_1 =>
 (bd (arA .add t4_1 (.int .i64 3)) fun t5_2 =>
 (bd (arA .rem t5_2 (.int .i64 3)) fun t6_3 =>
 (some (t6_3, H)))))
theorem mesh_third.r_e (n : Nat) (v0 : V) (H : Heap) : mesh_third.r @bdI (callA C n) n v0 H = E C n 129 [] (argsA 0 [v0]) H (kR C 129) := by
  unfold mesh_third.r
  kernel_rfl
noncomputable def mesh_third.rf (bd : B3) (call : FuncId → List V → Heap → Option R) (n : Nat) (a : List V) (H : Heap) : Option R := pureA a H fun a => (match a with | [v0] => mesh_third.r bd call n v0 ⟨0, .nil⟩ | a => E C n 129 [] (argsA 0 a) ⟨0, .nil⟩ (kR C 129))
theorem mesh_third.rf_b (n : Nat) (a : List V) (H : Heap) : (match a with | [v0] => mesh_third.r @bdI (callA C n) n v0 H | a => E C n 129 [] (argsA 0 a) H (kR C 129)) = E C n 129 [] (argsA 0 a) H (kR C 129) := by
  split
  · exact mesh_third.r_e n _ H
  · rfl
theorem mesh_third.rf_e (n : Nat) (a : List V) (H : Heap) : mesh_third.rf @bdI (callA C n) n a H = callA C (n + 1) 129 a H := by
  unfold mesh_third.rf
  refine (congrArg (pureA a H) (funext fun a => mesh_third.rf_b n a ⟨0, .nil⟩)).trans ?_
  kernel_rfl
noncomputable def lift_Less.r (bd : B3) (call : FuncId → List V → Heap → Option R) (n : Nat) (v0 v1 : V) (H : Heap) : Option R :=
 (bd (boxA ty_api_Off v0) fun o1 =>
 (bd (boxA ty_api_Off v1) fun o2 =>
 (bd (faA 0 (.ptr (some (H.n, 0)))) fun t5_3 =>
 (bd (ld1 t5_3 (((H.push o1).push o2).push (.cells [(.int .i64 0), (.int .i64 0)] ty_api_Off false))) fun t6_4 =>
 (bd (faA 0 (.ptr (some ((H.push o1).n, 0)))) fun t7_5 =>
 (bd (ld1 t7_5 (((H.push o1).push o2).push (.cells [(.int .i64 0), (.int .i64 0)] ty_api_Off false))) fun t8_6 =>
 (bd (arA .sub t6_4 t8_6) fun t9_7 =>
 (bd (faA 1 (.ptr (some (H.n, 0)))) fun t10_8 =>
 (bd (ld1 t10_8 (((H.push o1).push o2).push (.cells [(.int .i64 0), (.int .i64 0)] ty_api_Off false))) fun t11_9 =>
 (bd (faA 1 (.ptr (some ((H.push o1).n, 0)))) fun t12_10 =>
 (bd (ld1 t12_10 (((H.push o1).push o2).push (.cells [(.int .i64 0), (.int .i64 0)] ty_api_Off false))) fun t13_11 =>
 (bd (arA .sub t11_9 t13_11) fun t14_12 =>
 (bd (flA [(0, 1), (1, 1)] [(.int .i64 0), (.int .i64 0)] [(0, t9_7), (1, t14_12)]) fun t15_13 =>
 (bd (stA 2 (.ptr (some (((H.push o1).push o2).n, 0))) t15_13 (((H.push o1).push o2).push (.cells [(.int .i64 0), (.int .i64 0)] ty_api_Off false))) fun H14 =>
 (bd (ldN 2 (.ptr (some (((H.push o1).push o2).n, 0))) H14) fun t15 =>
 (some (t15, H14)))))))))))))))))
theorem lift_Less.r_e (n : Nat) (v0 v1 : V) (H : Heap) : lift_Less.r @bdI (callA C n) n v0 v1 H = E C n 130 [] (argsA 0 [v0, v1]) H (kR C 130) := by
  unfold lift_Less.r
  kernel_rfl
noncomputable def lift_Less.rf (bd : B3) (call : FuncId → List V → Heap → Option R) (n : Nat) (a : List V) (H : Heap) : Option R := pureA a H fun a => (match a with | [v0, v1] => lift_Less.r bd call n v0 v1 ⟨0, .nil⟩ | a => E C n 130 [] (argsA 0 a) ⟨0, .nil⟩ (kR C 130))
theorem lift_Less.rf_b (n : Nat) (a : List V) (H : Heap) : (match a with | [v0, v1] => lift_Less.r @bdI (callA C n) n v0 v1 H | a => E C n 130 [] (argsA 0 a) H (kR C 130)) = E C n 130 [] (argsA 0 a) H (kR C 130) := by
  split
  · exact lift_Less.r_e n _ _ H
  · rfl
theorem lift_Less.rf_e (n : Nat) (a : List V) (H : Heap) : lift_Less.rf @bdI (callA C n) n a H = callA C (n + 1) 130 a H := by
  unfold lift_Less.rf
  refine (congrArg (pureA a H) (funext fun a => lift_Less.rf_b n a ⟨0, .nil⟩)).trans ?_
  kernel_rfl
noncomputable def lift_part.r (bd : B3) (call : FuncId → List V → Heap → Option R) (n : Nat) (v0 v1 : V) (H : Heap) : Option R :=
 (bd (arA .quo v0 v1) fun t10_1 =>
 (bd (arA .rem v0 v1) fun t13_2 =>
 (bd (arA .lss t13_2 (.int .i64 0)) fun t15_3 =>
 (bd (asB t15_3) fun b4 =>
 if b4 = true then
 (bd (arA .sub t10_1 (.int .i64 1)) fun t17_5 =>
 (bd (arA .add t13_2 v1) fun t20_6 =>
 (some (.tuple [t20_6, t17_5], (H.more 0)))))
 else
 (some (.tuple [t13_2, t10_1], (H.more 0)))))))
theorem lift_part.r_e (n : Nat) (v0 v1 : V) (H : Heap) : lift_part.r @bdI (callA C n) n v0 v1 H = E C n 133 [] (argsA 0 [v0, v1]) H (kR C 133) := by
  unfold lift_part.r
  kernel_rfl
noncomputable def lift_part.rf (bd : B3) (call : FuncId → List V → Heap → Option R) (n : Nat) (a : List V) (H : Heap) : Option R := pureA a H fun a => (match a with | [v0, v1] => lift_part.r bd call n v0 v1 ⟨0, .nil⟩ | a => E C n 133 [] (argsA 0 a) ⟨0, .nil⟩ (kR C 133))
theorem lift_part.rf_b (n : Nat) (a : List V) (H : Heap) : (match a with | [v0, v1] => lift_part.r @bdI (callA C n) n v0 v1 H | a => E C n 133 [] (argsA 0 a) H (kR C 133)) = E C n 133 [] (argsA 0 a) H (kR C 133) := by
  split
  · exact lift_part.r_e n _ _ H
  · rfl
theorem lift_part.rf_e (n : Nat) (a : List V) (H : Heap) : lift_part.rf @bdI (callA C n) n a H = callA C (n + 1) 133 a H := by
  unfold lift_part.rf
  refine (congrArg (pureA a H) (funext fun a => lift_part.rf_b n a ⟨0, .nil⟩)).trans ?_
  kernel_rfl
noncomputable def mesh_Mesh_face.r (bd : B3) (call : FuncId → List V → Heap → Option R) (n : Nat) (v0 v1 : V) (H : Heap) : Option R :=
 (bd (neqA P ty_p_mesh_Mesh v0 (.ptr none)) fun t6_1 =>
 (bd (asB t6_1) fun b2 =>
 if b2 = true then
 (bd (nilC v0) fun t9_3 =>
 (bd (faA 2 t9_3) fun t10_4 =>
 (bd (ld1 t10_4 H) fun t11_5 =>
 (bd (call 126 [t11_5, v1] H) fun r6 =>
 (some (r6.1, r6.2))))))
 else
 (some ((.bool false), H))))
theorem mesh_Mesh_face.r_e (n : Nat) (v0 v1 : V) (H : Heap) : mesh_Mesh_face.r @bdI (callA C n) n v0 v1 H = E C n 134 [] (argsA 0 [v0, v1]) H (kR C 134) := by
  unfold mesh_Mesh_face.r
  kernel_rfl
noncomputable def mesh_Mesh_face.rf (bd : B3) (call : FuncId → List V → Heap → Option R) (n : Nat) (a : List V) (H : Heap) : Option R := (match a with | [v0, v1] => mesh_Mesh_face.r bd call n v0 v1 H | a => E C n 134 [] (argsA 0 a) H (kR C 134))
theorem mesh_Mesh_face.rf_b (n : Nat) (a : List V) (H : Heap) : (match a with | [v0, v1] => mesh_Mesh_face.r @bdI (callA C n) n v0 v1 H | a => E C n 134 [] (argsA 0 a) H (kR C 134)) = E C n 134 [] (argsA 0 a) H (kR C 134) := by
  split
  · exact mesh_Mesh_face.r_e n _ _ H
  · rfl
theorem mesh_Mesh_face.rf_e (n : Nat) (a : List V) (H : Heap) : mesh_Mesh_face.rf @bdI (callA C n) n a H = callA C (n + 1) 134 a H := by
  unfold mesh_Mesh_face.rf
  refine (mesh_Mesh_face.rf_b n a H).trans ?_
  kernel_rfl
noncomputable def lift_within.r (bd : B3) (call : FuncId → List V → Heap → Option R) (n : Nat) (v0 : V) (H : Heap) : Option R :=
 (bd (arA .geq v0 (.int .i64 (-1099511627776))) fun t4_1 =>
 (bd (asB t4_1) fun b2 =>
 if b2 = true then
 (bd (arA .leq v0 (.int .i64 1099511627776)) fun t7_3 =>
 (some (t7_3, H)))
 else
 (some ((.bool false), H))))
theorem lift_within.r_e (n : Nat) (v0 : V) (H : Heap) : lift_within.r @bdI (callA C n) n v0 H = E C n 149 [] (argsA 0 [v0]) H (kR C 149) := by
  unfold lift_within.r
  kernel_rfl
noncomputable def lift_within.rf (bd : B3) (call : FuncId → List V → Heap → Option R) (n : Nat) (a : List V) (H : Heap) : Option R := pureA a H fun a => (match a with | [v0] => lift_within.r bd call n v0 ⟨0, .nil⟩ | a => E C n 149 [] (argsA 0 a) ⟨0, .nil⟩ (kR C 149))
theorem lift_within.rf_b (n : Nat) (a : List V) (H : Heap) : (match a with | [v0] => lift_within.r @bdI (callA C n) n v0 H | a => E C n 149 [] (argsA 0 a) H (kR C 149)) = E C n 149 [] (argsA 0 a) H (kR C 149) := by
  split
  · exact lift_within.r_e n _ H
  · rfl
theorem lift_within.rf_e (n : Nat) (a : List V) (H : Heap) : lift_within.rf @bdI (callA C n) n a H = callA C (n + 1) 149 a H := by
  unfold lift_within.rf
  refine (congrArg (pureA a H) (funext fun a => lift_within.rf_b n a ⟨0, .nil⟩)).trans ?_
  kernel_rfl
noncomputable def whole_norm.r (bd : B3) (call : FuncId → List V → Heap → Option R) (n : Nat) (v0 v1 : V) (H : Heap) : Option R :=
 (bd (call 189 [v1] (H.push (.cells [(.bool false), (.slice ⟨none, 0, 0, false⟩)] ty_api_Int false))) fun r1 =>
 (bd (asB v0) fun b2 =>
 if b2 = true then
 (bd (lenSl r1.1) fun t10_3 =>
 (bd (arA .gtr t10_3 (.int .i64 0)) fun t11_4 =>
 (bd (flA [(0, 1), (1, 1)] [(.bool false), (.slice ⟨none, 0, 0, false⟩)] [(0, t11_4), (1, r1.1)]) fun t14_5 =>
 (bd (stA 2 (.ptr (some (H.n, 0))) t14_5 r1.2) fun H6 =>
 (bd (ldN 2 (.ptr (some (H.n, 0))) H6) fun t7 =>
 (frzR t7 H6))))))
 else
 (bd (flA [(0, 1), (1, 1)] [(.bool false), (.slice ⟨none, 0, 0, false⟩)] [(0, (.bool false)), (1, r1.1)]) fun t14_8 =>
 (bd (stA 2 (.ptr (some (H.n, 0))) t14_8 r1.2) fun H9 =>
 (bd (ldN 2 (.ptr (some (H.n, 0))) H9) fun t10 =>
 (frzR t10 H9))))))
theorem whole_norm.r_e (n : Nat) (v0 v1 : V) (H : Heap) : whole_norm.r @bdI (callA C n) n v0 v1 H = E C n 155 [] (argsA 0 [v0, v1]) H (kR C 155) := by
  unfold whole_norm.r
  kernel_rfl
noncomputable def whole_norm.rf (bd : B3) (call : FuncId → List V → Heap → Option R) (n : Nat) (a : List V) (H : Heap) : Option R := pureA a H fun a => (match a with | [v0, v1] => whole_norm.r bd call n v0 v1 ⟨0, .nil⟩ | a => E C n 155 [] (argsA 0 a) ⟨0, .nil⟩ (kR C 155))
theorem whole_norm.rf_b (n : Nat) (a : List V) (H : Heap) : (match a with | [v0, v1] => whole_norm.r @bdI (callA C n) n v0 v1 H | a => E C n 155 [] (argsA 0 a) H (kR C 155)) = E C n 155 [] (argsA 0 a) H (kR C 155) := by
  split
  · exact whole_norm.r_e n _ _ H
  · rfl
theorem whole_norm.rf_e (n : Nat) (a : List V) (H : Heap) : whole_norm.rf @bdI (callA C n) n a H = callA C (n + 1) 155 a H := by
  unfold whole_norm.rf
  refine (congrArg (pureA a H) (funext fun a => whole_norm.rf_b n a ⟨0, .nil⟩)).trans ?_
  kernel_rfl
@[irreducible] noncomputable def nat_Mul.l0 (n m0 : Nat) (v1 v5 v17 v18 v19 : V) (H : Heap) : Option R := Lp C n 156 [1, 1, 0, 1, 0, 0] m0 [(1, v1), (5, v5), (17, v17), (18, v18), (19, v19)] H (kB 0 (kC C n 156 [1, 1, 1] (kR C 156)))
@[irreducible] noncomputable def nat_Mul.l1 (n m0 m1 : Nat) (v1 v5 v6 v7 v8 v17 v18 v19 v24 v25 v26 : V) (H : Heap) : Option R := Lp C n 156 [1, 1, 0, 1, 0, 0, 1, 1, 0, 0, 1, 1, 0, 1, 0, 0] m1 [(1, v1), (5, v5), (6, v6), (7, v7), (8, v8), (17, v17), (18, v18), (19, v19), (24, v24), (25, v25), (26, v26)] H (kB 2 (kC C n 156 [1, 1, 0, 1, 0, 0, 1, 1, 0, 0, 1, 1, 1] (kB 1 (kC C n 156 [1, 1, 0, 1, 0, 0, 1, 1, 1] (kL C n 156 [1, 1, 0, 1, 0, 0] m0 (kB 0 (kC C n 156 [1, 1, 1] (kR C 156))))))))
@[irreducible] noncomputable def nat_Mul.p2 (n m0 : Nat) (v1 v5 v6 v8 v17 v18 v19 : V) (H : Heap) : Option R := E C n 156 [1, 1, 0, 1, 0, 0, 1, 1, 0, 0, 1, 1, 1] [(1, v1), (5, v5), (6, v6), (8, v8), (17, v17), (18, v18), (19, v19)] H (kB 1 (kC C n 156 [1, 1, 0, 1, 0, 0, 1, 1, 1] (kL C n 156 [1, 1, 0, 1, 0, 0] m0 (kB 0 (kC C n 156 [1, 1, 1] (kR C 156))))))
noncomputable def nat_Mul.r_p2 (bd : B3) (call : FuncId → List V → Heap → Option R) (n : Nat) (s0 : V → V → V → V → V → Heap → Option R) (v1 v5 v6 v8 v17 v18 v19 : V) (H : Heap) : Option R :=
 (bd (lenSl v1) fun t59_1 =>
 (bd (arA .add v6 t59_1) fun t60_2 =>
 (bd (cvInt .u32 v8) fun t62_3 =>
 (bd (idxS 1 v5 t60_2) fun t63_4 =>
 (bd (stA 1 t63_4 t62_3 H) fun H5 =>
 (bd (arA .add v19 (.int .i64 1)) fun t64_6 =>
 (s0 v1 v5 v17 v18 t64_6 H5)))))))
theorem nat_Mul.r_p2_e (n : Nat) (m0 : Nat) : nat_Mul.r_p2 @bdI (callA C n) n (nat_Mul.l0 n m0) = nat_Mul.p2 n m0 := by
  funext v1 v5 v6 v8 v17 v18 v19 H
  unfold nat_Mul.r_p2
  kernel_rfl
noncomputable def nat_Mul.r_l1 (bd : B3) (call : FuncId → List V → Heap → Option R) (n : Nat) (s0 : V → V → V → V → V → Heap → Option R) (s1 : V → V → V → V → V → V → V → V → V → V → V → Heap → Option R) (v1 v5 v6 v7 v8 v17 v18 v19 v24 v25 v26 : V) (H : Heap) : Option R :=
 (bd (arA .lss v26 v25) fun t27_1 =>
 (bd (asB t27_1) fun b2 =>
 if b2 = true then
 (bd (idxS 1 v24 v26) fun t29_3 =>
 (bd (ld1 t29_3 H) fun t30_4 =>
 (bd (arA .add v6 v26) fun t35_5 =>
 (bd (idxS 1 v5 t35_5) fun t36_6 =>
 (bd (ld1 t36_6 H) fun t37_7 =>
 (bd (cvInt .u64 t37_7) fun t38_8 =>
 (bd (cvInt .u64 v7) fun t40_9 =>
 (bd (cvInt .u64 t30_4) fun t42_10 =>
 (bd (arA .mul t40_9 t42_10) fun t43_11 =>
 (bd (arA .add t38_8 t43_11) fun t44_12 =>
 (bd (arA .add v8 t44_12) fun t45_13 =>
 (bd (arA .add v6 v26) fun t49_14 =>
 (bd (cvInt .u32 t45_13) fun t51_15 =>
 (bd (idxS 1 v5 t49_14) fun t52_16 =>
 (bd (stA 1 t52_16 t51_15 H) fun H17 =>
 (bd (shA .shr t45_13 (.int .u64 32)) fun t54_18 =>
 (bd (arA .add v26 (.int .i64 1)) fun t55_19 =>
 (s1 v1 v5 v6 v7 t54_18 v17 v18 v19 v24 v25 t55_19 H17))))))))))))))))))
 else
 (nat_Mul.r_p2 bd call n s0 v1 v5 v6 v8 v17 v18 v19 H)))
theorem nat_Mul.r_l1_e (n m0 m1 : Nat) : nat_Mul.r_l1 @bdI (callA C n) n (nat_Mul.l0 n m0) (nat_Mul.l1 n m0 m1) = nat_Mul.l1 n m0 (m1 + 1) := by
  funext v1 v5 v6 v7 v8 v17 v18 v19 v24 v25 v26 H
  unfold nat_Mul.r_l1
  rewrite [nat_Mul.r_p2_e]
  kernel_rfl
noncomputable def nat_Mul.r_l1_lp (bd : B3) (call : FuncId → List V → Heap → Option R) (n : Nat) (s0 : V → V → V → V → V → Heap → Option R) (m : Nat) : V → V → V → V → V → V → V → V → V → V → V → Heap → Option R := Nat.rec (motive := fun _ => V → V → V → V → V → V → V → V → V → V → V → Heap → Option R) (fun _ _ _ _ _ _ _ _ _ _ _ _ => none) (fun _ self => nat_Mul.r_l1 bd call n s0 self) m
theorem nat_Mul.r_l1_lp_e (n m0 : Nat) : nat_Mul.r_l1_lp @bdI (callA C n) n (nat_Mul.l0 n m0) = nat_Mul.l1 n m0 := by
  funext m
  induction m with
  | zero => funext v1 v5 v6 v7 v8 v17 v18 v19 v24 v25 v26 H; kernel_rfl
  | succ k ih => exact (congrArg (nat_Mul.r_l1 @bdI (callA C n) n (nat_Mul.l0 n m0)) ih).trans (nat_Mul.r_l1_e n m0 k)
noncomputable def nat_Mul.r_l0 (bd : B3) (call : FuncId → List V → Heap → Option R) (n : Nat) (s0 : V → V → V → V → V → Heap → Option R) (v1 v5 v17 v18 v19 : V) (H : Heap) : Option R :=
 (bd (arA .lss v19 v18) fun t20_1 =>
 (bd (asB t20_1) fun b2 =>
 if b2 = true then
 (bd (idxS 1 v17 v19) fun t22_3 =>
 (bd (ld1 t22_3 H) fun t23_4 =>
 (bd (lenSl v1) fun t25_5 =>
 (nat_Mul.r_l1_lp bd call n s0 n v1 v5 v19 t23_4 (.int .u64 0) v17 v18 v19 v1 t25_5 (.int .i64 0) H))))
 else
 (bd (call 190 [v5] H) fun r6 =>
 (frzR r6.1 r6.2))))
theorem nat_Mul.r_l0_e (n m0 : Nat) : nat_Mul.r_l0 @bdI (callA C n) n (nat_Mul.l0 n m0) = nat_Mul.l0 n (m0 + 1) := by
  funext v1 v5 v17 v18 v19 H
  unfold nat_Mul.r_l0
  rewrite [nat_Mul.r_l1_lp_e]
  kernel_rfl
noncomputable def nat_Mul.r_l0_lp (bd : B3) (call : FuncId → List V → Heap → Option R) (n : Nat) (m : Nat) : V → V → V → V → V → Heap → Option R := Nat.rec (motive := fun _ => V → V → V → V → V → Heap → Option R) (fun _ _ _ _ _ _ => none) (fun _ self => nat_Mul.r_l0 bd call n self) m
theorem nat_Mul.r_l0_lp_e (n : Nat) : nat_Mul.r_l0_lp @bdI (callA C n) n = nat_Mul.l0 n := by
  funext m
  induction m with
  | zero => funext v1 v5 v17 v18 v19 H; kernel_rfl
  | succ k ih => exact (congrArg (nat_Mul.r_l0 @bdI (callA C n) n) ih).trans (nat_Mul.r_l0_e n k)
noncomputable def nat_Mul.r (bd : B3) (call : FuncId → List V → Heap → Option R) (n : Nat) (v0 v1 : V) (H : Heap) : Option R :=
 (bd (lenSl v0) fun t12_1 =>
 (bd (lenSl v1) fun t14_2 =>
 (bd (arA .add t12_1 t14_2) fun t15_3 =>
 (bd (mkSl 1 4 ty_uint32 [(.int .u32 0)] t15_3 t15_3) fun o4 =>
 (bd (lenSl v0) fun t18_5 =>
 (nat_Mul.r_l0_lp bd call n n v1 (.slice ⟨some (H.n, 0), o4.2, 1, false⟩) v0 t18_5 (.int .i64 0) (H.push o4.1)))))))
theorem nat_Mul.r_e (n : Nat) (v0 v1 : V) (H : Heap) : nat_Mul.r @bdI (callA C n) n v0 v1 H = E C n 156 [] (argsA 0 [v0, v1]) H (kR C 156) := by
  unfold nat_Mul.r
  rewrite [nat_Mul.r_l0_lp_e]
  kernel_rfl
noncomputable def nat_Mul.rf (bd : B3) (call : FuncId → List V → Heap → Option R) (n : Nat) (a : List V) (H : Heap) : Option R := pureA a H fun a => (match a with | [v0, v1] => nat_Mul.r bd call n v0 v1 ⟨0, .nil⟩ | a => E C n 156 [] (argsA 0 a) ⟨0, .nil⟩ (kR C 156))
theorem nat_Mul.rf_b (n : Nat) (a : List V) (H : Heap) : (match a with | [v0, v1] => nat_Mul.r @bdI (callA C n) n v0 v1 H | a => E C n 156 [] (argsA 0 a) H (kR C 156)) = E C n 156 [] (argsA 0 a) H (kR C 156) := by
  split
  · exact nat_Mul.r_e n _ _ H
  · rfl
theorem nat_Mul.rf_e (n : Nat) (a : List V) (H : Heap) : nat_Mul.rf @bdI (callA C n) n a H = callA C (n + 1) 156 a H := by
  unfold nat_Mul.rf
  refine (congrArg (pureA a H) (funext fun a => nat_Mul.rf_b n a ⟨0, .nil⟩)).trans ?_
  kernel_rfl
noncomputable def nat_Of.r (bd : B3) (call : FuncId → List V → Heap → Option R) (n : Nat) (v0 : V) (H : Heap) : Option R :=
 (bd (cvInt .u32 v0) fun t4_1 =>
 (bd (shA .shr v0 (.int .u64 32)) fun t6_2 =>
 (bd (cvInt .u32 t6_2) fun t7_3 =>
 (bd (bSl 1 ty_uint32 [(.int .u32 0)] 2 [(0, t4_1), (1, t7_3)]) fun o4 =>
 (bd (call 190 [(.slice ⟨some (H.n, 0), 2, 1, false⟩)] (H.push o4)) fun r5 =>
 (bd (call 191 [r5.1] r5.2) fun r6 =>
 (frzR r6.1 r6.2)))))))
theorem nat_Of.r_e (n : Nat) (v0 : V) (H : Heap) : nat_Of.r @bdI (callA C n) n v0 H = E C n 157 [] (argsA 0 [v0]) H (kR C 157) := by
  unfold nat_Of.r
  kernel_rfl
noncomputable def nat_Of.rf (bd : B3) (call : FuncId → List V → Heap → Option R) (n : Nat) (a : List V) (H : Heap) : Option R := pureA a H fun a => (match a with | [v0] => nat_Of.r bd call n v0 ⟨0, .nil⟩ | a => E C n 157 [] (argsA 0 a) ⟨0, .nil⟩ (kR C 157))
theorem nat_Of.rf_b (n : Nat) (a : List V) (H : Heap) : (match a with | [v0] => nat_Of.r @bdI (callA C n) n v0 H | a => E C n 157 [] (argsA 0 a) H (kR C 157)) = E C n 157 [] (argsA 0 a) H (kR C 157) := by
  split
  · exact nat_Of.r_e n _ H
  · rfl
theorem nat_Of.rf_e (n : Nat) (a : List V) (H : Heap) : nat_Of.rf @bdI (callA C n) n a H = callA C (n + 1) 157 a H := by
  unfold nat_Of.rf
  refine (congrArg (pureA a H) (funext fun a => nat_Of.rf_b n a ⟨0, .nil⟩)).trans ?_
  kernel_rfl
noncomputable def pred_Dist2.r (bd : B3) (call : FuncId → List V → Heap → Option R) (n : Nat) (v0 v1 : V) (H : Heap) : Option R :=
 (bd (boxA ty_api_Point v0) fun o1 =>
 (bd (boxA ty_api_Point v1) fun o2 =>
 (bd (ldN 2 (.ptr (some (H.n, 0))) (((H.push o1).push o2).push (.cells [(.int .i64 0), (.int .u64 0)] ty_api_Wide false))) fun t5_3 =>
 (bd (ldN 2 (.ptr (some ((H.push o1).n, 0))) (((H.push o1).push o2).push (.cells [(.int .i64 0), (.int .u64 0)] ty_api_Wide false))) fun t6_4 =>
 (bd (bSl 2 ty_api_Point [(.int .i64 0), (.int .i64 0)] 2 [(0, t5_3), (1, t6_4)]) fun o5 =>
 (bd (call 168 [(.slice ⟨some ((((H.push o1).push o2).push (.cells [(.int .i64 0), (.int .u64 0)] ty_api_Wide false)).n, 0), 2, 2, false⟩)] ((((H.push o1).push o2).push (.cells [(.int .i64 0), (.int .u64 0)] ty_api_Wide false)).push o5)) fun r6 =>
 (bd (unA .not r6.1) fun t9_7 =>
 (bd (asB t9_7) fun b8 =>
 if b8 = true then
 (bd (flA [(0, 1), (1, 1)] [(.int .i64 0), (.int .u64 0)] []) fun t10_9 =>
 (bd (stA 2 (.ptr (some (((H.push o1).push o2).n, 0))) t10_9 r6.2) fun H10 =>
 (bd (ldN 2 (.ptr (some (((H.push o1).push o2).n, 0))) H10) fun t11 =>
 (some (t11, H10)))))
 else
 (bd (ldN 2 (.ptr (some (H.n, 0))) r6.2) fun t11_12 =>
 (bd (ldN 2 (.ptr (some ((H.push o1).n, 0))) r6.2) fun t12_13 =>
 (bd (call 193 [t11_12, t12_13] r6.2) fun r14 =>
 (bd (call 192 [r14.1] r14.2) fun r15 =>
 (bd (stA 2 (.ptr (some (((H.push o1).push o2).n, 0))) r15.1 r15.2) fun H16 =>
 (bd (ldN 2 (.ptr (some (((H.push o1).push o2).n, 0))) H16) fun t17 =>
 (some (t17, H16))))))))))))))))
theorem pred_Dist2.r_e (n : Nat) (v0 v1 : V) (H : Heap) : pred_Dist2.r @bdI (callA C n) n v0 v1 H = E C n 158 [] (argsA 0 [v0, v1]) H (kR C 158) := by
  unfold pred_Dist2.r
  kernel_rfl
noncomputable def pred_Dist2.rf (bd : B3) (call : FuncId → List V → Heap → Option R) (n : Nat) (a : List V) (H : Heap) : Option R := pureA a H fun a => (match a with | [v0, v1] => pred_Dist2.r bd call n v0 v1 ⟨0, .nil⟩ | a => E C n 158 [] (argsA 0 a) ⟨0, .nil⟩ (kR C 158))
theorem pred_Dist2.rf_b (n : Nat) (a : List V) (H : Heap) : (match a with | [v0, v1] => pred_Dist2.r @bdI (callA C n) n v0 v1 H | a => E C n 158 [] (argsA 0 a) H (kR C 158)) = E C n 158 [] (argsA 0 a) H (kR C 158) := by
  split
  · exact pred_Dist2.r_e n _ _ H
  · rfl
theorem pred_Dist2.rf_e (n : Nat) (a : List V) (H : Heap) : pred_Dist2.rf @bdI (callA C n) n a H = callA C (n + 1) 158 a H := by
  unfold pred_Dist2.rf
  refine (congrArg (pureA a H) (funext fun a => pred_Dist2.rf_b n a ⟨0, .nil⟩)).trans ?_
  kernel_rfl
noncomputable def whole_sign.r (bd : B3) (call : FuncId → List V → Heap → Option R) (n : Nat) (v0 : V) (H : Heap) : Option R :=
 (bd (boxA ty_api_Int v0) fun o1 =>
 (bd (faA 1 (.ptr (some (H.n, 0)))) fun t4_2 =>
 (bd (ld1 t4_2 (H.push o1)) fun t5_3 =>
 (bd (call 194 [t5_3] (H.push o1)) fun r4 =>
 (bd (arA .eql r4.1 (.int .i64 0)) fun t7_5 =>
 (bd (asB t7_5) fun b6 =>
 if b6 = true then
 (some ((.int .i64 0), r4.2))
 else
 (bd (faA 0 (.ptr (some (H.n, 0)))) fun t9_7 =>
 (bd (ld1 t9_7 r4.2) fun t10_8 =>
 (bd (asB t10_8) fun b9 =>
 if b9 = true then
 (some ((.int .i64 (-1)), r4.2))
 else
 (some ((.int .i64 1), r4.2)))))))))))
theorem whole_sign.r_e (n : Nat) (v0 : V) (H : Heap) : whole_sign.r @bdI (callA C n) n v0 H = E C n 159 [] (argsA 0 [v0]) H (kR C 159) := by
  unfold whole_sign.r
  kernel_rfl
noncomputable def whole_sign.rf (bd : B3) (call : FuncId → List V → Heap → Option R) (n : Nat) (a : List V) (H : Heap) : Option R := pureA a H fun a => (match a with | [v0] => whole_sign.r bd call n v0 ⟨0, .nil⟩ | a => E C n 159 [] (argsA 0 a) ⟨0, .nil⟩ (kR C 159))
theorem whole_sign.rf_b (n : Nat) (a : List V) (H : Heap) : (match a with | [v0] => whole_sign.r @bdI (callA C n) n v0 H | a => E C n 159 [] (argsA 0 a) H (kR C 159)) = E C n 159 [] (argsA 0 a) H (kR C 159) := by
  split
  · exact whole_sign.r_e n _ H
  · rfl
theorem whole_sign.rf_e (n : Nat) (a : List V) (H : Heap) : whole_sign.rf @bdI (callA C n) n a H = callA C (n + 1) 159 a H := by
  unfold whole_sign.rf
  refine (congrArg (pureA a H) (funext fun a => whole_sign.rf_b n a ⟨0, .nil⟩)).trans ?_
  kernel_rfl
noncomputable def nat_Cmp.r (bd : B3) (call : FuncId → List V → Heap → Option R) (n : Nat) (v0 v1 : V) (H : Heap) : Option R :=
 (bd (call 195 [v0, v1] H) fun r1 =>
 (some (r1.1, r1.2)))
theorem nat_Cmp.r_e (n : Nat) (v0 v1 : V) (H : Heap) : nat_Cmp.r @bdI (callA C n) n v0 v1 H = E C n 160 [] (argsA 0 [v0, v1]) H (kR C 160) := by
  unfold nat_Cmp.r
  kernel_rfl
noncomputable def nat_Cmp.rf (bd : B3) (call : FuncId → List V → Heap → Option R) (n : Nat) (a : List V) (H : Heap) : Option R := pureA a H fun a => (match a with | [v0, v1] => nat_Cmp.r bd call n v0 v1 ⟨0, .nil⟩ | a => E C n 160 [] (argsA 0 a) ⟨0, .nil⟩ (kR C 160))
theorem nat_Cmp.rf_b (n : Nat) (a : List V) (H : Heap) : (match a with | [v0, v1] => nat_Cmp.r @bdI (callA C n) n v0 v1 H | a => E C n 160 [] (argsA 0 a) H (kR C 160)) = E C n 160 [] (argsA 0 a) H (kR C 160) := by
  split
  · exact nat_Cmp.r_e n _ _ H
  · rfl
theorem nat_Cmp.rf_e (n : Nat) (a : List V) (H : Heap) : nat_Cmp.rf @bdI (callA C n) n a H = callA C (n + 1) 160 a H := by
  unfold nat_Cmp.rf
  refine (congrArg (pureA a H) (funext fun a => nat_Cmp.rf_b n a ⟨0, .nil⟩)).trans ?_
  kernel_rfl
@[irreducible] noncomputable def whole_OfQuad.p0 (n : Nat) (v1 v2 v3 : V) (H : Heap) : Option R := E C n 161 [1, 1, 1] [(1, v1), (2, v2), (3, v3)] H (kR C 161)
@[irreducible] noncomputable def whole_OfQuad.l1 (n m0 : Nat) (v2 v3 v4 v13 v14 : V) (H : Heap) : Option R := Lp C n 161 [1, 1, 1, 1, 0, 1, 0, 0] m0 [(2, v2), (3, v3), (4, v4), (13, v13), (14, v14)] H (kB 0 (kC C n 161 [1, 1, 1, 1, 1] (kR C 161)))
@[irreducible] noncomputable def whole_OfQuad.p2 (n : Nat) (v2 v3 v4 : V) (H : Heap) : Option R := E C n 161 [1, 1, 1, 1, 1] [(2, v2), (3, v3), (4, v4)] H (kR C 161)
noncomputable def whole_OfQuad.r_p2 (bd : B3) (call : FuncId → List V → Heap → Option R) (n : Nat) (v2 v3 v4 : V) (H : Heap) : Option R :=
 (bd (call 155 [v3, v4] H) fun r1 =>
 (bd (stA 2 v2 r1.1 r1.2) fun H2 =>
 (bd (ldN 2 v2 H2) fun t3 =>
 (frzR t3 H2))))
theorem whole_OfQuad.r_p2_e (n : Nat) : whole_OfQuad.r_p2 @bdI (callA C n) n = whole_OfQuad.p2 n := by
  funext v2 v3 v4 H
  unfold whole_OfQuad.r_p2
  kernel_rfl
noncomputable def whole_OfQuad.r_l1 (bd : B3) (call : FuncId → List V → Heap → Option R) (n : Nat) (s0 : V → V → V → V → V → Heap → Option R) (v2 v3 v4 v13 v14 : V) (H : Heap) : Option R :=
 (bd (arA .lss v14 (.int .i64 4)) fun t15_1 =>
 (bd (asB t15_1) fun b2 =>
 if b2 = true then
 (bd (ix1 4 v13 v14) fun t16_3 =>
 (bd (cvInt .u32 t16_3) fun t19_4 =>
 (bd (shA .shr t16_3 (.int .u64 32)) fun t21_5 =>
 (bd (cvInt .u32 t21_5) fun t22_6 =>
 (bd (bSl 1 ty_uint32 [(.int .u32 0)] 2 [(0, t19_4), (1, t22_6)]) fun o7 =>
 (bd (appA 1 4 ty_uint32 v4 (.slice ⟨some (H.n, 0), 2, 1, false⟩) (H.push o7)) fun p8 =>
 (bd (arA .add v14 (.int .i64 1)) fun t25_9 =>
 (s0 v2 v3 p8.1 v13 t25_9 p8.2))))))))
 else
 (whole_OfQuad.r_p2 bd call n v2 v3 v4 H)))
theorem whole_OfQuad.r_l1_e (n m0 : Nat) : whole_OfQuad.r_l1 @bdI (callA C n) n (whole_OfQuad.l1 n m0) = whole_OfQuad.l1 n (m0 + 1) := by
  funext v2 v3 v4 v13 v14 H
  unfold whole_OfQuad.r_l1
  rewrite [whole_OfQuad.r_p2_e]
  kernel_rfl
noncomputable def whole_OfQuad.r_l1_lp (bd : B3) (call : FuncId → List V → Heap → Option R) (n : Nat) (m : Nat) : V → V → V → V → V → Heap → Option R := Nat.rec (motive := fun _ => V → V → V → V → V → Heap → Option R) (fun _ _ _ _ _ _ => none) (fun _ self => whole_OfQuad.r_l1 bd call n self) m
theorem whole_OfQuad.r_l1_lp_e (n : Nat) : whole_OfQuad.r_l1_lp @bdI (callA C n) n = whole_OfQuad.l1 n := by
  funext m
  induction m with
  | zero => funext v2 v3 v4 v13 v14 H; kernel_rfl
  | succ k ih => exact (congrArg (whole_OfQuad.r_l1 @bdI (callA C n) n) ih).trans (whole_OfQuad.r_l1_e n k)
noncomputable def whole_OfQuad.r_p0 (bd : B3) (call : FuncId → List V → Heap → Option R) (n : Nat) (v1 v2 v3 : V) (H : Heap) : Option R :=
 (bd (ldN 4 v1 H) fun t13_1 =>
 (whole_OfQuad.r_l1_lp bd call n n v2 v3 (.slice ⟨none, 0, 0, false⟩) t13_1 (.int .i64 0) H))
theorem whole_OfQuad.r_p0_e (n : Nat) : whole_OfQuad.r_p0 @bdI (callA C n) n = whole_OfQuad.p0 n := by
  funext v1 v2 v3 H
  unfold whole_OfQuad.r_p0
  rewrite [whole_OfQuad.r_l1_lp_e]
  kernel_rfl
noncomputable def whole_OfQuad.r (bd : B3) (call : FuncId → List V → Heap → Option R) (n : Nat) (v0 : V) (H : Heap) : Option R :=
 (bd (boxA ty_api_Quad v0) fun o1 =>
 (bd (ldN 4 (.ptr (some (H.n, 0))) ((H.push o1).push (.cells [(.bool false), (.slice ⟨none, 0, 0, false⟩)] ty_api_Int false))) fun t7_2 =>
 (bd (call 196 [t7_2] ((H.push o1).push (.cells [(.bool false), (.slice ⟨none, 0, 0, false⟩)] ty_api_Int false))) fun r3 =>
 (bd (arA .lss r3.1 (.int .i64 0)) fun t9_4 =>
 (bd (asB t9_4) fun b5 =>
 if b5 = true then
 (bd (ldN 4 (.ptr (some (H.n, 0))) r3.2) fun t11_6 =>
 (bd (call 197 [t11_6] r3.2) fun r7 =>
 (bd (stA 4 (.ptr (some (H.n, 0))) r7.1 r7.2) fun H8 =>
 (whole_OfQuad.r_p0 bd call n (.ptr (some (H.n, 0))) (.ptr (some ((H.push o1).n, 0))) t9_4 H8))))
 else
 (whole_OfQuad.r_p0 bd call n (.ptr (some (H.n, 0))) (.ptr (some ((H.push o1).n, 0))) t9_4 r3.2))))))
theorem whole_OfQuad.r_e (n : Nat) (v0 : V) (H : Heap) : whole_OfQuad.r @bdI (callA C n) n v0 H = E C n 161 [] (argsA 0 [v0]) H (kR C 161) := by
  unfold whole_OfQuad.r
  rewrite [whole_OfQuad.r_p0_e]
  kernel_rfl
noncomputable def whole_OfQuad.rf (bd : B3) (call : FuncId → List V → Heap → Option R) (n : Nat) (a : List V) (H : Heap) : Option R := pureA a H fun a => (match a with | [v0] => whole_OfQuad.r bd call n v0 ⟨0, .nil⟩ | a => E C n 161 [] (argsA 0 a) ⟨0, .nil⟩ (kR C 161))
theorem whole_OfQuad.rf_b (n : Nat) (a : List V) (H : Heap) : (match a with | [v0] => whole_OfQuad.r @bdI (callA C n) n v0 H | a => E C n 161 [] (argsA 0 a) H (kR C 161)) = E C n 161 [] (argsA 0 a) H (kR C 161) := by
  split
  · exact whole_OfQuad.r_e n _ H
  · rfl
theorem whole_OfQuad.rf_e (n : Nat) (a : List V) (H : Heap) : whole_OfQuad.rf @bdI (callA C n) n a H = callA C (n + 1) 161 a H := by
  unfold whole_OfQuad.rf
  refine (congrArg (pureA a H) (funext fun a => whole_OfQuad.rf_b n a ⟨0, .nil⟩)).trans ?_
  kernel_rfl
noncomputable def quad_Of.r (bd : B3) (call : FuncId → List V → Heap → Option R) (n : Nat) (v0 : V) (H : Heap) : Option R :=
 (bd (boxA ty_api_Wide v0) fun o1 =>
 (bd (ldN 2 (.ptr (some (H.n, 0))) ((H.push o1).push (.cells [(.int .u64 0), (.int .u64 0), (.int .u64 0), (.int .u64 0)] ty_api_Quad false))) fun t3_2 =>
 (bd (call 198 [t3_2] ((H.push o1).push (.cells [(.int .u64 0), (.int .u64 0), (.int .u64 0), (.int .u64 0)] ty_api_Quad false))) fun r3 =>
 (bd (stA 4 (.ptr (some ((H.push o1).n, 0))) r3.1 r3.2) fun H4 =>
 (bd (ldN 4 (.ptr (some ((H.push o1).n, 0))) H4) fun t5 =>
 (some (t5, H4)))))))
theorem quad_Of.r_e (n : Nat) (v0 : V) (H : Heap) : quad_Of.r @bdI (callA C n) n v0 H = E C n 162 [] (argsA 0 [v0]) H (kR C 162) := by
  unfold quad_Of.r
  kernel_rfl
noncomputable def quad_Of.rf (bd : B3) (call : FuncId → List V → Heap → Option R) (n : Nat) (a : List V) (H : Heap) : Option R := pureA a H fun a => (match a with | [v0] => quad_Of.r bd call n v0 ⟨0, .nil⟩ | a => E C n 162 [] (argsA 0 a) ⟨0, .nil⟩ (kR C 162))
theorem quad_Of.rf_b (n : Nat) (a : List V) (H : Heap) : (match a with | [v0] => quad_Of.r @bdI (callA C n) n v0 H | a => E C n 162 [] (argsA 0 a) H (kR C 162)) = E C n 162 [] (argsA 0 a) H (kR C 162) := by
  split
  · exact quad_Of.r_e n _ H
  · rfl
theorem quad_Of.rf_e (n : Nat) (a : List V) (H : Heap) : quad_Of.rf @bdI (callA C n) n a H = callA C (n + 1) 162 a H := by
  unfold quad_Of.rf
  refine (congrArg (pureA a H) (funext fun a => quad_Of.rf_b n a ⟨0, .nil⟩)).trans ?_
  kernel_rfl
noncomputable def math_bits_Mul64.r (bd : B3) (call : FuncId → List V → Heap → Option R) (n : Nat) (v0 v1 : V) (H : Heap) : Option R :=
 (bd (arA .and v0 (.int .u64 4294967295)) fun t15_1 =>
 (bd (shA .shr v0 (.int .u64 32)) fun t17_2 =>
 (bd (arA .and v1 (.int .u64 4294967295)) fun t19_3 =>
 (bd (shA .shr v1 (.int .u64 32)) fun t21_4 =>
 (bd (arA .mul t15_1 t19_3) fun t24_5 =>
 (bd (arA .mul t17_2 t19_3) fun t27_6 =>
 (bd (shA .shr t24_5 (.int .u64 32)) fun t29_7 =>
 (bd (arA .add t27_6 t29_7) fun t30_8 =>
 (bd (arA .and t30_8 (.int .u64 4294967295)) fun t32_9 =>
 (bd (shA .shr t30_8 (.int .u64 32)) fun t34_10 =>
 (bd (arA .mul t15_1 t21_4) fun t38_11 =>
 (bd (arA .add t32_9 t38_11) fun t39_12 =>
 (bd (arA .mul t17_2 t21_4) fun t42_13 =>
 (bd (arA .add t42_13 t34_10) fun t44_14 =>
 (bd (shA .shr t39_12 (.int .u64 32)) fun t46_15 =>
 (bd (arA .add t44_14 t46_15) fun t47_16 =>
 (bd (arA .mul v0 v1) fun t50_17 =>
 (some (.tuple [t47_16, t50_17], H)))))))))))))))))))
theorem math_bits_Mul64.r_e (n : Nat) (v0 v1 : V) (H : Heap) : math_bits_Mul64.r @bdI (callA C n) n v0 v1 H = E C n 163 [] (argsA 0 [v0, v1]) H (kR C 163) := by
  unfold math_bits_Mul64.r
  kernel_rfl
noncomputable def math_bits_Mul64.rf (bd : B3) (call : FuncId → List V → Heap → Option R) (n : Nat) (a : List V) (H : Heap) : Option R := (match a with | [v0, v1] => math_bits_Mul64.r bd call n v0 v1 H | a => E C n 163 [] (argsA 0 a) H (kR C 163))
theorem math_bits_Mul64.rf_b (n : Nat) (a : List V) (H : Heap) : (match a with | [v0, v1] => math_bits_Mul64.r @bdI (callA C n) n v0 v1 H | a => E C n 163 [] (argsA 0 a) H (kR C 163)) = E C n 163 [] (argsA 0 a) H (kR C 163) := by
  split
  · exact math_bits_Mul64.r_e n _ _ H
  · rfl
theorem math_bits_Mul64.rf_e (n : Nat) (a : List V) (H : Heap) : math_bits_Mul64.rf @bdI (callA C n) n a H = callA C (n + 1) 163 a H := by
  unfold math_bits_Mul64.rf
  refine (math_bits_Mul64.rf_b n a H).trans ?_
  kernel_rfl
noncomputable def pred_Area2.r (bd : B3) (call : FuncId → List V → Heap → Option R) (n : Nat) (v0 v1 v2 : V) (H : Heap) : Option R :=
 (bd (boxA ty_api_Point v0) fun o1 =>
 (bd (boxA ty_api_Point v1) fun o2 =>
 (bd (boxA ty_api_Point v2) fun o3 =>
 (bd (ldN 2 (.ptr (some (H.n, 0))) ((((H.push o1).push o2).push o3).push (.cells [(.int .i64 0), (.int .u64 0)] ty_api_Wide false))) fun t7_4 =>
 (bd (ldN 2 (.ptr (some ((H.push o1).n, 0))) ((((H.push o1).push o2).push o3).push (.cells [(.int .i64 0), (.int .u64 0)] ty_api_Wide false))) fun t8_5 =>
 (bd (ldN 2 (.ptr (some (((H.push o1).push o2).n, 0))) ((((H.push o1).push o2).push o3).push (.cells [(.int .i64 0), (.int .u64 0)] ty_api_Wide false))) fun t9_6 =>
 (bd (bSl 2 ty_api_Point [(.int .i64 0), (.int .i64 0)] 3 [(0, t7_4), (1, t8_5), (2, t9_6)]) fun o7 =>
 (bd (call 168 [(.slice ⟨some (((((H.push o1).push o2).push o3).push (.cells [(.int .i64 0), (.int .u64 0)] ty_api_Wide false)).n, 0), 3, 2, false⟩)] (((((H.push o1).push o2).push o3).push (.cells [(.int .i64 0), (.int .u64 0)] ty_api_Wide false)).push o7)) fun r8 =>
 (bd (unA .not r8.1) fun t12_9 =>
 (bd (asB t12_9) fun b10 =>
 if b10 = true then
 (bd (flA [(0, 1), (1, 1)] [(.int .i64 0), (.int .u64 0)] []) fun t13_11 =>
 (bd (stA 2 (.ptr (some ((((H.push o1).push o2).push o3).n, 0))) t13_11 r8.2) fun H12 =>
 (bd (ldN 2 (.ptr (some ((((H.push o1).push o2).push o3).n, 0))) H12) fun t13 =>
 (some (t13, H12)))))
 else
 (bd (ldN 2 (.ptr (some (H.n, 0))) (r8.2.more 0)) fun t14_14 =>
 (bd (ldN 2 (.ptr (some ((H.push o1).n, 0))) (r8.2.more 0)) fun t15_15 =>
 (bd (call 193 [t14_14, t15_15] (r8.2.more 0)) fun r16 =>
 (bd (ldN 2 (.ptr (some (H.n, 0))) r16.2) fun t17_17 =>
 (bd (chk (ldN 2 (.ptr (some (H.n, 0))) (r8.2.more 0)) t17_17) fun _ =>
 (bd (ldN 2 (.ptr (some (((H.push o1).push o2).n, 0))) r16.2) fun t18_18 =>
 (bd (chk (ldN 2 (.ptr (some (((H.push o1).push o2).n, 0))) (r8.2.more 0)) t18_18) fun _ =>
 (bd (call 193 [t17_17, t18_18] r16.2) fun r19 =>
 (bd (call 199 [r16.1, r19.1] r19.2) fun r20 =>
 (bd (stA 2 (.ptr (some ((((H.push o1).push o2).push o3).n, 0))) r20.1 r20.2) fun H21 =>
 (bd (ldN 2 (.ptr (some ((((H.push o1).push o2).push o3).n, 0))) H21) fun t22 =>
 (some (t22, H21)))))))))))))))))))))))
theorem pred_Area2.r_e (n : Nat) (v0 v1 v2 : V) (H : Heap) : pred_Area2.r @bdI (callA C n) n v0 v1 v2 H = E C n 164 [] (argsA 0 [v0, v1, v2]) H (kR C 164) := by
  unfold pred_Area2.r
  kernel_rfl
noncomputable def pred_Area2.rf (bd : B3) (call : FuncId → List V → Heap → Option R) (n : Nat) (a : List V) (H : Heap) : Option R := pureA a H fun a => (match a with | [v0, v1, v2] => pred_Area2.r bd call n v0 v1 v2 ⟨0, .nil⟩ | a => E C n 164 [] (argsA 0 a) ⟨0, .nil⟩ (kR C 164))
theorem pred_Area2.rf_b (n : Nat) (a : List V) (H : Heap) : (match a with | [v0, v1, v2] => pred_Area2.r @bdI (callA C n) n v0 v1 v2 H | a => E C n 164 [] (argsA 0 a) H (kR C 164)) = E C n 164 [] (argsA 0 a) H (kR C 164) := by
  split
  · exact pred_Area2.r_e n _ _ _ H
  · rfl
theorem pred_Area2.rf_e (n : Nat) (a : List V) (H : Heap) : pred_Area2.rf @bdI (callA C n) n a H = callA C (n + 1) 164 a H := by
  unfold pred_Area2.rf
  refine (congrArg (pureA a H) (funext fun a => pred_Area2.rf_b n a ⟨0, .nil⟩)).trans ?_
  kernel_rfl
end Go.AM.L
end
section
set_option linter.unusedVariables false
set_option linter.unusedSimpArgs false
set_option maxRecDepth 1000000
set_option linter.unusedVariables false
namespace Go.AM.L
@[irreducible] noncomputable def quad_Mul.l0 (n m0 : Nat) (v4 v5 v6 v7 v8 v9 v27 : V) (H : Heap) : Option R := Lp C n 165 [1, 1, 1, 1, 0, 1, 0, 0] m0 [(4, v4), (5, v5), (6, v6), (7, v7), (8, v8), (9, v9), (27, v27)] H (kB 0 (kC C n 165 [1, 1, 1, 1, 1] (kR C 165)))
@[irreducible] noncomputable def quad_Mul.l1 (n m0 m1 : Nat) (v4 v5 v6 v7 v8 v9 v10 v11 v27 v30 : V) (H : Heap) : Option R := Lp C n 165 [1, 1, 1, 1, 0, 1, 0, 0, 1, 1, 0, 0, 1, 1, 0, 1, 0, 0] m1 [(4, v4), (5, v5), (6, v6), (7, v7), (8, v8), (9, v9), (10, v10), (11, v11), (27, v27), (30, v30)] H (kB 2 (kC C n 165 [1, 1, 1, 1, 0, 1, 0, 0, 1, 1, 0, 0, 1, 1, 1] (kB 1 (kC C n 165 [1, 1, 1, 1, 0, 1, 0, 0, 1, 1, 1] (kL C n 165 [1, 1, 1, 1, 0, 1, 0, 0] m0 (kB 0 (kC C n 165 [1, 1, 1, 1, 1] (kR C 165))))))))
@[irreducible] noncomputable def quad_Mul.p2 (n : Nat) (v4 v6 v8 v9 : V) (H : Heap) : Option R := E C n 165 [1, 1, 1, 1, 1] [(4, v4), (6, v6), (8, v8), (9, v9)] H (kR C 165)
@[irreducible] noncomputable def quad_Mul.p3 (n m0 : Nat) (v4 v5 v6 v7 v8 v9 v10 v11 v27 : V) (H : Heap) : Option R := E C n 165 [1, 1, 1, 1, 0, 1, 0, 0, 1, 1, 0, 0, 1, 1, 1] [(4, v4), (5, v5), (6, v6), (7, v7), (8, v8), (9, v9), (10, v10), (11, v11), (27, v27)] H (kB 1 (kC C n 165 [1, 1, 1, 1, 0, 1, 0, 0, 1, 1, 1] (kL C n 165 [1, 1, 1, 1, 0, 1, 0, 0] m0 (kB 0 (kC C n 165 [1, 1, 1, 1, 1] (kR C 165))))))
noncomputable def quad_Mul.r_p3 (bd : B3) (call : FuncId → List V → Heap → Option R) (n : Nat) (s0 : V → V → V → V → V → V → V → Heap → Option R) (v4 v5 v6 v7 v8 v9 v10 v11 v27 : V) (H : Heap) : Option R :=
 (bd (arA .add v10 (.int .i64 2)) fun t78_1 =>
 (bd (idxP 4 1 v9 t78_1) fun t79_2 =>
 (bd (ld1 t79_2 H) fun t80_3 =>
 (bd (arA .add t80_3 v11) fun t82_4 =>
 (bd (idxP 4 1 v9 t78_1) fun t83_5 =>
 (bd (stA 1 t83_5 t82_4 H) fun H6 =>
 (bd (arA .add v27 (.int .i64 1)) fun t84_7 =>
 (s0 v4 v5 v6 v7 v8 v9 t84_7 H6))))))))
theorem quad_Mul.r_p3_e (n : Nat) (m0 : Nat) : quad_Mul.r_p3 @bdI (callA C n) n (quad_Mul.l0 n m0) = quad_Mul.p3 n m0 := by
  funext v4 v5 v6 v7 v8 v9 v10 v11 v27 H
  unfold quad_Mul.r_p3
  kernel_rfl
noncomputable def quad_Mul.r_l1 (bd : B3) (call : FuncId → List V → Heap → Option R) (n : Nat) (s0 : V → V → V → V → V → V → V → Heap → Option R) (s1 : V → V → V → V → V → V → V → V → V → V → Heap → Option R) (v4 v5 v6 v7 v8 v9 v10 v11 v27 v30 : V) (H : Heap) : Option R :=
 (bd (arA .lss v30 (.int .i64 2)) fun t31_1 =>
 (bd (asB t31_1) fun b2 =>
 if b2 = true then
 (bd (idxP 2 1 v5 v10) fun t35_3 =>
 (bd (ld1 t35_3 (H.more 0)) fun t36_4 =>
 (bd (idxP 2 1 v7 v30) fun t38_5 =>
 (bd (ld1 t38_5 (H.more 0)) fun t39_6 =>
 (bd (call 163 [t36_4, t39_6] (H.more 0)) fun r7 =>
 (bd (extA r7.1 0) fun t41_8 =>
 (bd (extA r7.1 1) fun t42_9 =>
 (bd (arA .add v10 v30) fun t46_10 =>
 (bd (arA .add v10 v30) fun t49_11 =>
 (bd (idxP 4 1 v9 t49_11) fun t50_12 =>
 (bd (ld1 t50_12 r7.2) fun t51_13 =>
 (bd (call 201 [t51_13, t42_9, (.int .u64 0)] r7.2) fun r14 =>
 (bd (extA r14.1 0) fun t54_15 =>
 (bd (extA r14.1 1) fun t55_16 =>
 (bd (idxP 4 1 v9 t46_10) fun t56_17 =>
 (bd (stA 1 t56_17 t54_15 r14.2) fun H18 =>
 (bd (arA .add v10 v30) fun t60_19 =>
 (bd (arA .add v10 v30) fun t63_20 =>
 (bd (idxP 4 1 v9 t63_20) fun t64_21 =>
 (bd (ld1 t64_21 H18) fun t65_22 =>
 (bd (call 201 [t65_22, v11, (.int .u64 0)] H18) fun r23 =>
 (bd (extA r23.1 0) fun t68_24 =>
 (bd (extA r23.1 1) fun t69_25 =>
 (bd (idxP 4 1 v9 t60_19) fun t70_26 =>
 (bd (stA 1 t70_26 t68_24 r23.2) fun H27 =>
 (bd (arA .add t41_8 t55_16) fun t73_28 =>
 (bd (arA .add t73_28 t69_25) fun t75_29 =>
 (bd (arA .add v30 (.int .i64 1)) fun t76_30 =>
 (s1 v4 v5 v6 v7 v8 v9 v10 t75_29 v27 t76_30 H27)))))))))))))))))))))))))))))
 else
 (quad_Mul.r_p3 bd call n s0 v4 v5 v6 v7 v8 v9 v10 v11 v27 H)))
theorem quad_Mul.r_l1_e (n m0 m1 : Nat) : quad_Mul.r_l1 @bdI (callA C n) n (quad_Mul.l0 n m0) (quad_Mul.l1 n m0 m1) = quad_Mul.l1 n m0 (m1 + 1) := by
  funext v4 v5 v6 v7 v8 v9 v10 v11 v27 v30 H
  unfold quad_Mul.r_l1
  rewrite [quad_Mul.r_p3_e]
  kernel_rfl
noncomputable def quad_Mul.r_l1_lp (bd : B3) (call : FuncId → List V → Heap → Option R) (n : Nat) (s0 : V → V → V → V → V → V → V → Heap → Option R) (m : Nat) : V → V → V → V → V → V → V → V → V → V → Heap → Option R := Nat.rec (motive := fun _ => V → V → V → V → V → V → V → V → V → V → Heap → Option R) (fun _ _ _ _ _ _ _ _ _ _ _ => none) (fun _ self => quad_Mul.r_l1 bd call n s0 self) m
theorem quad_Mul.r_l1_lp_e (n m0 : Nat) : quad_Mul.r_l1_lp @bdI (callA C n) n (quad_Mul.l0 n m0) = quad_Mul.l1 n m0 := by
  funext m
  induction m with
  | zero => funext v4 v5 v6 v7 v8 v9 v10 v11 v27 v30 H; kernel_rfl
  | succ k ih => exact (congrArg (quad_Mul.r_l1 @bdI (callA C n) n (quad_Mul.l0 n m0)) ih).trans (quad_Mul.r_l1_e n m0 k)
noncomputable def quad_Mul.r_p2 (bd : B3) (call : FuncId → List V → Heap → Option R) (n : Nat) (v4 v6 v8 v9 : V) (H : Heap) : Option R :=
 (bd (neqA P ty_bool v6 v8) fun t87_1 =>
 (bd (asB t87_1) fun b2 =>
 if b2 = true then
 (bd (flE 1 [(.int .u64 0), (.int .u64 0), (.int .u64 0), (.int .u64 0)] []) fun t88_3 =>
 (bd (ldN 4 v9 H) fun t89_4 =>
 (bd (call 202 [t88_3, t89_4] H) fun r5 =>
 (bd (stA 4 v4 r5.1 r5.2) fun H6 =>
 (bd (ldN 4 v4 H6) fun t7 =>
 (some (t7, H6)))))))
 else
 (bd (ldN 4 v9 H) fun t91_8 =>
 (bd (stA 4 v4 t91_8 H) fun H9 =>
 (bd (ldN 4 v4 H9) fun t10 =>
 (some (t10, H9)))))))
theorem quad_Mul.r_p2_e (n : Nat) : quad_Mul.r_p2 @bdI (callA C n) n = quad_Mul.p2 n := by
  funext v4 v6 v8 v9 H
  unfold quad_Mul.r_p2
  kernel_rfl
noncomputable def quad_Mul.r_l0 (bd : B3) (call : FuncId → List V → Heap → Option R) (n : Nat) (s0 : V → V → V → V → V → V → V → Heap → Option R) (v4 v5 v6 v7 v8 v9 v27 : V) (H : Heap) : Option R :=
 (bd (arA .lss v27 (.int .i64 2)) fun t28_1 =>
 (bd (asB t28_1) fun b2 =>
 if b2 = true then
 (quad_Mul.r_l1_lp bd call n s0 n v4 v5 v6 v7 v8 v9 v27 (.int .u64 0) v27 (.int .i64 0) H)
 else
 (quad_Mul.r_p2 bd call n v4 v6 v8 v9 H)))
theorem quad_Mul.r_l0_e (n m0 : Nat) : quad_Mul.r_l0 @bdI (callA C n) n (quad_Mul.l0 n m0) = quad_Mul.l0 n (m0 + 1) := by
  funext v4 v5 v6 v7 v8 v9 v27 H
  unfold quad_Mul.r_l0
  rewrite [quad_Mul.r_l1_lp_e]
  rewrite [quad_Mul.r_p2_e]
  kernel_rfl
noncomputable def quad_Mul.r_l0_lp (bd : B3) (call : FuncId → List V → Heap → Option R) (n : Nat) (m : Nat) : V → V → V → V → V → V → V → Heap → Option R := Nat.rec (motive := fun _ => V → V → V → V → V → V → V → Heap → Option R) (fun _ _ _ _ _ _ _ _ => none) (fun _ self => quad_Mul.r_l0 bd call n self) m
theorem quad_Mul.r_l0_lp_e (n : Nat) : quad_Mul.r_l0_lp @bdI (callA C n) n = quad_Mul.l0 n := by
  funext m
  induction m with
  | zero => funext v4 v5 v6 v7 v8 v9 v27 H; kernel_rfl
  | succ k ih => exact (congrArg (quad_Mul.r_l0 @bdI (callA C n) n) ih).trans (quad_Mul.r_l0_e n k)
noncomputable def quad_Mul.r (bd : B3) (call : FuncId → List V → Heap → Option R) (n : Nat) (v0 v1 : V) (H : Heap) : Option R :=
 (bd (boxA ty_api_Wide v0) fun o1 =>
 (bd (boxA ty_api_Wide v1) fun o2 =>
 (bd (ldN 2 (.ptr (some (H.n, 0))) (((H.push o1).push o2).push (.cells [(.int .u64 0), (.int .u64 0), (.int .u64 0), (.int .u64 0)] ty_api_Quad false))) fun t18_3 =>
 (bd (call 200 [t18_3] (((H.push o1).push o2).push (.cells [(.int .u64 0), (.int .u64 0), (.int .u64 0), (.int .u64 0)] ty_api_Quad false))) fun r4 =>
 (bd (extA r4.1 0) fun t20_5 =>
 (bd (extA r4.1 1) fun t21_6 =>
 (bd (stA 2 (.ptr (some (r4.2.n, 0))) t20_5 (r4.2.push (.cells [(.int .u64 0), (.int .u64 0)] ty_2_uint64 false))) fun H7 =>
 (bd (ldN 2 (.ptr (some ((H.push o1).n, 0))) H7) fun t23_8 =>
 (bd (call 200 [t23_8] H7) fun r9 =>
 (bd (extA r9.1 0) fun t25_10 =>
 (bd (extA r9.1 1) fun t26_11 =>
 (bd (stA 2 (.ptr (some (r9.2.n, 0))) t25_10 (r9.2.push (.cells [(.int .u64 0), (.int .u64 0)] ty_2_uint64 false))) fun H12 =>
 (quad_Mul.r_l0_lp bd call n n (.ptr (some (((H.push o1).push o2).n, 0))) (.ptr (some (r4.2.n, 0))) t21_6 (.ptr (some (r9.2.n, 0))) t26_11 (.ptr (some (H12.n, 0))) (.int .i64 0) (H12.push (.cells [(.int .u64 0), (.int .u64 0), (.int .u64 0), (.int .u64 0)] ty_api_Quad false)))))))))))))))
theorem quad_Mul.r_e (n : Nat) (v0 v1 : V) (H : Heap) : quad_Mul.r @bdI (callA C n) n v0 v1 H = E C n 165 [] (argsA 0 [v0, v1]) H (kR C 165) := by
  unfold quad_Mul.r
  rewrite [quad_Mul.r_l0_lp_e]
  kernel_rfl
noncomputable def quad_Mul.rf (bd : B3) (call : FuncId → List V → Heap → Option R) (n : Nat) (a : List V) (H : Heap) : Option R := pureA a H fun a => (match a with | [v0, v1] => quad_Mul.r bd call n v0 v1 ⟨0, .nil⟩ | a => E C n 165 [] (argsA 0 a) ⟨0, .nil⟩ (kR C 165))
theorem quad_Mul.rf_b (n : Nat) (a : List V) (H : Heap) : (match a with | [v0, v1] => quad_Mul.r @bdI (callA C n) n v0 v1 H | a => E C n 165 [] (argsA 0 a) H (kR C 165)) = E C n 165 [] (argsA 0 a) H (kR C 165) := by
  split
  · exact quad_Mul.r_e n _ _ H
  · rfl
theorem quad_Mul.rf_e (n : Nat) (a : List V) (H : Heap) : quad_Mul.rf @bdI (callA C n) n a H = callA C (n + 1) 165 a H := by
  unfold quad_Mul.rf
  refine (congrArg (pureA a H) (funext fun a => quad_Mul.rf_b n a ⟨0, .nil⟩)).trans ?_
  kernel_rfl
@[irreducible] noncomputable def pred_can.l0 (n m0 : Nat) (v5 v6 v7 : V) (H : Heap) : Option R := Lp C n 168 [1, 0, 1, 0, 0] m0 [(5, v5), (6, v6), (7, v7)] H (kB 0 (kC C n 168 [1, 1] (kR C 168)))
noncomputable def pred_can.r_l0 (bd : B3) (call : FuncId → List V → Heap → Option R) (n : Nat) (s0 : V → V → V → Heap → Option R) (v5 v6 v7 : V) (H : Heap) : Option R :=
 (bd (arA .lss v7 v6) fun t8_1 =>
 (bd (asB t8_1) fun b2 =>
 if b2 = true then
 (bd (idxS 2 v5 v7) fun t9_3 =>
 (bd (ldN 2 t9_3 H) fun t10_4 =>
 (bd (stA 2 (.ptr (some (H.n, 0))) t10_4 (H.push (.cells [(.int .i64 0), (.int .i64 0)] ty_api_Point false))) fun H5 =>
 (bd (ldN 2 (.ptr (some (H.n, 0))) H5) fun t11_6 =>
 (bd (call 109 [t11_6] H5) fun r7 =>
 (bd (unA .not r7.1) fun t13_8 =>
 (bd (asB t13_8) fun b9 =>
 if b9 = true then
 (some ((.bool false), r7.2))
 else
 (bd (arA .add v7 (.int .i64 1)) fun t14_10 =>
 (s0 v5 v6 t14_10 r7.2)))))))))
 else
 (some ((.bool true), H))))
theorem pred_can.r_l0_e (n m0 : Nat) : pred_can.r_l0 @bdI (callA C n) n (pred_can.l0 n m0) = pred_can.l0 n (m0 + 1) := by
  funext v5 v6 v7 H
  unfold pred_can.r_l0
  kernel_rfl
noncomputable def pred_can.r_l0_lp (bd : B3) (call : FuncId → List V → Heap → Option R) (n : Nat) (m : Nat) : V → V → V → Heap → Option R := Nat.rec (motive := fun _ => V → V → V → Heap → Option R) (fun _ _ _ _ => none) (fun _ self => pred_can.r_l0 bd call n self) m
theorem pred_can.r_l0_lp_e (n : Nat) : pred_can.r_l0_lp @bdI (callA C n) n = pred_can.l0 n := by
  funext m
  induction m with
  | zero => funext v5 v6 v7 H; kernel_rfl
  | succ k ih => exact (congrArg (pred_can.r_l0 @bdI (callA C n) n) ih).trans (pred_can.r_l0_e n k)
noncomputable def pred_can.r (bd : B3) (call : FuncId → List V → Heap → Option R) (n : Nat) (v0 : V) (H : Heap) : Option R :=
 (bd (lenSl v0) fun t6_1 =>
 (pred_can.r_l0_lp bd call n n v0 t6_1 (.int .i64 0) H))
theorem pred_can.r_e (n : Nat) (v0 : V) (H : Heap) : pred_can.r @bdI (callA C n) n v0 H = E C n 168 [] (argsA 0 [v0]) H (kR C 168) := by
  unfold pred_can.r
  rewrite [pred_can.r_l0_lp_e]
  kernel_rfl
noncomputable def pred_can.rf (bd : B3) (call : FuncId → List V → Heap → Option R) (n : Nat) (a : List V) (H : Heap) : Option R := pureA a H fun a => (match a with | [v0] => pred_can.r bd call n v0 ⟨0, .nil⟩ | a => E C n 168 [] (argsA 0 a) ⟨0, .nil⟩ (kR C 168))
theorem pred_can.rf_b (n : Nat) (a : List V) (H : Heap) : (match a with | [v0] => pred_can.r @bdI (callA C n) n v0 H | a => E C n 168 [] (argsA 0 a) H (kR C 168)) = E C n 168 [] (argsA 0 a) H (kR C 168) := by
  split
  · exact pred_can.r_e n _ H
  · rfl
theorem pred_can.rf_e (n : Nat) (a : List V) (H : Heap) : pred_can.rf @bdI (callA C n) n a H = callA C (n + 1) 168 a H := by
  unfold pred_can.rf
  refine (congrArg (pureA a H) (funext fun a => pred_can.rf_b n a ⟨0, .nil⟩)).trans ?_
  kernel_rfl
noncomputable def pred_orient.r (bd : B3) (call : FuncId → List V → Heap → Option R) (n : Nat) (v0 v1 v2 : V) (H : Heap) : Option R :=
 (bd (boxA ty_api_Point v0) fun o1 =>
 (bd (boxA ty_api_Point v1) fun o2 =>
 (bd (boxA ty_api_Point v2) fun o3 =>
 (bd (ldN 2 (.ptr (some (H.n, 0))) ((((H.push o1).push o2).push o3).more 0)) fun t7_4 =>
 (bd (ldN 2 (.ptr (some ((H.push o1).n, 0))) ((((H.push o1).push o2).push o3).more 0)) fun t8_5 =>
 (bd (call 193 [t7_4, t8_5] ((((H.push o1).push o2).push o3).more 0)) fun r6 =>
 (bd (ldN 2 (.ptr (some (H.n, 0))) r6.2) fun t10_7 =>
 (bd (chk (ldN 2 (.ptr (some (H.n, 0))) ((((H.push o1).push o2).push o3).more 0)) t10_7) fun _ =>
 (bd (ldN 2 (.ptr (some (((H.push o1).push o2).n, 0))) r6.2) fun t11_8 =>
 (bd (chk (ldN 2 (.ptr (some (((H.push o1).push o2).n, 0))) ((((H.push o1).push o2).push o3).more 0)) t11_8) fun _ =>
 (bd (call 193 [t10_7, t11_8] r6.2) fun r9 =>
 (bd (call 199 [r6.1, r9.1] r9.2) fun r10 =>
 (bd (call 203 [r10.1] r10.2) fun r11 =>
 (some (r11.1, r11.2)))))))))))))))
theorem pred_orient.r_e (n : Nat) (v0 v1 v2 : V) (H : Heap) : pred_orient.r @bdI (callA C n) n v0 v1 v2 H = E C n 169 [] (argsA 0 [v0, v1, v2]) H (kR C 169) := by
  unfold pred_orient.r
  kernel_rfl
noncomputable def pred_orient.rf (bd : B3) (call : FuncId → List V → Heap → Option R) (n : Nat) (a : List V) (H : Heap) : Option R := pureA a H fun a => (match a with | [v0, v1, v2] => pred_orient.r bd call n v0 v1 v2 ⟨0, .nil⟩ | a => E C n 169 [] (argsA 0 a) ⟨0, .nil⟩ (kR C 169))
theorem pred_orient.rf_b (n : Nat) (a : List V) (H : Heap) : (match a with | [v0, v1, v2] => pred_orient.r @bdI (callA C n) n v0 v1 v2 H | a => E C n 169 [] (argsA 0 a) H (kR C 169)) = E C n 169 [] (argsA 0 a) H (kR C 169) := by
  split
  · exact pred_orient.r_e n _ _ _ H
  · rfl
theorem pred_orient.rf_e (n : Nat) (a : List V) (H : Heap) : pred_orient.rf @bdI (callA C n) n a H = callA C (n + 1) 169 a H := by
  unfold pred_orient.rf
  refine (congrArg (pureA a H) (funext fun a => pred_orient.rf_b n a ⟨0, .nil⟩)).trans ?_
  kernel_rfl
noncomputable def nat_Trim.r (bd : B3) (call : FuncId → List V → Heap → Option R) (n : Nat) (v0 : V) (H : Heap) : Option R :=
 (bd (call 190 [v0] H) fun r1 =>
 (bd (call 191 [r1.1] r1.2) fun r2 =>
 (frzR r2.1 r2.2)))
theorem nat_Trim.r_e (n : Nat) (v0 : V) (H : Heap) : nat_Trim.r @bdI (callA C n) n v0 H = E C n 189 [] (argsA 0 [v0]) H (kR C 189) := by
  unfold nat_Trim.r
  kernel_rfl
noncomputable def nat_Trim.rf (bd : B3) (call : FuncId → List V → Heap → Option R) (n : Nat) (a : List V) (H : Heap) : Option R := pureA a H fun a => (match a with | [v0] => nat_Trim.r bd call n v0 ⟨0, .nil⟩ | a => E C n 189 [] (argsA 0 a) ⟨0, .nil⟩ (kR C 189))
theorem nat_Trim.rf_b (n : Nat) (a : List V) (H : Heap) : (match a with | [v0] => nat_Trim.r @bdI (callA C n) n v0 H | a => E C n 189 [] (argsA 0 a) H (kR C 189)) = E C n 189 [] (argsA 0 a) H (kR C 189) := by
  split
  · exact nat_Trim.r_e n _ H
  · rfl
theorem nat_Trim.rf_e (n : Nat) (a : List V) (H : Heap) : nat_Trim.rf @bdI (callA C n) n a H = callA C (n + 1) 189 a H := by
  unfold nat_Trim.rf
  refine (congrArg (pureA a H) (funext fun a => nat_Trim.rf_b n a ⟨0, .nil⟩)).trans ?_
  kernel_rfl
@[irreducible] noncomputable def nat_trim.l0 (n m0 : Nat) (v0 : V) (H : Heap) : Option R := Lp C n 190 [1, 0, 0, 0] m0 [(0, v0)] H (kB 0 (kC C n 190 [1, 1] (kR C 190)))
noncomputable def nat_trim.r_l0 (bd : B3) (call : FuncId → List V → Heap → Option R) (n : Nat) (s0 : V → Heap → Option R) (v0 : V) (H : Heap) : Option R :=
 (bd (lenSl v0) fun t4_1 =>
 (bd (arA .gtr t4_1 (.int .i64 0)) fun t5_2 =>
 (bd (asB t5_2) fun b3 =>
 if b3 = true then
 (bd (lenSl v0) fun t9_4 =>
 (bd (arA .sub t9_4 (.int .i64 1)) fun t10_5 =>
 (bd (idxS 1 v0 t10_5) fun t11_6 =>
 (bd (ld1 t11_6 H) fun t12_7 =>
 (bd (arA .eql t12_7 (.int .u32 0)) fun t13_8 =>
 (bd (asB t13_8) fun b9 =>
 if b9 = true then
 (bd (lenSl v0) fun t17_10 =>
 (bd (arA .sub t17_10 (.int .i64 1)) fun t18_11 =>
 (bd (slSl 1 v0 none (some t18_11)) fun t19_12 =>
 (s0 t19_12 H))))
 else
 (frzR v0 H)))))))
 else
 (frzR v0 H))))
theorem nat_trim.r_l0_e (n m0 : Nat) : nat_trim.r_l0 @bdI (callA C n) n (nat_trim.l0 n m0) = nat_trim.l0 n (m0 + 1) := by
  funext v0 H
  unfold nat_trim.r_l0
  kernel_rfl
noncomputable def nat_trim.r_l0_lp (bd : B3) (call : FuncId → List V → Heap → Option R) (n : Nat) (m : Nat) : V → Heap → Option R := Nat.rec (motive := fun _ => V → Heap → Option R) (fun _ _ => none) (fun _ self => nat_trim.r_l0 bd call n self) m
theorem nat_trim.r_l0_lp_e (n : Nat) : nat_trim.r_l0_lp @bdI (callA C n) n = nat_trim.l0 n := by
  funext m
  induction m with
  | zero => funext v0 H; kernel_rfl
  | succ k ih => exact (congrArg (nat_trim.r_l0 @bdI (callA C n) n) ih).trans (nat_trim.r_l0_e n k)
noncomputable def nat_trim.r (bd : B3) (call : FuncId → List V → Heap → Option R) (n : Nat) (v0 : V) (H : Heap) : Option R :=
 (nat_trim.r_l0_lp bd call n n v0 H)
theorem nat_trim.r_e (n : Nat) (v0 : V) (H : Heap) : nat_trim.r @bdI (callA C n) n v0 H = E C n 190 [] (argsA 0 [v0]) H (kR C 190) := by
  unfold nat_trim.r
  rewrite [nat_trim.r_l0_lp_e]
  kernel_rfl
noncomputable def nat_trim.rf (bd : B3) (call : FuncId → List V → Heap → Option R) (n : Nat) (a : List V) (H : Heap) : Option R := pureA a H fun a => (match a with | [v0] => nat_trim.r bd call n v0 ⟨0, .nil⟩ | a => E C n 190 [] (argsA 0 a) ⟨0, .nil⟩ (kR C 190))
theorem nat_trim.rf_b (n : Nat) (a : List V) (H : Heap) : (match a with | [v0] => nat_trim.r @bdI (callA C n) n v0 H | a => E C n 190 [] (argsA 0 a) H (kR C 190)) = E C n 190 [] (argsA 0 a) H (kR C 190) := by
  split
  · exact nat_trim.r_e n _ H
  · rfl
theorem nat_trim.rf_e (n : Nat) (a : List V) (H : Heap) : nat_trim.rf @bdI (callA C n) n a H = callA C (n + 1) 190 a H := by
  unfold nat_trim.rf
  refine (congrArg (pureA a H) (funext fun a => nat_trim.rf_b n a ⟨0, .nil⟩)).trans ?_
  kernel_rfl
noncomputable def slices_Clone_api_Nat_uint32.r (bd : B3) (call : FuncId → List V → Heap → Option R) (n : Nat) (v0 : V) (H : Heap) : Option R :=
 (bd (eqlA P ty_api_Nat v0 (.slice ⟨none, 0, 0, false⟩)) fun t4_1 =>
 (bd (asB t4_1) fun b2 =>
 if b2 = true then
 (some ((.slice ⟨none, 0, 0, false⟩), H))
 else
 (bd (bSl 1 ty_uint32 [(.int .u32 0)] 0 []) fun o3 =>
 (bd (appA 1 4 ty_uint32 (.slice ⟨some (H.n, 0), 0, 1, false⟩) v0 (H.push o3)) fun p4 =>
 (some (p4.1, p4.2))))))
theorem slices_Clone_api_Nat_uint32.r_e (n : Nat) (v0 : V) (H : Heap) : slices_Clone_api_Nat_uint32.r @bdI (callA C n) n v0 H = E C n 191 [] (argsA 0 [v0]) H (kR C 191) := by
  unfold slices_Clone_api_Nat_uint32.r
  kernel_rfl
noncomputable def slices_Clone_api_Nat_uint32.rf (bd : B3) (call : FuncId → List V → Heap → Option R) (n : Nat) (a : List V) (H : Heap) : Option R := (match a with | [v0] => slices_Clone_api_Nat_uint32.r bd call n v0 H | a => E C n 191 [] (argsA 0 a) H (kR C 191))
theorem slices_Clone_api_Nat_uint32.rf_b (n : Nat) (a : List V) (H : Heap) : (match a with | [v0] => slices_Clone_api_Nat_uint32.r @bdI (callA C n) n v0 H | a => E C n 191 [] (argsA 0 a) H (kR C 191)) = E C n 191 [] (argsA 0 a) H (kR C 191) := by
  split
  · exact slices_Clone_api_Nat_uint32.r_e n _ H
  · rfl
theorem slices_Clone_api_Nat_uint32.rf_e (n : Nat) (a : List V) (H : Heap) : slices_Clone_api_Nat_uint32.rf @bdI (callA C n) n a H = callA C (n + 1) 191 a H := by
  unfold slices_Clone_api_Nat_uint32.rf
  refine (slices_Clone_api_Nat_uint32.rf_b n a H).trans ?_
  kernel_rfl
noncomputable def pred_square.r (bd : B3) (call : FuncId → List V → Heap → Option R) (n : Nat) (v0 : V) (H : Heap) : Option R :=
 (bd (boxA ty_api_Point v0) fun o1 =>
 (bd (faA 0 (.ptr (some (H.n, 0)))) fun t3_2 =>
 (bd (ld1 t3_2 (((H.push o1).push (.cells [(.int .i64 0), (.int .u64 0)] ty_api_Wide false)).more 0)) fun t4_3 =>
 (bd (faA 0 (.ptr (some (H.n, 0)))) fun t5_4 =>
 (bd (ld1 t5_4 (((H.push o1).push (.cells [(.int .i64 0), (.int .u64 0)] ty_api_Wide false)).more 0)) fun t6_5 =>
 (bd (call 116 [t4_3, t6_5] (((H.push o1).push (.cells [(.int .i64 0), (.int .u64 0)] ty_api_Wide false)).more 0)) fun r6 =>
 (bd (faA 1 (.ptr (some (H.n, 0)))) fun t8_7 =>
 (bd (ld1 t8_7 r6.2) fun t9_8 =>
 (bd (chk (ld1 t8_7 (((H.push o1).push (.cells [(.int .i64 0), (.int .u64 0)] ty_api_Wide false)).more 0)) t9_8) fun _ =>
 (bd (faA 1 (.ptr (some (H.n, 0)))) fun t10_9 =>
 (bd (ld1 t10_9 r6.2) fun t11_10 =>
 (bd (chk (ld1 t10_9 (((H.push o1).push (.cells [(.int .i64 0), (.int .u64 0)] ty_api_Wide false)).more 0)) t11_10) fun _ =>
 (bd (call 116 [t9_8, t11_10] r6.2) fun r11 =>
 (bd (call 220 [r6.1, r11.1] r11.2) fun r12 =>
 (bd (stA 2 (.ptr (some ((H.push o1).n, 0))) r12.1 r12.2) fun H13 =>
 (bd (ldN 2 (.ptr (some ((H.push o1).n, 0))) H13) fun t14 =>
 (some (t14, H13))))))))))))))))))
theorem pred_square.r_e (n : Nat) (v0 : V) (H : Heap) : pred_square.r @bdI (callA C n) n v0 H = E C n 192 [] (argsA 0 [v0]) H (kR C 192) := by
  unfold pred_square.r
  kernel_rfl
noncomputable def pred_square.rf (bd : B3) (call : FuncId → List V → Heap → Option R) (n : Nat) (a : List V) (H : Heap) : Option R := pureA a H fun a => (match a with | [v0] => pred_square.r bd call n v0 ⟨0, .nil⟩ | a => E C n 192 [] (argsA 0 a) ⟨0, .nil⟩ (kR C 192))
theorem pred_square.rf_b (n : Nat) (a : List V) (H : Heap) : (match a with | [v0] => pred_square.r @bdI (callA C n) n v0 H | a => E C n 192 [] (argsA 0 a) H (kR C 192)) = E C n 192 [] (argsA 0 a) H (kR C 192) := by
  split
  · exact pred_square.r_e n _ H
  · rfl
theorem pred_square.rf_e (n : Nat) (a : List V) (H : Heap) : pred_square.rf @bdI (callA C n) n a H = callA C (n + 1) 192 a H := by
  unfold pred_square.rf
  refine (congrArg (pureA a H) (funext fun a => pred_square.rf_b n a ⟨0, .nil⟩)).trans ?_
  kernel_rfl
noncomputable def pred_way.r (bd : B3) (call : FuncId → List V → Heap → Option R) (n : Nat) (v0 v1 : V) (H : Heap) : Option R :=
 (bd (boxA ty_api_Point v0) fun o1 =>
 (bd (boxA ty_api_Point v1) fun o2 =>
 (bd (faA 0 (.ptr (some ((H.push o1).n, 0)))) fun t5_3 =>
 (bd (ld1 t5_3 (((H.push o1).push o2).push (.cells [(.int .i64 0), (.int .i64 0)] ty_api_Point false))) fun t6_4 =>
 (bd (faA 0 (.ptr (some (H.n, 0)))) fun t7_5 =>
 (bd (ld1 t7_5 (((H.push o1).push o2).push (.cells [(.int .i64 0), (.int .i64 0)] ty_api_Point false))) fun t8_6 =>
 (bd (arA .sub t6_4 t8_6) fun t9_7 =>
 (bd (faA 1 (.ptr (some ((H.push o1).n, 0)))) fun t10_8 =>
 (bd (ld1 t10_8 (((H.push o1).push o2).push (.cells [(.int .i64 0), (.int .i64 0)] ty_api_Point false))) fun t11_9 =>
 (bd (faA 1 (.ptr (some (H.n, 0)))) fun t12_10 =>
 (bd (ld1 t12_10 (((H.push o1).push o2).push (.cells [(.int .i64 0), (.int .i64 0)] ty_api_Point false))) fun t13_11 =>
 (bd (arA .sub t11_9 t13_11) fun t14_12 =>
 (bd (flA [(0, 1), (1, 1)] [(.int .i64 0), (.int .i64 0)] [(0, t9_7), (1, t14_12)]) fun t15_13 =>
 (bd (stA 2 (.ptr (some (((H.push o1).push o2).n, 0))) t15_13 (((H.push o1).push o2).push (.cells [(.int .i64 0), (.int .i64 0)] ty_api_Point false))) fun H14 =>
 (bd (ldN 2 (.ptr (some (((H.push o1).push o2).n, 0))) H14) fun t15 =>
 (some (t15, H14)))))))))))))))))
theorem pred_way.r_e (n : Nat) (v0 v1 : V) (H : Heap) : pred_way.r @bdI (callA C n) n v0 v1 H = E C n 193 [] (argsA 0 [v0, v1]) H (kR C 193) := by
  unfold pred_way.r
  kernel_rfl
noncomputable def pred_way.rf (bd : B3) (call : FuncId → List V → Heap → Option R) (n : Nat) (a : List V) (H : Heap) : Option R := pureA a H fun a => (match a with | [v0, v1] => pred_way.r bd call n v0 v1 ⟨0, .nil⟩ | a => E C n 193 [] (argsA 0 a) ⟨0, .nil⟩ (kR C 193))
theorem pred_way.rf_b (n : Nat) (a : List V) (H : Heap) : (match a with | [v0, v1] => pred_way.r @bdI (callA C n) n v0 v1 H | a => E C n 193 [] (argsA 0 a) H (kR C 193)) = E C n 193 [] (argsA 0 a) H (kR C 193) := by
  split
  · exact pred_way.r_e n _ _ H
  · rfl
theorem pred_way.rf_e (n : Nat) (a : List V) (H : Heap) : pred_way.rf @bdI (callA C n) n a H = callA C (n + 1) 193 a H := by
  unfold pred_way.rf
  refine (congrArg (pureA a H) (funext fun a => pred_way.rf_b n a ⟨0, .nil⟩)).trans ?_
  kernel_rfl
noncomputable def nat_Bits.r (bd : B3) (call : FuncId → List V → Heap → Option R) (n : Nat) (v0 : V) (H : Heap) : Option R :=
 (bd (call 221 [v0] H) fun r1 =>
 (some (r1.1, r1.2)))
theorem nat_Bits.r_e (n : Nat) (v0 : V) (H : Heap) : nat_Bits.r @bdI (callA C n) n v0 H = E C n 194 [] (argsA 0 [v0]) H (kR C 194) := by
  unfold nat_Bits.r
  kernel_rfl
noncomputable def nat_Bits.rf (bd : B3) (call : FuncId → List V → Heap → Option R) (n : Nat) (a : List V) (H : Heap) : Option R := pureA a H fun a => (match a with | [v0] => nat_Bits.r bd call n v0 ⟨0, .nil⟩ | a => E C n 194 [] (argsA 0 a) ⟨0, .nil⟩ (kR C 194))
theorem nat_Bits.rf_b (n : Nat) (a : List V) (H : Heap) : (match a with | [v0] => nat_Bits.r @bdI (callA C n) n v0 H | a => E C n 194 [] (argsA 0 a) H (kR C 194)) = E C n 194 [] (argsA 0 a) H (kR C 194) := by
  split
  · exact nat_Bits.r_e n _ H
  · rfl
theorem nat_Bits.rf_e (n : Nat) (a : List V) (H : Heap) : nat_Bits.rf @bdI (callA C n) n a H = callA C (n + 1) 194 a H := by
  unfold nat_Bits.rf
  refine (congrArg (pureA a H) (funext fun a => nat_Bits.rf_b n a ⟨0, .nil⟩)).trans ?_
  kernel_rfl
@[irreducible] noncomputable def nat_cmp.l0 (n m0 : Nat) (v0 v1 v5 : V) (H : Heap) : Option R := Lp C n 195 [1, 1, 1, 0, 1, 0, 0] m0 [(0, v0), (1, v1), (5, v5)] H (kB 0 (kC C n 195 [1, 1, 1, 1] (kR C 195)))
noncomputable def nat_cmp.r_l0 (bd : B3) (call : FuncId → List V → Heap → Option R) (n : Nat) (s0 : V → V → V → Heap → Option R) (v0 v1 v5 : V) (H : Heap) : Option R :=
 (bd (arA .geq v5 (.int .i64 0)) fun t24_1 =>
 (bd (asB t24_1) fun b2 =>
 if b2 = true then
 (bd (idxS 1 v0 v5) fun t30_3 =>
 (bd (ld1 t30_3 (H.more 0)) fun t31_4 =>
 (bd (idxS 1 v1 v5) fun t34_5 =>
 (bd (ld1 t34_5 (H.more 0)) fun t35_6 =>
 (bd (arA .lss t31_4 t35_6) fun t36_7 =>
 (bd (asB t36_7) fun b8 =>
 if b8 = true then
 (some ((.int .i64 (-1)), (H.more 0)))
 else
 (bd (idxS 1 v0 v5) fun t40_9 =>
 (bd (ld1 t40_9 ((H.more 0).more 0)) fun t41_10 =>
 (bd (idxS 1 v1 v5) fun t44_11 =>
 (bd (ld1 t44_11 ((H.more 0).more 0)) fun t45_12 =>
 (bd (arA .gtr t41_10 t45_12) fun t46_13 =>
 (bd (asB t46_13) fun b14 =>
 if b14 = true then
 (some ((.int .i64 1), ((H.more 0).more 0)))
 else
 (bd (arA .sub v5 (.int .i64 1)) fun t26_15 =>
 (s0 v0 v1 t26_15 ((H.more 0).more 0)))))))))))))))
 else
 (some ((.int .i64 0), H))))
theorem nat_cmp.r_l0_e (n m0 : Nat) : nat_cmp.r_l0 @bdI (callA C n) n (nat_cmp.l0 n m0) = nat_cmp.l0 n (m0 + 1) := by
  funext v0 v1 v5 H
  unfold nat_cmp.r_l0
  kernel_rfl
noncomputable def nat_cmp.r_l0_lp (bd : B3) (call : FuncId → List V → Heap → Option R) (n : Nat) (m : Nat) : V → V → V → Heap → Option R := Nat.rec (motive := fun _ => V → V → V → Heap → Option R) (fun _ _ _ _ => none) (fun _ self => nat_cmp.r_l0 bd call n self) m
theorem nat_cmp.r_l0_lp_e (n : Nat) : nat_cmp.r_l0_lp @bdI (callA C n) n = nat_cmp.l0 n := by
  funext m
  induction m with
  | zero => funext v0 v1 v5 H; kernel_rfl
  | succ k ih => exact (congrArg (nat_cmp.r_l0 @bdI (callA C n) n) ih).trans (nat_cmp.r_l0_e n k)
noncomputable def nat_cmp.r (bd : B3) (call : FuncId → List V → Heap → Option R) (n : Nat) (v0 v1 : V) (H : Heap) : Option R :=
 (bd (call 190 [v0] H) fun r1 =>
 (bd (call 190 [v1] r1.2) fun r2 =>
 (bd (lenSl r1.1) fun t11_3 =>
 (bd (lenSl r2.1) fun t13_4 =>
 (bd (arA .neq t11_3 t13_4) fun t14_5 =>
 (bd (asB t14_5) fun b6 =>
 if b6 = true then
 (bd (lenSl r1.1) fun t16_7 =>
 (bd (lenSl r2.1) fun t18_8 =>
 (bd (arA .lss t16_7 t18_8) fun t19_9 =>
 (bd (asB t19_9) fun b10 =>
 if b10 = true then
 (some ((.int .i64 (-1)), r2.2))
 else
 (some ((.int .i64 1), r2.2))))))
 else
 (bd (lenSl r1.1) fun t21_11 =>
 (bd (arA .sub t21_11 (.int .i64 1)) fun t22_12 =>
 (nat_cmp.r_l0_lp bd call n n r1.1 r2.1 t22_12 r2.2)))))))))
theorem nat_cmp.r_e (n : Nat) (v0 v1 : V) (H : Heap) : nat_cmp.r @bdI (callA C n) n v0 v1 H = E C n 195 [] (argsA 0 [v0, v1]) H (kR C 195) := by
  unfold nat_cmp.r
  rewrite [nat_cmp.r_l0_lp_e]
  kernel_rfl
noncomputable def nat_cmp.rf (bd : B3) (call : FuncId → List V → Heap → Option R) (n : Nat) (a : List V) (H : Heap) : Option R := pureA a H fun a => (match a with | [v0, v1] => nat_cmp.r bd call n v0 v1 ⟨0, .nil⟩ | a => E C n 195 [] (argsA 0 a) ⟨0, .nil⟩ (kR C 195))
theorem nat_cmp.rf_b (n : Nat) (a : List V) (H : Heap) : (match a with | [v0, v1] => nat_cmp.r @bdI (callA C n) n v0 v1 H | a => E C n 195 [] (argsA 0 a) H (kR C 195)) = E C n 195 [] (argsA 0 a) H (kR C 195) := by
  split
  · exact nat_cmp.r_e n _ _ H
  · rfl
theorem nat_cmp.rf_e (n : Nat) (a : List V) (H : Heap) : nat_cmp.rf @bdI (callA C n) n a H = callA C (n + 1) 195 a H := by
  unfold nat_cmp.rf
  refine (congrArg (pureA a H) (funext fun a => nat_cmp.rf_b n a ⟨0, .nil⟩)).trans ?_
  kernel_rfl
noncomputable def quad_Sign.r (bd : B3) (call : FuncId → List V → Heap → Option R) (n : Nat) (v0 : V) (H : Heap) : Option R :=
 (bd (boxA ty_api_Quad v0) fun o1 =>
 (bd (ldN 4 (.ptr (some (H.n, 0))) (H.push o1)) fun t4_2 =>
 (bd (call 222 [t4_2] (H.push o1)) fun r3 =>
 (bd (asB r3.1) fun b4 =>
 if b4 = true then
 (some ((.int .i64 (-1)), r3.2))
 else
 (bd (ldN 4 (.ptr (some (H.n, 0))) r3.2) fun t7_5 =>
 (bd (flE 1 [(.int .u64 0), (.int .u64 0), (.int .u64 0), (.int .u64 0)] []) fun t8_6 =>
 (bd (eqlA P ty_api_Quad t7_5 t8_6) fun t9_7 =>
 (bd (asB t9_7) fun b8 =>
 if b8 = true then
 (some ((.int .i64 0), r3.2))
 else
 (some ((.int .i64 1), r3.2))))))))))
theorem quad_Sign.r_e (n : Nat) (v0 : V) (H : Heap) : quad_Sign.r @bdI (callA C n) n v0 H = E C n 196 [] (argsA 0 [v0]) H (kR C 196) := by
  unfold quad_Sign.r
  kernel_rfl
noncomputable def quad_Sign.rf (bd : B3) (call : FuncId → List V → Heap → Option R) (n : Nat) (a : List V) (H : Heap) : Option R := pureA a H fun a => (match a with | [v0] => quad_Sign.r bd call n v0 ⟨0, .nil⟩ | a => E C n 196 [] (argsA 0 a) ⟨0, .nil⟩ (kR C 196))
theorem quad_Sign.rf_b (n : Nat) (a : List V) (H : Heap) : (match a with | [v0] => quad_Sign.r @bdI (callA C n) n v0 H | a => E C n 196 [] (argsA 0 a) H (kR C 196)) = E C n 196 [] (argsA 0 a) H (kR C 196) := by
  split
  · exact quad_Sign.r_e n _ H
  · rfl
theorem quad_Sign.rf_e (n : Nat) (a : List V) (H : Heap) : quad_Sign.rf @bdI (callA C n) n a H = callA C (n + 1) 196 a H := by
  unfold quad_Sign.rf
  refine (congrArg (pureA a H) (funext fun a => quad_Sign.rf_b n a ⟨0, .nil⟩)).trans ?_
  kernel_rfl
noncomputable def quad_of.r (bd : B3) (call : FuncId → List V → Heap → Option R) (n : Nat) (v0 : V) (H : Heap) : Option R :=
 (bd (boxA ty_api_Wide v0) fun o1 =>
 (bd (faA 0 (.ptr (some (H.n, 0)))) fun t4_2 =>
 (bd (ld1 t4_2 ((H.push o1).push (.cells [(.int .u64 0), (.int .u64 0), (.int .u64 0), (.int .u64 0)] ty_api_Quad false))) fun t5_3 =>
 (bd (shA .shr t5_3 (.int .u64 63)) fun t6_4 =>
 (bd (cvInt .u64 t6_4) fun t7_5 =>
 (bd (faA 1 (.ptr (some (H.n, 0)))) fun t8_6 =>
 (bd (ld1 t8_6 ((H.push o1).push (.cells [(.int .u64 0), (.int .u64 0), (.int .u64 0), (.int .u64 0)] ty_api_Quad false))) fun t9_7 =>
 (bd (faA 0 (.ptr (some (H.n, 0)))) fun t10_8 =>
 (bd (ld1 t10_8 ((H.push o1).push (.cells [(.int .u64 0), (.int .u64 0), (.int .u64 0), (.int .u64 0)] ty_api_Quad false))) fun t11_9 =>
 (bd (cvInt .u64 t11_9) fun t12_10 =>
 (bd (flE 1 [(.int .u64 0), (.int .u64 0), (.int .u64 0), (.int .u64 0)] [(0, t9_7), (1, t12_10), (2, t7_5), (3, t7_5)]) fun t15_11 =>
 (bd (stA 4 (.ptr (some ((H.push o1).n, 0))) t15_11 ((H.push o1).push (.cells [(.int .u64 0), (.int .u64 0), (.int .u64 0), (.int .u64 0)] ty_api_Quad false))) fun H12 =>
 (bd (ldN 4 (.ptr (some ((H.push o1).n, 0))) H12) fun t13 =>
 (some (t13, H12)))))))))))))))
theorem quad_of.r_e (n : Nat) (v0 : V) (H : Heap) : quad_of.r @bdI (callA C n) n v0 H = E C n 198 [] (argsA 0 [v0]) H (kR C 198) := by
  unfold quad_of.r
  kernel_rfl
noncomputable def quad_of.rf (bd : B3) (call : FuncId → List V → Heap → Option R) (n : Nat) (a : List V) (H : Heap) : Option R := pureA a H fun a => (match a with | [v0] => quad_of.r bd call n v0 ⟨0, .nil⟩ | a => E C n 198 [] (argsA 0 a) ⟨0, .nil⟩ (kR C 198))
theorem quad_of.rf_b (n : Nat) (a : List V) (H : Heap) : (match a with | [v0] => quad_of.r @bdI (callA C n) n v0 H | a => E C n 198 [] (argsA 0 a) H (kR C 198)) = E C n 198 [] (argsA 0 a) H (kR C 198) := by
  split
  · exact quad_of.r_e n _ H
  · rfl
theorem quad_of.rf_e (n : Nat) (a : List V) (H : Heap) : quad_of.rf @bdI (callA C n) n a H = callA C (n + 1) 198 a H := by
  unfold quad_of.rf
  refine (congrArg (pureA a H) (funext fun a => quad_of.rf_b n a ⟨0, .nil⟩)).trans ?_
  kernel_rfl
noncomputable def pred_across.r (bd : B3) (call : FuncId → List V → Heap → Option R) (n : Nat) (v0 v1 : V) (H : Heap) : Option R :=
 (bd (boxA ty_api_Point v0) fun o1 =>
 (bd (boxA ty_api_Point v1) fun o2 =>
 (bd (faA 0 (.ptr (some (H.n, 0)))) fun t5_3 =>
 (bd (ld1 t5_3 ((((H.push o1).push o2).push (.cells [(.int .i64 0), (.int .u64 0)] ty_api_Wide false)).more 0)) fun t6_4 =>
 (bd (faA 1 (.ptr (some ((H.push o1).n, 0)))) fun t7_5 =>
 (bd (ld1 t7_5 ((((H.push o1).push o2).push (.cells [(.int .i64 0), (.int .u64 0)] ty_api_Wide false)).more 0)) fun t8_6 =>
 (bd (call 116 [t6_4, t8_6] ((((H.push o1).push o2).push (.cells [(.int .i64 0), (.int .u64 0)] ty_api_Wide false)).more 0)) fun r7 =>
 (bd (faA 1 (.ptr (some (H.n, 0)))) fun t10_8 =>
 (bd (ld1 t10_8 r7.2) fun t11_9 =>
 (bd (chk (ld1 t10_8 ((((H.push o1).push o2).push (.cells [(.int .i64 0), (.int .u64 0)] ty_api_Wide false)).more 0)) t11_9) fun _ =>
 (bd (faA 0 (.ptr (some ((H.push o1).n, 0)))) fun t12_10 =>
 (bd (ld1 t12_10 r7.2) fun t13_11 =>
 (bd (chk (ld1 t12_10 ((((H.push o1).push o2).push (.cells [(.int .i64 0), (.int .u64 0)] ty_api_Wide false)).more 0)) t13_11) fun _ =>
 (bd (call 116 [t11_9, t13_11] r7.2) fun r12 =>
 (bd (call 223 [r7.1, r12.1] r12.2) fun r13 =>
 (bd (stA 2 (.ptr (some (((H.push o1).push o2).n, 0))) r13.1 r13.2) fun H14 =>
 (bd (ldN 2 (.ptr (some (((H.push o1).push o2).n, 0))) H14) fun t15 =>
 (some (t15, H14)))))))))))))))))))
theorem pred_across.r_e (n : Nat) (v0 v1 : V) (H : Heap) : pred_across.r @bdI (callA C n) n v0 v1 H = E C n 199 [] (argsA 0 [v0, v1]) H (kR C 199) := by
  unfold pred_across.r
  kernel_rfl
noncomputable def pred_across.rf (bd : B3) (call : FuncId → List V → Heap → Option R) (n : Nat) (a : List V) (H : Heap) : Option R := pureA a H fun a => (match a with | [v0, v1] => pred_across.r bd call n v0 v1 ⟨0, .nil⟩ | a => E C n 199 [] (argsA 0 a) ⟨0, .nil⟩ (kR C 199))
theorem pred_across.rf_b (n : Nat) (a : List V) (H : Heap) : (match a with | [v0, v1] => pred_across.r @bdI (callA C n) n v0 v1 H | a => E C n 199 [] (argsA 0 a) H (kR C 199)) = E C n 199 [] (argsA 0 a) H (kR C 199) := by
  split
  · exact pred_across.r_e n _ _ H
  · rfl
theorem pred_across.rf_e (n : Nat) (a : List V) (H : Heap) : pred_across.rf @bdI (callA C n) n a H = callA C (n + 1) 199 a H := by
  unfold pred_across.rf
  refine (congrArg (pureA a H) (funext fun a => pred_across.rf_b n a ⟨0, .nil⟩)).trans ?_
  kernel_rfl
@[irreducible] noncomputable def quad_apart.p0 (n : Nat) (v1 v2 v4 : V) (H : Heap) : Option R := E C n 200 [1, 1, 1] [(1, v1), (2, v2), (4, v4)] H (kR C 200)
noncomputable def quad_apart.r_p0 (bd : B3) (call : FuncId → List V → Heap → Option R) (n : Nat) (v1 v2 v4 : V) (H : Heap) : Option R :=
 (bd (faA 1 v1) fun t11_1 =>
 (bd (ld1 t11_1 H) fun t12_2 =>
 (bd (faA 0 v1) fun t13_3 =>
 (bd (ld1 t13_3 H) fun t14_4 =>
 (bd (cvInt .u64 t14_4) fun t15_5 =>
 (bd (flE 1 [(.int .u64 0), (.int .u64 0)] [(0, t12_2), (1, t15_5)]) fun t16_6 =>
 (bd (stA 2 v2 t16_6 H) fun H7 =>
 (bd (ldN 2 v2 H7) fun t8 =>
 (some (.tuple [t8, v4], H7))))))))))
theorem quad_apart.r_p0_e (n : Nat) : quad_apart.r_p0 @bdI (callA C n) n = quad_apart.p0 n := by
  funext v1 v2 v4 H
  unfold quad_apart.r_p0
  kernel_rfl
noncomputable def quad_apart.r (bd : B3) (call : FuncId → List V → Heap → Option R) (n : Nat) (v0 : V) (H : Heap) : Option R :=
 (bd (boxA ty_api_Wide v0) fun o1 =>
 (bd (faA 0 (.ptr (some (H.n, 0)))) fun t5_2 =>
 (bd (ld1 t5_2 ((H.push o1).push (.cells [(.int .u64 0), (.int .u64 0)] ty_2_uint64 false))) fun t6_3 =>
 (bd (arA .lss t6_3 (.int .i64 0)) fun t7_4 =>
 (bd (asB t7_4) fun b5 =>
 if b5 = true then
 (bd (ldN 2 (.ptr (some (H.n, 0))) ((H.push o1).push (.cells [(.int .u64 0), (.int .u64 0)] ty_2_uint64 false))) fun t9_6 =>
 (bd (call 224 [t9_6] ((H.push o1).push (.cells [(.int .u64 0), (.int .u64 0)] ty_2_uint64 false))) fun r7 =>
 (bd (stA 2 (.ptr (some (H.n, 0))) r7.1 r7.2) fun H8 =>
 (quad_apart.r_p0 bd call n (.ptr (some (H.n, 0))) (.ptr (some ((H.push o1).n, 0))) t7_4 H8))))
 else
 (quad_apart.r_p0 bd call n (.ptr (some (H.n, 0))) (.ptr (some ((H.push o1).n, 0))) t7_4 ((H.push o1).push (.cells [(.int .u64 0), (.int .u64 0)] ty_2_uint64 false))))))))
theorem quad_apart.r_e (n : Nat) (v0 : V) (H : Heap) : quad_apart.r @bdI (callA C n) n v0 H = E C n 200 [] (argsA 0 [v0]) H (kR C 200) := by
  unfold quad_apart.r
  rewrite [quad_apart.r_p0_e]
  kernel_rfl
noncomputable def quad_apart.rf (bd : B3) (call : FuncId → List V → Heap → Option R) (n : Nat) (a : List V) (H : Heap) : Option R := pureA a H fun a => (match a with | [v0] => quad_apart.r bd call n v0 ⟨0, .nil⟩ | a => E C n 200 [] (argsA 0 a) ⟨0, .nil⟩ (kR C 200))
theorem quad_apart.rf_b (n : Nat) (a : List V) (H : Heap) : (match a with | [v0] => quad_apart.r @bdI (callA C n) n v0 H | a => E C n 200 [] (argsA 0 a) H (kR C 200)) = E C n 200 [] (argsA 0 a) H (kR C 200) := by
  split
  · exact quad_apart.r_e n _ H
  · rfl
theorem quad_apart.rf_e (n : Nat) (a : List V) (H : Heap) : quad_apart.rf @bdI (callA C n) n a H = callA C (n + 1) 200 a H := by
  unfold quad_apart.rf
  refine (congrArg (pureA a H) (funext fun a => quad_apart.rf_b n a ⟨0, .nil⟩)).trans ?_
  kernel_rfl
noncomputable def wide_Sign.r (bd : B3) (call : FuncId → List V → Heap → Option R) (n : Nat) (v0 : V) (H : Heap) : Option R :=
 (bd (boxA ty_api_Wide v0) fun o1 =>
 (bd (ldN 2 (.ptr (some (H.n, 0))) (H.push o1)) fun t3_2 =>
 (bd (call 226 [t3_2] (H.push o1)) fun r3 =>
 (some (r3.1, r3.2)))))
theorem wide_Sign.r_e (n : Nat) (v0 : V) (H : Heap) : wide_Sign.r @bdI (callA C n) n v0 H = E C n 203 [] (argsA 0 [v0]) H (kR C 203) := by
  unfold wide_Sign.r
  kernel_rfl
noncomputable def wide_Sign.rf (bd : B3) (call : FuncId → List V → Heap → Option R) (n : Nat) (a : List V) (H : Heap) : Option R := pureA a H fun a => (match a with | [v0] => wide_Sign.r bd call n v0 ⟨0, .nil⟩ | a => E C n 203 [] (argsA 0 a) ⟨0, .nil⟩ (kR C 203))
theorem wide_Sign.rf_b (n : Nat) (a : List V) (H : Heap) : (match a with | [v0] => wide_Sign.r @bdI (callA C n) n v0 H | a => E C n 203 [] (argsA 0 a) H (kR C 203)) = E C n 203 [] (argsA 0 a) H (kR C 203) := by
  split
  · exact wide_Sign.r_e n _ H
  · rfl
theorem wide_Sign.rf_e (n : Nat) (a : List V) (H : Heap) : wide_Sign.rf @bdI (callA C n) n a H = callA C (n + 1) 203 a H := by
  unfold wide_Sign.rf
  refine (congrArg (pureA a H) (funext fun a => wide_Sign.rf_b n a ⟨0, .nil⟩)).trans ?_
  kernel_rfl
end Go.AM.L
end
section
set_option linter.unusedVariables false
set_option linter.unusedSimpArgs false
set_option maxRecDepth 1000000
set_option linter.unusedVariables false
namespace Go.AM.L
noncomputable def wide_Add.r (bd : B3) (call : FuncId → List V → Heap → Option R) (n : Nat) (v0 v1 : V) (H : Heap) : Option R :=
 (bd (boxA ty_api_Wide v0) fun o1 =>
 (bd (boxA ty_api_Wide v1) fun o2 =>
 (bd (ldN 2 (.ptr (some (H.n, 0))) (((H.push o1).push o2).push (.cells [(.int .i64 0), (.int .u64 0)] ty_api_Wide false))) fun t5_3 =>
 (bd (ldN 2 (.ptr (some ((H.push o1).n, 0))) (((H.push o1).push o2).push (.cells [(.int .i64 0), (.int .u64 0)] ty_api_Wide false))) fun t6_4 =>
 (bd (call 234 [t5_3, t6_4] (((H.push o1).push o2).push (.cells [(.int .i64 0), (.int .u64 0)] ty_api_Wide false))) fun r5 =>
 (bd (stA 2 (.ptr (some (((H.push o1).push o2).n, 0))) r5.1 r5.2) fun H6 =>
 (bd (ldN 2 (.ptr (some (((H.push o1).push o2).n, 0))) H6) fun t7 =>
 (some (t7, H6)))))))))
theorem wide_Add.r_e (n : Nat) (v0 v1 : V) (H : Heap) : wide_Add.r @bdI (callA C n) n v0 v1 H = E C n 220 [] (argsA 0 [v0, v1]) H (kR C 220) := by
  unfold wide_Add.r
  kernel_rfl
noncomputable def wide_Add.rf (bd : B3) (call : FuncId → List V → Heap → Option R) (n : Nat) (a : List V) (H : Heap) : Option R := pureA a H fun a => (match a with | [v0, v1] => wide_Add.r bd call n v0 v1 ⟨0, .nil⟩ | a => E C n 220 [] (argsA 0 a) ⟨0, .nil⟩ (kR C 220))
theorem wide_Add.rf_b (n : Nat) (a : List V) (H : Heap) : (match a with | [v0, v1] => wide_Add.r @bdI (callA C n) n v0 v1 H | a => E C n 220 [] (argsA 0 a) H (kR C 220)) = E C n 220 [] (argsA 0 a) H (kR C 220) := by
  split
  · exact wide_Add.r_e n _ _ H
  · rfl
theorem wide_Add.rf_e (n : Nat) (a : List V) (H : Heap) : wide_Add.rf @bdI (callA C n) n a H = callA C (n + 1) 220 a H := by
  unfold wide_Add.rf
  refine (congrArg (pureA a H) (funext fun a => wide_Add.rf_b n a ⟨0, .nil⟩)).trans ?_
  kernel_rfl
noncomputable def nat_size.r (bd : B3) (call : FuncId → List V → Heap → Option R) (n : Nat) (v0 : V) (H : Heap) : Option R :=
 (bd (call 190 [v0] H) fun r1 =>
 (bd (lenSl r1.1) fun t6_2 =>
 (bd (arA .eql t6_2 (.int .i64 0)) fun t7_3 =>
 (bd (asB t7_3) fun b4 =>
 if b4 = true then
 (some ((.int .i64 0), r1.2))
 else
 (bd (lenSl r1.1) fun t9_5 =>
 (bd (arA .sub t9_5 (.int .i64 1)) fun t10_6 =>
 (bd (arA .mul (.int .i64 32) t10_6) fun t11_7 =>
 (bd (lenSl r1.1) fun t14_8 =>
 (bd (arA .sub t14_8 (.int .i64 1)) fun t15_9 =>
 (bd (idxS 1 r1.1 t15_9) fun t16_10 =>
 (bd (ld1 t16_10 r1.2) fun t17_11 =>
 (bd (call 52 [t17_11] r1.2) fun r12 =>
 (bd (arA .add t11_7 r12.1) fun t19_13 =>
 (some (t19_13, r12.2)))))))))))))))
theorem nat_size.r_e (n : Nat) (v0 : V) (H : Heap) : nat_size.r @bdI (callA C n) n v0 H = E C n 221 [] (argsA 0 [v0]) H (kR C 221) := by
  unfold nat_size.r
  kernel_rfl
noncomputable def nat_size.rf (bd : B3) (call : FuncId → List V → Heap → Option R) (n : Nat) (a : List V) (H : Heap) : Option R := pureA a H fun a => (match a with | [v0] => nat_size.r bd call n v0 ⟨0, .nil⟩ | a => E C n 221 [] (argsA 0 a) ⟨0, .nil⟩ (kR C 221))
theorem nat_size.rf_b (n : Nat) (a : List V) (H : Heap) : (match a with | [v0] => nat_size.r @bdI (callA C n) n v0 H | a => E C n 221 [] (argsA 0 a) H (kR C 221)) = E C n 221 [] (argsA 0 a) H (kR C 221) := by
  split
  · exact nat_size.r_e n _ H
  · rfl
theorem nat_size.rf_e (n : Nat) (a : List V) (H : Heap) : nat_size.rf @bdI (callA C n) n a H = callA C (n + 1) 221 a H := by
  unfold nat_size.rf
  refine (congrArg (pureA a H) (funext fun a => nat_size.rf_b n a ⟨0, .nil⟩)).trans ?_
  kernel_rfl
noncomputable def quad_below.r (bd : B3) (call : FuncId → List V → Heap → Option R) (n : Nat) (v0 : V) (H : Heap) : Option R :=
 (bd (boxA ty_api_Quad v0) fun o1 =>
 (bd (idxP 4 1 (.ptr (some (H.n, 0))) (.int .i64 3)) fun t3_2 =>
 (bd (ld1 t3_2 (H.push o1)) fun t4_3 =>
 (bd (shA .shr t4_3 (.int .u64 63)) fun t5_4 =>
 (bd (arA .eql t5_4 (.int .u64 1)) fun t6_5 =>
 (some (t6_5, (H.push o1))))))))
theorem quad_below.r_e (n : Nat) (v0 : V) (H : Heap) : quad_below.r @bdI (callA C n) n v0 H = E C n 222 [] (argsA 0 [v0]) H (kR C 222) := by
  unfold quad_below.r
  kernel_rfl
noncomputable def quad_below.rf (bd : B3) (call : FuncId → List V → Heap → Option R) (n : Nat) (a : List V) (H : Heap) : Option R := pureA a H fun a => (match a with | [v0] => quad_below.r bd call n v0 ⟨0, .nil⟩ | a => E C n 222 [] (argsA 0 a) ⟨0, .nil⟩ (kR C 222))
theorem quad_below.rf_b (n : Nat) (a : List V) (H : Heap) : (match a with | [v0] => quad_below.r @bdI (callA C n) n v0 H | a => E C n 222 [] (argsA 0 a) H (kR C 222)) = E C n 222 [] (argsA 0 a) H (kR C 222) := by
  split
  · exact quad_below.r_e n _ H
  · rfl
theorem quad_below.rf_e (n : Nat) (a : List V) (H : Heap) : quad_below.rf @bdI (callA C n) n a H = callA C (n + 1) 222 a H := by
  unfold quad_below.rf
  refine (congrArg (pureA a H) (funext fun a => quad_below.rf_b n a ⟨0, .nil⟩)).trans ?_
  kernel_rfl
noncomputable def wide_Sub.r (bd : B3) (call : FuncId → List V → Heap → Option R) (n : Nat) (v0 v1 : V) (H : Heap) : Option R :=
 (bd (boxA ty_api_Wide v0) fun o1 =>
 (bd (boxA ty_api_Wide v1) fun o2 =>
 (bd (ldN 2 (.ptr (some (H.n, 0))) (((H.push o1).push o2).push (.cells [(.int .i64 0), (.int .u64 0)] ty_api_Wide false))) fun t5_3 =>
 (bd (ldN 2 (.ptr (some ((H.push o1).n, 0))) (((H.push o1).push o2).push (.cells [(.int .i64 0), (.int .u64 0)] ty_api_Wide false))) fun t6_4 =>
 (bd (call 235 [t5_3, t6_4] (((H.push o1).push o2).push (.cells [(.int .i64 0), (.int .u64 0)] ty_api_Wide false))) fun r5 =>
 (bd (stA 2 (.ptr (some (((H.push o1).push o2).n, 0))) r5.1 r5.2) fun H6 =>
 (bd (ldN 2 (.ptr (some (((H.push o1).push o2).n, 0))) H6) fun t7 =>
 (some (t7, H6)))))))))
theorem wide_Sub.r_e (n : Nat) (v0 v1 : V) (H : Heap) : wide_Sub.r @bdI (callA C n) n v0 v1 H = E C n 223 [] (argsA 0 [v0, v1]) H (kR C 223) := by
  unfold wide_Sub.r
  kernel_rfl
noncomputable def wide_Sub.rf (bd : B3) (call : FuncId → List V → Heap → Option R) (n : Nat) (a : List V) (H : Heap) : Option R := pureA a H fun a => (match a with | [v0, v1] => wide_Sub.r bd call n v0 v1 ⟨0, .nil⟩ | a => E C n 223 [] (argsA 0 a) ⟨0, .nil⟩ (kR C 223))
theorem wide_Sub.rf_b (n : Nat) (a : List V) (H : Heap) : (match a with | [v0, v1] => wide_Sub.r @bdI (callA C n) n v0 v1 H | a => E C n 223 [] (argsA 0 a) H (kR C 223)) = E C n 223 [] (argsA 0 a) H (kR C 223) := by
  split
  · exact wide_Sub.r_e n _ _ H
  · rfl
theorem wide_Sub.rf_e (n : Nat) (a : List V) (H : Heap) : wide_Sub.rf @bdI (callA C n) n a H = callA C (n + 1) 223 a H := by
  unfold wide_Sub.rf
  refine (congrArg (pureA a H) (funext fun a => wide_Sub.rf_b n a ⟨0, .nil⟩)).trans ?_
  kernel_rfl
noncomputable def wide_sign.r (bd : B3) (call : FuncId → List V → Heap → Option R) (n : Nat) (v0 : V) (H : Heap) : Option R :=
 (bd (boxA ty_api_Wide v0) fun o1 =>
 (bd (faA 0 (.ptr (some (H.n, 0)))) fun t4_2 =>
 (bd (ld1 t4_2 (H.push o1)) fun t5_3 =>
 (bd (arA .lss t5_3 (.int .i64 0)) fun t6_4 =>
 (bd (asB t6_4) fun b5 =>
 if b5 = true then
 (some ((.int .i64 (-1)), (H.push o1)))
 else
 (bd (faA 0 (.ptr (some (H.n, 0)))) fun t8_6 =>
 (bd (ld1 t8_6 (H.push o1)) fun t9_7 =>
 (bd (arA .eql t9_7 (.int .i64 0)) fun t10_8 =>
 (bd (asB t10_8) fun b9 =>
 if b9 = true then
 (bd (faA 1 (.ptr (some (H.n, 0)))) fun t12_10 =>
 (bd (ld1 t12_10 (H.push o1)) fun t13_11 =>
 (bd (arA .eql t13_11 (.int .u64 0)) fun t14_12 =>
 (bd (asB t14_12) fun b13 =>
 if b13 = true then
 (some ((.int .i64 0), (H.push o1)))
 else
 (some ((.int .i64 1), (H.push o1)))))))
 else
 (some ((.int .i64 1), (H.push o1))))))))))))
theorem wide_sign.r_e (n : Nat) (v0 : V) (H : Heap) : wide_sign.r @bdI (callA C n) n v0 H = E C n 226 [] (argsA 0 [v0]) H (kR C 226) := by
  unfold wide_sign.r
  kernel_rfl
noncomputable def wide_sign.rf (bd : B3) (call : FuncId → List V → Heap → Option R) (n : Nat) (a : List V) (H : Heap) : Option R := pureA a H fun a => (match a with | [v0] => wide_sign.r bd call n v0 ⟨0, .nil⟩ | a => E C n 226 [] (argsA 0 a) ⟨0, .nil⟩ (kR C 226))
theorem wide_sign.rf_b (n : Nat) (a : List V) (H : Heap) : (match a with | [v0] => wide_sign.r @bdI (callA C n) n v0 H | a => E C n 226 [] (argsA 0 a) H (kR C 226)) = E C n 226 [] (argsA 0 a) H (kR C 226) := by
  split
  · exact wide_sign.r_e n _ H
  · rfl
theorem wide_sign.rf_e (n : Nat) (a : List V) (H : Heap) : wide_sign.rf @bdI (callA C n) n a H = callA C (n + 1) 226 a H := by
  unfold wide_sign.rf
  refine (congrArg (pureA a H) (funext fun a => wide_sign.rf_b n a ⟨0, .nil⟩)).trans ?_
  kernel_rfl
noncomputable def wide_add.r (bd : B3) (call : FuncId → List V → Heap → Option R) (n : Nat) (v0 v1 : V) (H : Heap) : Option R :=
 (bd (boxA ty_api_Wide v0) fun o1 =>
 (bd (boxA ty_api_Wide v1) fun o2 =>
 (bd (faA 1 (.ptr (some (H.n, 0)))) fun t10_3 =>
 (bd (ld1 t10_3 (((H.push o1).push o2).push (.cells [(.int .i64 0), (.int .u64 0)] ty_api_Wide false))) fun t11_4 =>
 (bd (faA 1 (.ptr (some ((H.push o1).n, 0)))) fun t12_5 =>
 (bd (ld1 t12_5 (((H.push o1).push o2).push (.cells [(.int .i64 0), (.int .u64 0)] ty_api_Wide false))) fun t13_6 =>
 (bd (call 201 [t11_4, t13_6, (.int .u64 0)] (((H.push o1).push o2).push (.cells [(.int .i64 0), (.int .u64 0)] ty_api_Wide false))) fun r7 =>
 (bd (extA r7.1 0) fun t15_8 =>
 (bd (extA r7.1 1) fun t16_9 =>
 (bd (faA 0 (.ptr (some (H.n, 0)))) fun t18_10 =>
 (bd (ld1 t18_10 r7.2) fun t19_11 =>
 (bd (cvInt .u64 t19_11) fun t20_12 =>
 (bd (faA 0 (.ptr (some ((H.push o1).n, 0)))) fun t21_13 =>
 (bd (ld1 t21_13 r7.2) fun t22_14 =>
 (bd (cvInt .u64 t22_14) fun t23_15 =>
 (bd (call 201 [t20_12, t23_15, t16_9] r7.2) fun r16 =>
 (bd (extA r16.1 0) fun t26_17 =>
 (bd (extA r16.1 1) fun t27_18 =>
 (bd (cvInt .i64 t26_17) fun t29_19 =>
 (bd (flA [(0, 1), (1, 1)] [(.int .i64 0), (.int .u64 0)] [(0, t29_19), (1, t15_8)]) fun t31_20 =>
 (bd (stA 2 (.ptr (some (((H.push o1).push o2).n, 0))) t31_20 r16.2) fun H21 =>
 (bd (ldN 2 (.ptr (some (((H.push o1).push o2).n, 0))) H21) fun t22 =>
 (some (t22, H21))))))))))))))))))))))))
theorem wide_add.r_e (n : Nat) (v0 v1 : V) (H : Heap) : wide_add.r @bdI (callA C n) n v0 v1 H = E C n 234 [] (argsA 0 [v0, v1]) H (kR C 234) := by
  unfold wide_add.r
  kernel_rfl
noncomputable def wide_add.rf (bd : B3) (call : FuncId → List V → Heap → Option R) (n : Nat) (a : List V) (H : Heap) : Option R := pureA a H fun a => (match a with | [v0, v1] => wide_add.r bd call n v0 v1 ⟨0, .nil⟩ | a => E C n 234 [] (argsA 0 a) ⟨0, .nil⟩ (kR C 234))
theorem wide_add.rf_b (n : Nat) (a : List V) (H : Heap) : (match a with | [v0, v1] => wide_add.r @bdI (callA C n) n v0 v1 H | a => E C n 234 [] (argsA 0 a) H (kR C 234)) = E C n 234 [] (argsA 0 a) H (kR C 234) := by
  split
  · exact wide_add.r_e n _ _ H
  · rfl
theorem wide_add.rf_e (n : Nat) (a : List V) (H : Heap) : wide_add.rf @bdI (callA C n) n a H = callA C (n + 1) 234 a H := by
  unfold wide_add.rf
  refine (congrArg (pureA a H) (funext fun a => wide_add.rf_b n a ⟨0, .nil⟩)).trans ?_
  kernel_rfl
noncomputable def wide_sub.r (bd : B3) (call : FuncId → List V → Heap → Option R) (n : Nat) (v0 v1 : V) (H : Heap) : Option R :=
 (bd (boxA ty_api_Wide v0) fun o1 =>
 (bd (boxA ty_api_Wide v1) fun o2 =>
 (bd (faA 1 (.ptr (some (H.n, 0)))) fun t10_3 =>
 (bd (ld1 t10_3 (((H.push o1).push o2).push (.cells [(.int .i64 0), (.int .u64 0)] ty_api_Wide false))) fun t11_4 =>
 (bd (faA 1 (.ptr (some ((H.push o1).n, 0)))) fun t12_5 =>
 (bd (ld1 t12_5 (((H.push o1).push o2).push (.cells [(.int .i64 0), (.int .u64 0)] ty_api_Wide false))) fun t13_6 =>
 (bd (call 225 [t11_4, t13_6, (.int .u64 0)] (((H.push o1).push o2).push (.cells [(.int .i64 0), (.int .u64 0)] ty_api_Wide false))) fun r7 =>
 (bd (extA r7.1 0) fun t15_8 =>
 (bd (extA r7.1 1) fun t16_9 =>
 (bd (faA 0 (.ptr (some (H.n, 0)))) fun t18_10 =>
 (bd (ld1 t18_10 r7.2) fun t19_11 =>
 (bd (cvInt .u64 t19_11) fun t20_12 =>
 (bd (faA 0 (.ptr (some ((H.push o1).n, 0)))) fun t21_13 =>
 (bd (ld1 t21_13 r7.2) fun t22_14 =>
 (bd (cvInt .u64 t22_14) fun t23_15 =>
 (bd (call 225 [t20_12, t23_15, t16_9] r7.2) fun r16 =>
 (bd (extA r16.1 0) fun t26_17 =>
 (bd (extA r16.1 1) fun t27_18 =>
 (bd (cvInt .i64 t26_17) fun t29_19 =>
 (bd (flA [(0, 1), (1, 1)] [(.int .i64 0), (.int .u64 0)] [(0, t29_19), (1, t15_8)]) fun t31_20 =>
 (bd (stA 2 (.ptr (some (((H.push o1).push o2).n, 0))) t31_20 r16.2) fun H21 =>
 (bd (ldN 2 (.ptr (some (((H.push o1).push o2).n, 0))) H21) fun t22 =>
 (some (t22, H21))))))))))))))))))))))))
theorem wide_sub.r_e (n : Nat) (v0 v1 : V) (H : Heap) : wide_sub.r @bdI (callA C n) n v0 v1 H = E C n 235 [] (argsA 0 [v0, v1]) H (kR C 235) := by
  unfold wide_sub.r
  kernel_rfl
noncomputable def wide_sub.rf (bd : B3) (call : FuncId → List V → Heap → Option R) (n : Nat) (a : List V) (H : Heap) : Option R := pureA a H fun a => (match a with | [v0, v1] => wide_sub.r bd call n v0 v1 ⟨0, .nil⟩ | a => E C n 235 [] (argsA 0 a) ⟨0, .nil⟩ (kR C 235))
theorem wide_sub.rf_b (n : Nat) (a : List V) (H : Heap) : (match a with | [v0, v1] => wide_sub.r @bdI (callA C n) n v0 v1 H | a => E C n 235 [] (argsA 0 a) H (kR C 235)) = E C n 235 [] (argsA 0 a) H (kR C 235) := by
  split
  · exact wide_sub.r_e n _ _ H
  · rfl
theorem wide_sub.rf_e (n : Nat) (a : List V) (H : Heap) : wide_sub.rf @bdI (callA C n) n a H = callA C (n + 1) 235 a H := by
  unfold wide_sub.rf
  refine (congrArg (pureA a H) (funext fun a => wide_sub.rf_b n a ⟨0, .nil⟩)).trans ?_
  kernel_rfl
end Go.AM.L
end
section
set_option linter.unusedVariables false
set_option linter.unusedSimpArgs false
set_option maxRecDepth 1000000
namespace Go.AM.L
theorem fns1_0 : tabList0.all (fun p => okFun P p.1) = true := by kernel_rfl
theorem fns1_1 : tabList1.all (fun p => okFun P p.1) = true := by kernel_rfl
theorem fns1_2 : tabList2.all (fun p => okFun P p.1) = true := by kernel_rfl
theorem fns1_3 : tabList3.all (fun p => okFun P p.1) = true := by kernel_rfl
theorem fns1_4 : tabList4.all (fun p => okFun P p.1) = true := by kernel_rfl
theorem fns1_5 : tabList5.all (fun p => okFun P p.1) = true := by kernel_rfl
theorem fns1_6 : tabList6.all (fun p => okFun P p.1) = true := by kernel_rfl
theorem fns1_7 : tabList7.all (fun p => okFun P p.1) = true := by kernel_rfl
theorem fns1 : tabList.all (fun p => okFun P p.1) = true := by simp only [tabList, List.all_append, fns1_0, fns1_1, fns1_2, fns1_3, fns1_4, fns1_5, fns1_6, fns1_7, Bool.and_self]
theorem fns : ∀ f tab, C.tabs f = some tab → okFun C.P f = true := fun f tab h => List.all_eq_true.1 fns1 (f, tab) (look_mem h)
set_option maxHeartbeats 8000000 in
theorem exts : ∀ p ∈ extList, ExtSound C.P p.1 p.2 ∧ ExtFrame p.2 := by
  intro p hp
  simp only [extList, List.mem_cons, List.not_mem_nil, or_false] at hp
  rcases hp with rfl | rfl
  · exact ⟨xs_add64 (Go.Proofs.Tryz.func201) (by kernel_rfl) (by kernel_rfl) (by kernel_rfl) (by kernel_rfl), extAdd64_frame⟩
  · exact ⟨xs_sub64 (Go.Proofs.Tryz.func225) (by kernel_rfl) (by kernel_rfl) (by kernel_rfl) (by kernel_rfl), extSub64_frame⟩
theorem mixed : C.P.follows .mixedOrders = true := (show P.follows .mixedOrders = true from seat_mixed)
theorem ext_mem {f : Nat} {g : List V → Heap → Option R} (h : C.ext f = some g) : (f, g) ∈ extList := look_mem (l := extList) (show extList.lookup f = some g from h)
theorem ok : C.Ok := { mixed := mixed, fns := fns, ext := fun f g h => exts (f, g) (ext_mem h), okc := fun _ _ h => h }
end Go.AM.L
end
