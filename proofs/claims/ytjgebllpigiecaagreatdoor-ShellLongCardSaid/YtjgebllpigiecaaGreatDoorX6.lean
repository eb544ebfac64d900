/- Merged by program from: LoLR6 LoLR7 LoLR8 LoLR9 LoLR10 LoLO. -/
import Derived.Test.YtjgebllpigiecaaGreatDoorX5
section
set_option linter.unusedVariables false
set_option linter.unusedSimpArgs false
set_option maxRecDepth 1000000
set_option linter.unusedVariables false
namespace Go.AM.L
noncomputable def lift_can.r (bd : B3) (call : FuncId → List V → Heap → Option R) (n : Nat) (v0 : V) (H : Heap) : Option R :=
 (bd (boxA ty_api_Point v0) fun o1 =>
 (bd (faA 0 (.ptr (some (H.n, 0)))) fun t3_2 =>
 (bd (ld1 t3_2 (H.push o1)) fun t4_3 =>
 (bd (call 238 [t4_3] (H.push o1)) fun r4 =>
 (bd (asB r4.1) fun b5 =>
 if b5 = true then
 (bd (faA 1 (.ptr (some (H.n, 0)))) fun t7_6 =>
 (bd (ld1 t7_6 r4.2) fun t8_7 =>
 (bd (call 238 [t8_7] r4.2) fun r8 =>
 (some (r8.1, r8.2)))))
 else
 (some ((.bool false), r4.2)))))))
theorem lift_can.r_e (n : Nat) (v0 : V) (H : Heap) : lift_can.r @bdI (callA C n) n v0 H = E C n 166 [] (argsA 0 [v0]) H (kR C 166) := by
  unfold lift_can.r
  kernel_rfl
noncomputable def lift_can.rf (bd : B3) (call : FuncId → List V → Heap → Option R) (n : Nat) (a : List V) (H : Heap) : Option R := pureA a H fun a => (match a with | [v0] => lift_can.r bd call n v0 ⟨0, .nil⟩ | a => E C n 166 [] (argsA 0 a) ⟨0, .nil⟩ (kR C 166))
theorem lift_can.rf_b (n : Nat) (a : List V) (H : Heap) : (match a with | [v0] => lift_can.r @bdI (callA C n) n v0 H | a => E C n 166 [] (argsA 0 a) H (kR C 166)) = E C n 166 [] (argsA 0 a) H (kR C 166) := by
  split
  · exact lift_can.r_e n _ H
  · rfl
theorem lift_can.rf_e (n : Nat) (a : List V) (H : Heap) : lift_can.rf @bdI (callA C n) n a H = callA C (n + 1) 166 a H := by
  unfold lift_can.rf
  refine (congrArg (pureA a H) (funext fun a => lift_can.rf_b n a ⟨0, .nil⟩)).trans ?_
  kernel_rfl
noncomputable def lift_part.r (bd : B3) (call : FuncId → List V → Heap → Option R) (n : Nat) (v0 v1 : V) (H : Heap) : Option R :=
 (bd (arA .quo v0 v1) fun t10_1 =>
 (bd (arA .rem v0 v1) fun t13_2 =>
 (bd (arA .lss t13_2 (.int .i64 0)) fun t15_3 =>
 (bd (asB t15_3) fun b4 =>
 if b4 = true then
 (bd (arA .sub t10_1 (.int .i64 1)) fun t17_5 =>
 (bd (arA .add t13_2 v1) fun t20_6 =>
 (some (.tuple [t20_6, t17_5], (H.more 0)))))
 else
 (some (.tuple [t13_2, t10_1], (H.more 0)))))))
theorem lift_part.r_e (n : Nat) (v0 v1 : V) (H : Heap) : lift_part.r @bdI (callA C n) n v0 v1 H = E C n 167 [] (argsA 0 [v0, v1]) H (kR C 167) := by
  unfold lift_part.r
  kernel_rfl
noncomputable def lift_part.rf (bd : B3) (call : FuncId → List V → Heap → Option R) (n : Nat) (a : List V) (H : Heap) : Option R := pureA a H fun a => (match a with | [v0, v1] => lift_part.r bd call n v0 v1 ⟨0, .nil⟩ | a => E C n 167 [] (argsA 0 a) ⟨0, .nil⟩ (kR C 167))
theorem lift_part.rf_b (n : Nat) (a : List V) (H : Heap) : (match a with | [v0, v1] => lift_part.r @bdI (callA C n) n v0 v1 H | a => E C n 167 [] (argsA 0 a) H (kR C 167)) = E C n 167 [] (argsA 0 a) H (kR C 167) := by
  split
  · exact lift_part.r_e n _ _ H
  · rfl
theorem lift_part.rf_e (n : Nat) (a : List V) (H : Heap) : lift_part.rf @bdI (callA C n) n a H = callA C (n + 1) 167 a H := by
  unfold lift_part.rf
  refine (congrArg (pureA a H) (funext fun a => lift_part.rf_b n a ⟨0, .nil⟩)).trans ?_
  kernel_rfl
noncomputable def lift_at.r (bd : B3) (call : FuncId → List V → Heap → Option R) (n : Nat) (v0 v1 v2 : V) (H : Heap) : Option R :=
 (bd (boxA ty_api_Point v0) fun o1 =>
 (bd (boxA ty_api_Off v1) fun o2 =>
 (bd (call 165 [v2] (((H.push o1).push o2).push (.cells [(.int .i64 0), (.int .i64 0)] ty_api_Point false))) fun r3 =>
 (bd (unA .not r3.1) fun t14_4 =>
 (bd (asB t14_4) fun b5 =>
 if b5 = true then
 (bd (flA [(0, 1), (1, 1)] [(.int .i64 0), (.int .i64 0)] []) fun t20_6 =>
 (bd (stA 2 (.ptr (some (((H.push o1).push o2).n, 0))) t20_6 r3.2) fun H7 =>
 (bd (ldN 2 (.ptr (some (((H.push o1).push o2).n, 0))) H7) fun t8 =>
 (some (.tuple [t8, (.bool false)], H7)))))
 else
 (bd (ldN 2 (.ptr (some (H.n, 0))) r3.2) fun t16_9 =>
 (bd (call 166 [t16_9] r3.2) fun r10 =>
 (bd (unA .not r10.1) fun t18_11 =>
 (bd (asB t18_11) fun b12 =>
 if b12 = true then
 (bd (flA [(0, 1), (1, 1)] [(.int .i64 0), (.int .i64 0)] []) fun t20_13 =>
 (bd (stA 2 (.ptr (some (((H.push o1).push o2).n, 0))) t20_13 r10.2) fun H14 =>
 (bd (ldN 2 (.ptr (some (((H.push o1).push o2).n, 0))) H14) fun t15 =>
 (some (.tuple [t15, (.bool false)], H14)))))
 else
 (bd (faA 0 (.ptr (some (H.n, 0)))) fun t22_16 =>
 (bd (ld1 t22_16 r10.2) fun t23_17 =>
 (bd (faA 0 (.ptr (some ((H.push o1).n, 0)))) fun t24_18 =>
 (bd (ld1 t24_18 r10.2) fun t25_19 =>
 (bd (call 239 [t23_17, t25_19, v2] r10.2) fun r20 =>
 (bd (extA r20.1 0) fun t28_21 =>
 (bd (extA r20.1 1) fun t29_22 =>
 (bd (faA 1 (.ptr (some (H.n, 0)))) fun t31_23 =>
 (bd (ld1 t31_23 r20.2) fun t32_24 =>
 (bd (faA 1 (.ptr (some ((H.push o1).n, 0)))) fun t33_25 =>
 (bd (ld1 t33_25 r20.2) fun t34_26 =>
 (bd (call 239 [t32_24, t34_26, v2] r20.2) fun r27 =>
 (bd (extA r27.1 0) fun t37_28 =>
 (bd (extA r27.1 1) fun t38_29 =>
 (bd (unA .not t29_22) fun t40_30 =>
 (bd (asB t40_30) fun b31 =>
 if b31 = true then
 (bd (flA [(0, 1), (1, 1)] [(.int .i64 0), (.int .i64 0)] []) fun t45_32 =>
 (bd (stA 2 (.ptr (some (((H.push o1).push o2).n, 0))) t45_32 r27.2) fun H33 =>
 (bd (ldN 2 (.ptr (some (((H.push o1).push o2).n, 0))) H33) fun t34 =>
 (some (.tuple [t34, (.bool false)], H33)))))
 else
 (bd (unA .not t38_29) fun t43_35 =>
 (bd (asB t43_35) fun b36 =>
 if b36 = true then
 (bd (flA [(0, 1), (1, 1)] [(.int .i64 0), (.int .i64 0)] []) fun t45_37 =>
 (bd (stA 2 (.ptr (some (((H.push o1).push o2).n, 0))) t45_37 r27.2) fun H38 =>
 (bd (ldN 2 (.ptr (some (((H.push o1).push o2).n, 0))) H38) fun t39 =>
 (some (.tuple [t39, (.bool false)], H38)))))
 else
 (bd (flA [(0, 1), (1, 1)] [(.int .i64 0), (.int .i64 0)] [(0, t28_21), (1, t37_28)]) fun t48_40 =>
 (bd (stA 2 (.ptr (some (((H.push o1).push o2).n, 0))) t48_40 r27.2) fun H41 =>
 (bd (ldN 2 (.ptr (some (((H.push o1).push o2).n, 0))) H41) fun t42 =>
 (some (.tuple [t42, (.bool true)], H41))))))))))))))))))))))))))))))))
theorem lift_at.r_e (n : Nat) (v0 v1 v2 : V) (H : Heap) : lift_at.r @bdI (callA C n) n v0 v1 v2 H = E C n 168 [] (argsA 0 [v0, v1, v2]) H (kR C 168) := by
  unfold lift_at.r
  kernel_rfl
noncomputable def lift_at.rf (bd : B3) (call : FuncId → List V → Heap → Option R) (n : Nat) (a : List V) (H : Heap) : Option R := pureA a H fun a => (match a with | [v0, v1, v2] => lift_at.r bd call n v0 v1 v2 ⟨0, .nil⟩ | a => E C n 168 [] (argsA 0 a) ⟨0, .nil⟩ (kR C 168))
theorem lift_at.rf_b (n : Nat) (a : List V) (H : Heap) : (match a with | [v0, v1, v2] => lift_at.r @bdI (callA C n) n v0 v1 v2 H | a => E C n 168 [] (argsA 0 a) H (kR C 168)) = E C n 168 [] (argsA 0 a) H (kR C 168) := by
  split
  · exact lift_at.r_e n _ _ _ H
  · rfl
theorem lift_at.rf_e (n : Nat) (a : List V) (H : Heap) : lift_at.rf @bdI (callA C n) n a H = callA C (n + 1) 168 a H := by
  unfold lift_at.rf
  refine (congrArg (pureA a H) (funext fun a => lift_at.rf_b n a ⟨0, .nil⟩)).trans ?_
  kernel_rfl
@[irreducible] noncomputable def pred_can.l0 (n m0 : Nat) (v5 v6 v7 : V) (H : Heap) : Option R := Lp C n 169 [1, 0, 1, 0, 0] m0 [(5, v5), (6, v6), (7, v7)] H (kB 0 (kC C n 169 [1, 1] (kR C 169)))
noncomputable def pred_can.r_l0 (bd : B3) (call : FuncId → List V → Heap → Option R) (n : Nat) (s0 : V → V → V → Heap → Option R) (v5 v6 v7 : V) (H : Heap) : Option R :=
 (bd (arA .lss v7 v6) fun t8_1 =>
 (bd (asB t8_1) fun b2 =>
 if b2 = true then
 (bd (idxS 2 v5 v7) fun t9_3 =>
 (bd (ldN 2 t9_3 H) fun t10_4 =>
 (bd (stA 2 (.ptr (some (H.n, 0))) t10_4 (H.push (.cells [(.int .i64 0), (.int .i64 0)] ty_api_Point false))) fun H5 =>
 (bd (ldN 2 (.ptr (some (H.n, 0))) H5) fun t11_6 =>
 (bd (call 240 [t11_6] H5) fun r7 =>
 (bd (unA .not r7.1) fun t13_8 =>
 (bd (asB t13_8) fun b9 =>
 if b9 = true then
 (some ((.bool false), r7.2))
 else
 (bd (arA .add v7 (.int .i64 1)) fun t14_10 =>
 (s0 v5 v6 t14_10 r7.2)))))))))
 else
 (some ((.bool true), H))))
theorem pred_can.r_l0_e (n m0 : Nat) : pred_can.r_l0 @bdI (callA C n) n (pred_can.l0 n m0) = pred_can.l0 n (m0 + 1) := by
  funext v5 v6 v7 H
  unfold pred_can.r_l0
  kernel_rfl
noncomputable def pred_can.r_l0_lp (bd : B3) (call : FuncId → List V → Heap → Option R) (n : Nat) (m : Nat) : V → V → V → Heap → Option R := Nat.rec (motive := fun _ => V → V → V → Heap → Option R) (fun _ _ _ _ => none) (fun _ self => pred_can.r_l0 bd call n self) m
theorem pred_can.r_l0_lp_e (n : Nat) : pred_can.r_l0_lp @bdI (callA C n) n = pred_can.l0 n := by
  funext m
  induction m with
  | zero => funext v5 v6 v7 H; kernel_rfl
  | succ k ih => exact (congrArg (pred_can.r_l0 @bdI (callA C n) n) ih).trans (pred_can.r_l0_e n k)
noncomputable def pred_can.r (bd : B3) (call : FuncId → List V → Heap → Option R) (n : Nat) (v0 : V) (H : Heap) : Option R :=
 (bd (lenSl v0) fun t6_1 =>
 (pred_can.r_l0_lp bd call n n v0 t6_1 (.int .i64 0) H))
theorem pred_can.r_e (n : Nat) (v0 : V) (H : Heap) : pred_can.r @bdI (callA C n) n v0 H = E C n 169 [] (argsA 0 [v0]) H (kR C 169) := by
  unfold pred_can.r
  rewrite [pred_can.r_l0_lp_e]
  kernel_rfl
noncomputable def pred_can.rf (bd : B3) (call : FuncId → List V → Heap → Option R) (n : Nat) (a : List V) (H : Heap) : Option R := pureA a H fun a => (match a with | [v0] => pred_can.r bd call n v0 ⟨0, .nil⟩ | a => E C n 169 [] (argsA 0 a) ⟨0, .nil⟩ (kR C 169))
theorem pred_can.rf_b (n : Nat) (a : List V) (H : Heap) : (match a with | [v0] => pred_can.r @bdI (callA C n) n v0 H | a => E C n 169 [] (argsA 0 a) H (kR C 169)) = E C n 169 [] (argsA 0 a) H (kR C 169) := by
  split
  · exact pred_can.r_e n _ H
  · rfl
theorem pred_can.rf_e (n : Nat) (a : List V) (H : Heap) : pred_can.rf @bdI (callA C n) n a H = callA C (n + 1) 169 a H := by
  unfold pred_can.rf
  refine (congrArg (pureA a H) (funext fun a => pred_can.rf_b n a ⟨0, .nil⟩)).trans ?_
  kernel_rfl
noncomputable def pred_square.r (bd : B3) (call : FuncId → List V → Heap → Option R) (n : Nat) (v0 : V) (H : Heap) : Option R :=
 (bd (boxA ty_api_Point v0) fun o1 =>
 (bd (faA 0 (.ptr (some (H.n, 0)))) fun t3_2 =>
 (bd (ld1 t3_2 (((H.push o1).push (.cells [(.int .i64 0), (.int .u64 0)] ty_api_Wide false)).more 0)) fun t4_3 =>
 (bd (faA 0 (.ptr (some (H.n, 0)))) fun t5_4 =>
 (bd (ld1 t5_4 (((H.push o1).push (.cells [(.int .i64 0), (.int .u64 0)] ty_api_Wide false)).more 0)) fun t6_5 =>
 (bd (call 242 [t4_3, t6_5] (((H.push o1).push (.cells [(.int .i64 0), (.int .u64 0)] ty_api_Wide false)).more 0)) fun r6 =>
 (bd (faA 1 (.ptr (some (H.n, 0)))) fun t8_7 =>
 (bd (ld1 t8_7 r6.2) fun t9_8 =>
 (bd (chk (ld1 t8_7 (((H.push o1).push (.cells [(.int .i64 0), (.int .u64 0)] ty_api_Wide false)).more 0)) t9_8) fun _ =>
 (bd (faA 1 (.ptr (some (H.n, 0)))) fun t10_9 =>
 (bd (ld1 t10_9 r6.2) fun t11_10 =>
 (bd (chk (ld1 t10_9 (((H.push o1).push (.cells [(.int .i64 0), (.int .u64 0)] ty_api_Wide false)).more 0)) t11_10) fun _ =>
 (bd (call 242 [t9_8, t11_10] r6.2) fun r11 =>
 (bd (call 241 [r6.1, r11.1] r11.2) fun r12 =>
 (bd (stA 2 (.ptr (some ((H.push o1).n, 0))) r12.1 r12.2) fun H13 =>
 (bd (ldN 2 (.ptr (some ((H.push o1).n, 0))) H13) fun t14 =>
 (some (t14, H13))))))))))))))))))
theorem pred_square.r_e (n : Nat) (v0 : V) (H : Heap) : pred_square.r @bdI (callA C n) n v0 H = E C n 170 [] (argsA 0 [v0]) H (kR C 170) := by
  unfold pred_square.r
  kernel_rfl
noncomputable def pred_square.rf (bd : B3) (call : FuncId → List V → Heap → Option R) (n : Nat) (a : List V) (H : Heap) : Option R := pureA a H fun a => (match a with | [v0] => pred_square.r bd call n v0 ⟨0, .nil⟩ | a => E C n 170 [] (argsA 0 a) ⟨0, .nil⟩ (kR C 170))
theorem pred_square.rf_b (n : Nat) (a : List V) (H : Heap) : (match a with | [v0] => pred_square.r @bdI (callA C n) n v0 H | a => E C n 170 [] (argsA 0 a) H (kR C 170)) = E C n 170 [] (argsA 0 a) H (kR C 170) := by
  split
  · exact pred_square.r_e n _ H
  · rfl
theorem pred_square.rf_e (n : Nat) (a : List V) (H : Heap) : pred_square.rf @bdI (callA C n) n a H = callA C (n + 1) 170 a H := by
  unfold pred_square.rf
  refine (congrArg (pureA a H) (funext fun a => pred_square.rf_b n a ⟨0, .nil⟩)).trans ?_
  kernel_rfl
noncomputable def pred_way.r (bd : B3) (call : FuncId → List V → Heap → Option R) (n : Nat) (v0 v1 : V) (H : Heap) : Option R :=
 (bd (boxA ty_api_Point v0) fun o1 =>
 (bd (boxA ty_api_Point v1) fun o2 =>
 (bd (faA 0 (.ptr (some ((H.push o1).n, 0)))) fun t5_3 =>
 (bd (ld1 t5_3 (((H.push o1).push o2).push (.cells [(.int .i64 0), (.int .i64 0)] ty_api_Point false))) fun t6_4 =>
 (bd (faA 0 (.ptr (some (H.n, 0)))) fun t7_5 =>
 (bd (ld1 t7_5 (((H.push o1).push o2).push (.cells [(.int .i64 0), (.int .i64 0)] ty_api_Point false))) fun t8_6 =>
 (bd (arA .sub t6_4 t8_6) fun t9_7 =>
 (bd (faA 1 (.ptr (some ((H.push o1).n, 0)))) fun t10_8 =>
 (bd (ld1 t10_8 (((H.push o1).push o2).push (.cells [(.int .i64 0), (.int .i64 0)] ty_api_Point false))) fun t11_9 =>
 (bd (faA 1 (.ptr (some (H.n, 0)))) fun t12_10 =>
 (bd (ld1 t12_10 (((H.push o1).push o2).push (.cells [(.int .i64 0), (.int .i64 0)] ty_api_Point false))) fun t13_11 =>
 (bd (arA .sub t11_9 t13_11) fun t14_12 =>
 (bd (flA [(0, 1), (1, 1)] [(.int .i64 0), (.int .i64 0)] [(0, t9_7), (1, t14_12)]) fun t15_13 =>
 (bd (stA 2 (.ptr (some (((H.push o1).push o2).n, 0))) t15_13 (((H.push o1).push o2).push (.cells [(.int .i64 0), (.int .i64 0)] ty_api_Point false))) fun H14 =>
 (bd (ldN 2 (.ptr (some (((H.push o1).push o2).n, 0))) H14) fun t15 =>
 (some (t15, H14)))))))))))))))))
theorem pred_way.r_e (n : Nat) (v0 v1 : V) (H : Heap) : pred_way.r @bdI (callA C n) n v0 v1 H = E C n 171 [] (argsA 0 [v0, v1]) H (kR C 171) := by
  unfold pred_way.r
  kernel_rfl
noncomputable def pred_way.rf (bd : B3) (call : FuncId → List V → Heap → Option R) (n : Nat) (a : List V) (H : Heap) : Option R := pureA a H fun a => (match a with | [v0, v1] => pred_way.r bd call n v0 v1 ⟨0, .nil⟩ | a => E C n 171 [] (argsA 0 a) ⟨0, .nil⟩ (kR C 171))
theorem pred_way.rf_b (n : Nat) (a : List V) (H : Heap) : (match a with | [v0, v1] => pred_way.r @bdI (callA C n) n v0 v1 H | a => E C n 171 [] (argsA 0 a) H (kR C 171)) = E C n 171 [] (argsA 0 a) H (kR C 171) := by
  split
  · exact pred_way.r_e n _ _ H
  · rfl
theorem pred_way.rf_e (n : Nat) (a : List V) (H : Heap) : pred_way.rf @bdI (callA C n) n a H = callA C (n + 1) 171 a H := by
  unfold pred_way.rf
  refine (congrArg (pureA a H) (funext fun a => pred_way.rf_b n a ⟨0, .nil⟩)).trans ?_
  kernel_rfl
noncomputable def lift_At.r (bd : B3) (call : FuncId → List V → Heap → Option R) (n : Nat) (v0 v1 v2 : V) (H : Heap) : Option R :=
 (bd (boxA ty_api_Point v0) fun o1 =>
 (bd (boxA ty_api_Off v1) fun o2 =>
 (bd (ldN 2 (.ptr (some (H.n, 0))) (((H.push o1).push o2).push (.cells [(.int .i64 0), (.int .i64 0)] ty_api_Point false))) fun t8_3 =>
 (bd (ldN 2 (.ptr (some ((H.push o1).n, 0))) (((H.push o1).push o2).push (.cells [(.int .i64 0), (.int .i64 0)] ty_api_Point false))) fun t9_4 =>
 (bd (call 168 [t8_3, t9_4, v2] (((H.push o1).push o2).push (.cells [(.int .i64 0), (.int .i64 0)] ty_api_Point false))) fun r5 =>
 (bd (extA r5.1 0) fun t12_6 =>
 (bd (extA r5.1 1) fun t13_7 =>
 (bd (stA 2 (.ptr (some (((H.push o1).push o2).n, 0))) t12_6 r5.2) fun H8 =>
 (bd (ldN 2 (.ptr (some (((H.push o1).push o2).n, 0))) H8) fun t9 =>
 (some (.tuple [t9, t13_7], H8)))))))))))
theorem lift_At.r_e (n : Nat) (v0 v1 v2 : V) (H : Heap) : lift_At.r @bdI (callA C n) n v0 v1 v2 H = E C n 184 [] (argsA 0 [v0, v1, v2]) H (kR C 184) := by
  unfold lift_At.r
  kernel_rfl
noncomputable def lift_At.rf (bd : B3) (call : FuncId → List V → Heap → Option R) (n : Nat) (a : List V) (H : Heap) : Option R := pureA a H fun a => (match a with | [v0, v1, v2] => lift_At.r bd call n v0 v1 v2 ⟨0, .nil⟩ | a => E C n 184 [] (argsA 0 a) ⟨0, .nil⟩ (kR C 184))
theorem lift_At.rf_b (n : Nat) (a : List V) (H : Heap) : (match a with | [v0, v1, v2] => lift_At.r @bdI (callA C n) n v0 v1 v2 H | a => E C n 184 [] (argsA 0 a) H (kR C 184)) = E C n 184 [] (argsA 0 a) H (kR C 184) := by
  split
  · exact lift_At.r_e n _ _ _ H
  · rfl
theorem lift_At.rf_e (n : Nat) (a : List V) (H : Heap) : lift_At.rf @bdI (callA C n) n a H = callA C (n + 1) 184 a H := by
  unfold lift_At.rf
  refine (congrArg (pureA a H) (funext fun a => lift_At.rf_b n a ⟨0, .nil⟩)).trans ?_
  kernel_rfl
noncomputable def nat_Cmp.r (bd : B3) (call : FuncId → List V → Heap → Option R) (n : Nat) (v0 v1 : V) (H : Heap) : Option R :=
 (bd (call 263 [v0, v1] H) fun r1 =>
 (some (r1.1, r1.2)))
theorem nat_Cmp.r_e (n : Nat) (v0 v1 : V) (H : Heap) : nat_Cmp.r @bdI (callA C n) n v0 v1 H = E C n 189 [] (argsA 0 [v0, v1]) H (kR C 189) := by
  unfold nat_Cmp.r
  kernel_rfl
noncomputable def nat_Cmp.rf (bd : B3) (call : FuncId → List V → Heap → Option R) (n : Nat) (a : List V) (H : Heap) : Option R := pureA a H fun a => (match a with | [v0, v1] => nat_Cmp.r bd call n v0 v1 ⟨0, .nil⟩ | a => E C n 189 [] (argsA 0 a) ⟨0, .nil⟩ (kR C 189))
theorem nat_Cmp.rf_b (n : Nat) (a : List V) (H : Heap) : (match a with | [v0, v1] => nat_Cmp.r @bdI (callA C n) n v0 v1 H | a => E C n 189 [] (argsA 0 a) H (kR C 189)) = E C n 189 [] (argsA 0 a) H (kR C 189) := by
  split
  · exact nat_Cmp.r_e n _ _ H
  · rfl
theorem nat_Cmp.rf_e (n : Nat) (a : List V) (H : Heap) : nat_Cmp.rf @bdI (callA C n) n a H = callA C (n + 1) 189 a H := by
  unfold nat_Cmp.rf
  refine (congrArg (pureA a H) (funext fun a => nat_Cmp.rf_b n a ⟨0, .nil⟩)).trans ?_
  kernel_rfl
noncomputable def bucket_New.r (bd : B3) (call : FuncId → List V → Heap → Option R) (n : Nat) (v0 v1 : V) (H : Heap) : Option R :=
 (bd (arA .lss v0 (.int .i64 1)) fun t6_1 =>
 (bd (asB t6_1) fun b2 =>
 if b2 = true then
 (some ((.ptr none), H))
 else
 (bd (arA .gtr v0 (.int .i64 17179869184)) fun t9_3 =>
 (bd (asB t9_3) fun b4 =>
 if b4 = true then
 (some ((.ptr none), H))
 else
 (bd (arA .lss v1 (.int .i64 1)) fun t13_5 =>
 (bd (asB t13_5) fun b6 =>
 if b6 = true then
 (some ((.ptr none), H))
 else
 (bd (arA .gtr v1 (.int .i64 64)) fun t17_7 =>
 (bd (asB t17_7) fun b8 =>
 if b8 = true then
 (some ((.ptr none), H))
 else
 (bd (arA .mul v1 v1) fun t23_9 =>
 (bd (mkSl 1 24 ty_sl_int [(.slice ⟨none, 0, 0, false⟩)] t23_9 t23_9) fun o10 =>
 (bd (flA [(0, 1), (1, 1), (2, 1), (3, 1)] [(.int .i64 0), (.int .i64 0), (.slice ⟨none, 0, 0, false⟩), (.int .i64 0)] [(0, v0), (1, v1), (2, (.slice ⟨some (H.n, 0), o10.2, 1, false⟩))]) fun t25_11 =>
 (bd (boxA ty_bucket_Grid t25_11) fun o12 =>
 (some ((.ptr (some ((H.push o10.1).n, 0))), ((H.push o10.1).push o12)))))))))))))))
theorem bucket_New.r_e (n : Nat) (v0 v1 : V) (H : Heap) : bucket_New.r @bdI (callA C n) n v0 v1 H = E C n 192 [] (argsA 0 [v0, v1]) H (kR C 192) := by
  unfold bucket_New.r
  kernel_rfl
noncomputable def bucket_New.rf (bd : B3) (call : FuncId → List V → Heap → Option R) (n : Nat) (a : List V) (H : Heap) : Option R := (match a with | [v0, v1] => bucket_New.r bd call n v0 v1 H | a => E C n 192 [] (argsA 0 a) H (kR C 192))
theorem bucket_New.rf_b (n : Nat) (a : List V) (H : Heap) : (match a with | [v0, v1] => bucket_New.r @bdI (callA C n) n v0 v1 H | a => E C n 192 [] (argsA 0 a) H (kR C 192)) = E C n 192 [] (argsA 0 a) H (kR C 192) := by
  split
  · exact bucket_New.r_e n _ _ H
  · rfl
theorem bucket_New.rf_e (n : Nat) (a : List V) (H : Heap) : bucket_New.rf @bdI (callA C n) n a H = callA C (n + 1) 192 a H := by
  unfold bucket_New.rf
  refine (bucket_New.rf_b n a H).trans ?_
  kernel_rfl
noncomputable def mesh_Mesh_Side.r (bd : B3) (call : FuncId → List V → Heap → Option R) (n : Nat) (v0 : V) (H : Heap) : Option R :=
 (bd (eqlA P ty_p_mesh_Mesh v0 (.ptr none)) fun t4_1 =>
 (bd (asB t4_1) fun b2 =>
 if b2 = true then
 (some ((.int .i64 0), H))
 else
 (bd (nilC v0) fun t6_3 =>
 (bd (faA 0 t6_3) fun t7_4 =>
 (bd (ld1 t7_4 H) fun t8_5 =>
 (some (t8_5, H)))))))
theorem mesh_Mesh_Side.r_e (n : Nat) (v0 : V) (H : Heap) : mesh_Mesh_Side.r @bdI (callA C n) n v0 H = E C n 193 [] (argsA 0 [v0]) H (kR C 193) := by
  unfold mesh_Mesh_Side.r
  kernel_rfl
noncomputable def mesh_Mesh_Side.rf (bd : B3) (call : FuncId → List V → Heap → Option R) (n : Nat) (a : List V) (H : Heap) : Option R := (match a with | [v0] => mesh_Mesh_Side.r bd call n v0 H | a => E C n 193 [] (argsA 0 a) H (kR C 193))
theorem mesh_Mesh_Side.rf_b (n : Nat) (a : List V) (H : Heap) : (match a with | [v0] => mesh_Mesh_Side.r @bdI (callA C n) n v0 H | a => E C n 193 [] (argsA 0 a) H (kR C 193)) = E C n 193 [] (argsA 0 a) H (kR C 193) := by
  split
  · exact mesh_Mesh_Side.r_e n _ H
  · rfl
theorem mesh_Mesh_Side.rf_e (n : Nat) (a : List V) (H : Heap) : mesh_Mesh_Side.rf @bdI (callA C n) n a H = callA C (n + 1) 193 a H := by
  unfold mesh_Mesh_Side.rf
  refine (mesh_Mesh_Side.rf_b n a H).trans ?_
  kernel_rfl
noncomputable def bucket_Grid_Put.r (bd : B3) (call : FuncId → List V → Heap → Option R) (n : Nat) (v0 v1 v2 : V) (H : Heap) : Option R :=
 (bd (boxA ty_api_Point v2) fun o1 =>
 (bd (ldN 2 (.ptr (some (H.n, 0))) (H.push o1)) fun t12_2 =>
 (bd (call 269 [v0, t12_2] (H.push o1)) fun r3 =>
 (bd (extA r3.1 0) fun t14_4 =>
 (bd (extA r3.1 1) fun t15_5 =>
 (bd (extA r3.1 2) fun t16_6 =>
 (bd (asB t16_6) fun b7 =>
 if b7 = true then
 (bd (call 270 [v0, t14_4, t15_5] r3.2) fun r8 =>
 (bd (nilC v0) fun t28_9 =>
 (bd (faA 2 t28_9) fun t29_10 =>
 (bd (ld1 t29_10 (r8.2.more 1)) fun t30_11 =>
 (bd (idxS 1 t30_11 r8.1) fun t32_12 =>
 (bd (ld1 t32_12 (r8.2.more 1)) fun t33_13 =>
 (bd (bSl 1 ty_int [(.int .i64 0)] 1 [(0, v1)]) fun o14 =>
 (bd (appA 1 8 ty_int t33_13 (.slice ⟨some ((r8.2.n + 0), 0), 1, 1, false⟩) ((r8.2.more 1).set (r8.2.n + 0) o14)) fun p15 =>
 (bd (nilC v0) fun t23_16 =>
 (bd (faA 2 t23_16) fun t24_17 =>
 (bd (ld1 t24_17 p15.2) fun t25_18 =>
 (bd (chk (ld1 t24_17 (r8.2.more 1)) t25_18) fun _ =>
 (bd (idxS 1 t25_18 r8.1) fun t37_19 =>
 (bd (stA 1 t37_19 p15.1 p15.2) fun H20 =>
 (bd (nilC v0) fun t39_21 =>
 (bd (faA 3 t39_21) fun t40_22 =>
 (bd (ld1 t40_22 H20) fun t41_23 =>
 (bd (arA .add t41_23 (.int .i64 1)) fun t42_24 =>
 (bd (nilC v0) fun t43_25 =>
 (bd (faA 3 t43_25) fun t44_26 =>
 (bd (stA 1 t44_26 t42_24 H20) fun H27 =>
 (some (.tuple [], H27)))))))))))))))))))))))
 else
 (some (.tuple [], r3.2)))))))))
theorem bucket_Grid_Put.r_e (n : Nat) (v0 v1 v2 : V) (H : Heap) : bucket_Grid_Put.r @bdI (callA C n) n v0 v1 v2 H = E C n 194 [] (argsA 0 [v0, v1, v2]) H (kR C 194) := by
  unfold bucket_Grid_Put.r
  kernel_rfl
noncomputable def bucket_Grid_Put.rf (bd : B3) (call : FuncId → List V → Heap → Option R) (n : Nat) (a : List V) (H : Heap) : Option R := (match a with | [v0, v1, v2] => bucket_Grid_Put.r bd call n v0 v1 v2 H | a => E C n 194 [] (argsA 0 a) H (kR C 194))
theorem bucket_Grid_Put.rf_b (n : Nat) (a : List V) (H : Heap) : (match a with | [v0, v1, v2] => bucket_Grid_Put.r @bdI (callA C n) n v0 v1 v2 H | a => E C n 194 [] (argsA 0 a) H (kR C 194)) = E C n 194 [] (argsA 0 a) H (kR C 194) := by
  split
  · exact bucket_Grid_Put.r_e n _ _ _ H
  · rfl
theorem bucket_Grid_Put.rf_e (n : Nat) (a : List V) (H : Heap) : bucket_Grid_Put.rf @bdI (callA C n) n a H = callA C (n + 1) 194 a H := by
  unfold bucket_Grid_Put.rf
  refine (bucket_Grid_Put.rf_b n a H).trans ?_
  kernel_rfl
@[irreducible] noncomputable def pdt_sheet_count.l0 (n m0 : Nat) (v0 v6 v7 v8 : V) (H : Heap) : Option R := Lp C n 195 [1, 0, 0] m0 [(0, v0), (6, v6), (7, v7), (8, v8)] H (kB 0 (kR C 195))
noncomputable def pdt_sheet_count.r_l0 (bd : B3) (call : FuncId → List V → Heap → Option R) (n : Nat) (s0 : V → V → V → V → Heap → Option R) (v0 v6 v7 v8 : V) (H : Heap) : Option R :=
 (bd (arA .lss v8 v7) fun t9_1 =>
 (bd (asB t9_1) fun b2 =>
 if b2 = true then
 (bd (idxS 1 v6 v8) fun t10_3 =>
 (bd (ld1 t10_3 H) fun t11_4 =>
 (bd (call 271 [v0, t11_4] H) fun r5 =>
 (bd (asB r5.1) fun b6 =>
 if b6 = true then
 (bd (nilC v0) fun t16_7 =>
 (bd (faA 3 t16_7) fun t17_8 =>
 (bd (ld1 t17_8 r5.2) fun t18_9 =>
 (bd (updM P ty_int t18_9 t11_4 (.bool true) r5.2) fun H10 =>
 (bd (arA .add v8 (.int .i64 1)) fun t20_11 =>
 (s0 v0 v6 v7 t20_11 H10))))))
 else
 (bd (arA .add v8 (.int .i64 1)) fun t20_12 =>
 (s0 v0 v6 v7 t20_12 r5.2))))))
 else
 (some (.tuple [], H))))
theorem pdt_sheet_count.r_l0_e (n m0 : Nat) : pdt_sheet_count.r_l0 @bdI (callA C n) n (pdt_sheet_count.l0 n m0) = pdt_sheet_count.l0 n (m0 + 1) := by
  funext v0 v6 v7 v8 H
  unfold pdt_sheet_count.r_l0
  kernel_rfl
noncomputable def pdt_sheet_count.r_l0_lp (bd : B3) (call : FuncId → List V → Heap → Option R) (n : Nat) (m : Nat) : V → V → V → V → Heap → Option R := Nat.rec (motive := fun _ => V → V → V → V → Heap → Option R) (fun _ _ _ _ _ => none) (fun _ self => pdt_sheet_count.r_l0 bd call n self) m
theorem pdt_sheet_count.r_l0_lp_e (n : Nat) : pdt_sheet_count.r_l0_lp @bdI (callA C n) n = pdt_sheet_count.l0 n := by
  funext m
  induction m with
  | zero => funext v0 v6 v7 v8 H; kernel_rfl
  | succ k ih => exact (congrArg (pdt_sheet_count.r_l0 @bdI (callA C n) n) ih).trans (pdt_sheet_count.r_l0_e n k)
noncomputable def pdt_sheet_count.r (bd : B3) (call : FuncId → List V → Heap → Option R) (n : Nat) (v0 v1 : V) (H : Heap) : Option R :=
 (bd (lenSl v1) fun t7_1 =>
 (pdt_sheet_count.r_l0_lp bd call n n v0 v1 t7_1 (.int .i64 0) H))
theorem pdt_sheet_count.r_e (n : Nat) (v0 v1 : V) (H : Heap) : pdt_sheet_count.r @bdI (callA C n) n v0 v1 H = E C n 195 [] (argsA 0 [v0, v1]) H (kR C 195) := by
  unfold pdt_sheet_count.r
  rewrite [pdt_sheet_count.r_l0_lp_e]
  kernel_rfl
noncomputable def pdt_sheet_count.rf (bd : B3) (call : FuncId → List V → Heap → Option R) (n : Nat) (a : List V) (H : Heap) : Option R := inA true a H fun a H => (match a with | [v0, v1] => pdt_sheet_count.r bd call n v0 v1 H | a => E C n 195 [] (argsA 0 a) H (kR C 195))
theorem pdt_sheet_count.rf_b (n : Nat) (a : List V) (H : Heap) : (match a with | [v0, v1] => pdt_sheet_count.r @bdI (callA C n) n v0 v1 H | a => E C n 195 [] (argsA 0 a) H (kR C 195)) = E C n 195 [] (argsA 0 a) H (kR C 195) := by
  split
  · exact pdt_sheet_count.r_e n _ _ H
  · rfl
theorem pdt_sheet_count.rf_e (n : Nat) (a : List V) (H : Heap) : pdt_sheet_count.rf @bdI (callA C n) n a H = callA C (n + 1) 195 a H := by
  unfold pdt_sheet_count.rf
  refine (congrArg (inA true a H) (funext fun a => funext fun H => pdt_sheet_count.rf_b n a H)).trans ?_
  kernel_rfl
noncomputable def arena_New.r (bd : B3) (call : FuncId → List V → Heap → Option R) (n : Nat) (H : Heap) : Option R :=
 (bd (flA [(0, 1), (1, 1), (2, 1)] [(.slice ⟨none, 0, 0, false⟩), (.int .i64 0), (.int .i64 0)] [(1, (.int .i64 (-1)))]) fun t1_1 =>
 (bd (boxA ty_arena_Arena t1_1) fun o2 =>
 (some ((.ptr (some (H.n, 0))), (H.push o2)))))
theorem arena_New.r_e (n : Nat) (H : Heap) : arena_New.r @bdI (callA C n) n H = E C n 196 [] (argsA 0 []) H (kR C 196) := by
  unfold arena_New.r
  kernel_rfl
noncomputable def arena_New.rf (bd : B3) (call : FuncId → List V → Heap → Option R) (n : Nat) (a : List V) (H : Heap) : Option R := (match a with | [] => arena_New.r bd call n H | a => E C n 196 [] (argsA 0 a) H (kR C 196))
theorem arena_New.rf_b (n : Nat) (a : List V) (H : Heap) : (match a with | [] => arena_New.r @bdI (callA C n) n H | a => E C n 196 [] (argsA 0 a) H (kR C 196)) = E C n 196 [] (argsA 0 a) H (kR C 196) := by
  split
  · exact arena_New.r_e n H
  · rfl
theorem arena_New.rf_e (n : Nat) (a : List V) (H : Heap) : arena_New.rf @bdI (callA C n) n a H = callA C (n + 1) 196 a H := by
  unfold arena_New.rf
  refine (arena_New.rf_b n a H).trans ?_
  kernel_rfl
noncomputable def pdt_Engine_first.r (bd : B3) (call : FuncId → List V → Heap → Option R) (n : Nat) (v0 v1 v2 : V) (H : Heap) : Option R :=
 (bd (boxA ty_api_Point v2) fun o1 =>
 (bd (nilC v0) fun t8_2 =>
 (bd (faA 0 t8_2) fun t9_3 =>
 (bd (ld1 t9_3 (H.push o1)) fun t10_4 =>
 (bd (call 134 [t10_4] (H.push o1)) fun r5 =>
 (bd (ldN 2 (.ptr (some (H.n, 0))) r5.2) fun t13_6 =>
 (bd (call 272 [r5.1, t13_6, v1] r5.2) fun r7 =>
 (bd (flA [(0, 1), (1, 1)] [(.int .i64 0), (.int .i64 0)] []) fun t17_8 =>
 (bd (flA [(0, 1), (1, 1)] [(.int .i64 0), (.int .i64 0)] [(0, (.int .i64 1))]) fun t18_9 =>
 (bd (flA [(0, 1), (1, 1)] [(.int .i64 0), (.int .i64 0)] [(1, (.int .i64 1))]) fun t19_10 =>
 (bd (flE 2 [(.int .i64 0), (.int .i64 0), (.int .i64 0), (.int .i64 0), (.int .i64 0), (.int .i64 0)] [(0, t17_8), (1, t18_9), (2, t19_10)]) fun t20_11 =>
 (bd (flA [(0, 3), (3, 6)] [(.int .i64 0), (.int .i64 0), (.int .i64 0), (.int .i64 0), (.int .i64 0), (.int .i64 0), (.int .i64 0), (.int .i64 0), (.int .i64 0)] [(1, t20_11)]) fun t21_12 =>
 (bd (call 273 [r5.1, t21_12] r7.2) fun r13 =>
 (bd (flA [(0, 1), (1, 1)] [(.int .i64 0), (.int .i64 0)] [(0, (.int .i64 1))]) fun t24_14 =>
 (bd (flA [(0, 1), (1, 1)] [(.int .i64 0), (.int .i64 0)] [(0, (.int .i64 1)), (1, (.int .i64 1))]) fun t25_15 =>
 (bd (flA [(0, 1), (1, 1)] [(.int .i64 0), (.int .i64 0)] [(1, (.int .i64 1))]) fun t26_16 =>
 (bd (flE 2 [(.int .i64 0), (.int .i64 0), (.int .i64 0), (.int .i64 0), (.int .i64 0), (.int .i64 0)] [(0, t24_14), (1, t25_15), (2, t26_16)]) fun t27_17 =>
 (bd (flA [(0, 3), (3, 6)] [(.int .i64 0), (.int .i64 0), (.int .i64 0), (.int .i64 0), (.int .i64 0), (.int .i64 0), (.int .i64 0), (.int .i64 0), (.int .i64 0)] [(1, t27_17)]) fun t28_18 =>
 (bd (call 273 [r5.1, t28_18] r13.2) fun r19 =>
 (bd (call 201 [r5.1] (r19.2.more 0)) fun r20 =>
 (bd (nilC v0) fun t35_21 =>
 (bd (faA 0 t35_21) fun t36_22 =>
 (bd (ld1 t36_22 r20.2) fun t37_23 =>
 (bd (chk (ld1 t36_22 (r19.2.more 0)) t37_23) fun _ =>
 (bd (call 133 [r20.1, t37_23] r20.2) fun r24 =>
 (bd (nilC v0) fun t39_25 =>
 (bd (faA 6 t39_25) fun t40_26 =>
 (bd (stA 1 t40_26 r24.1 r24.2) fun H27 =>
 (bd (nilC v0) fun t41_28 =>
 (bd (faA 5 t41_28) fun t42_29 =>
 (bd (stA 1 t42_29 (.int .i64 3) H27) fun H30 =>
 (some (.tuple [], H30)))))))))))))))))))))))))))))))))
theorem pdt_Engine_first.r_e (n : Nat) (v0 v1 v2 : V) (H : Heap) : pdt_Engine_first.r @bdI (callA C n) n v0 v1 v2 H = E C n 197 [] (argsA 0 [v0, v1, v2]) H (kR C 197) := by
  unfold pdt_Engine_first.r
  kernel_rfl
noncomputable def pdt_Engine_first.rf (bd : B3) (call : FuncId → List V → Heap → Option R) (n : Nat) (a : List V) (H : Heap) : Option R := (match a with | [v0, v1, v2] => pdt_Engine_first.r bd call n v0 v1 v2 H | a => E C n 197 [] (argsA 0 a) H (kR C 197))
theorem pdt_Engine_first.rf_b (n : Nat) (a : List V) (H : Heap) : (match a with | [v0, v1, v2] => pdt_Engine_first.r @bdI (callA C n) n v0 v1 v2 H | a => E C n 197 [] (argsA 0 a) H (kR C 197)) = E C n 197 [] (argsA 0 a) H (kR C 197) := by
  split
  · exact pdt_Engine_first.r_e n _ _ _ H
  · rfl
theorem pdt_Engine_first.rf_e (n : Nat) (a : List V) (H : Heap) : pdt_Engine_first.rf @bdI (callA C n) n a H = callA C (n + 1) 197 a H := by
  unfold pdt_Engine_first.rf
  refine (pdt_Engine_first.rf_b n a H).trans ?_
  kernel_rfl
noncomputable def pdt_Engine_fewer.r (bd : B3) (call : FuncId → List V → Heap → Option R) (n : Nat) (v0 : V) (H : Heap) : Option R :=
 (bd (nilC v0) fun t5_1 =>
 (bd (faA 5 t5_1) fun t6_2 =>
 (bd (ld1 t6_2 H) fun t7_3 =>
 (bd (arA .neq t7_3 (.int .i64 3)) fun t8_4 =>
 (bd (asB t8_4) fun b5 =>
 if b5 = true then
 (some (.tuple [], H))
 else
 (bd (nilC v0) fun t11_6 =>
 (bd (faA 6 t11_6) fun t12_7 =>
 (bd (ld1 t12_7 H) fun t13_8 =>
 (bd (nilC t13_8) fun t14_9 =>
 (bd (faA 3 t14_9) fun t15_10 =>
 (bd (ld1 t15_10 H) fun t16_11 =>
 (bd (lenMap t16_11 H) fun t17_12 =>
 (bd (arA .gtr t17_12 (.int .i64 0)) fun t18_13 =>
 (bd (asB t18_13) fun b14 =>
 if b14 = true then
 (some (.tuple [], H))
 else
 (bd (nilC v0) fun t22_15 =>
 (bd (faA 6 t22_15) fun t23_16 =>
 (bd (ld1 t23_16 H) fun t24_17 =>
 (bd (nilC t24_17) fun t25_18 =>
 (bd (faA 0 t25_18) fun t26_19 =>
 (bd (ld1 t26_19 H) fun t27_20 =>
 (bd (call 279 [t27_20] H) fun r21 =>
 (bd (extA r21.1 0) fun t29_22 =>
 (bd (extA r21.1 1) fun t30_23 =>
 (bd (asB t30_23) fun b24 =>
 if b24 = true then
 (bd (nilC v0) fun t36_25 =>
 (bd (faA 0 t36_25) fun t37_26 =>
 (bd (ld1 t37_26 r21.2) fun t38_27 =>
 (bd (call 133 [t29_22, t38_27] r21.2) fun r28 =>
 (bd (nilC v0) fun t40_29 =>
 (bd (faA 6 t40_29) fun t41_30 =>
 (bd (stA 1 t41_30 r28.1 r28.2) fun H31 =>
 (bd (nilC v0) fun t42_32 =>
 (bd (faA 5 t42_32) fun t43_33 =>
 (bd (stA 1 t43_33 (.int .i64 1) H31) fun H34 =>
 (some (.tuple [], H34))))))))))))
 else
 (some (.tuple [], r21.2))))))))))))))))))))))))))
theorem pdt_Engine_fewer.r_e (n : Nat) (v0 : V) (H : Heap) : pdt_Engine_fewer.r @bdI (callA C n) n v0 H = E C n 199 [] (argsA 0 [v0]) H (kR C 199) := by
  unfold pdt_Engine_fewer.r
  kernel_rfl
noncomputable def pdt_Engine_fewer.rf (bd : B3) (call : FuncId → List V → Heap → Option R) (n : Nat) (a : List V) (H : Heap) : Option R := (match a with | [v0] => pdt_Engine_fewer.r bd call n v0 H | a => E C n 199 [] (argsA 0 a) H (kR C 199))
theorem pdt_Engine_fewer.rf_b (n : Nat) (a : List V) (H : Heap) : (match a with | [v0] => pdt_Engine_fewer.r @bdI (callA C n) n v0 H | a => E C n 199 [] (argsA 0 a) H (kR C 199)) = E C n 199 [] (argsA 0 a) H (kR C 199) := by
  split
  · exact pdt_Engine_fewer.r_e n _ H
  · rfl
theorem pdt_Engine_fewer.rf_e (n : Nat) (a : List V) (H : Heap) : pdt_Engine_fewer.rf @bdI (callA C n) n a H = callA C (n + 1) 199 a H := by
  unfold pdt_Engine_fewer.rf
  refine (pdt_Engine_fewer.rf_b n a H).trans ?_
  kernel_rfl
noncomputable def arena_Arena_live.r (bd : B3) (call : FuncId → List V → Heap → Option R) (n : Nat) (v0 v1 : V) (H : Heap) : Option R :=
 (bd (eqlA P ty_p_arena_Arena v0 (.ptr none)) fun t8_1 =>
 (bd (asB t8_1) fun b2 =>
 if b2 = true then
 (some ((.bool false), H))
 else
 (bd (arA .lss v1 (.int .i64 0)) fun t11_3 =>
 (bd (asB t11_3) fun b4 =>
 if b4 = true then
 (some ((.bool false), H))
 else
 (bd (nilC v0) fun t16_5 =>
 (bd (faA 0 t16_5) fun t17_6 =>
 (bd (ld1 t17_6 H) fun t18_7 =>
 (bd (lenSl t18_7) fun t19_8 =>
 (bd (arA .geq v1 t19_8) fun t20_9 =>
 (bd (asB t20_9) fun b10 =>
 if b10 = true then
 (some ((.bool false), H))
 else
 (bd (nilC v0) fun t24_11 =>
 (bd (faA 0 t24_11) fun t25_12 =>
 (bd (ld1 t25_12 H) fun t26_13 =>
 (bd (idxS 1 t26_13 v1) fun t28_14 =>
 (bd (ld1 t28_14 H) fun t29_15 =>
 (bd (asOk ty_int (.int .i64 0) t29_15) fun t30_16 =>
 (bd (extA t30_16 0) fun t31_17 =>
 (bd (extA t30_16 1) fun t32_18 =>
 (bd (asB t32_18) fun b19 =>
 if b19 = true then
 (bd (arA .eql t31_17 (.int .i64 (-2))) fun t36_20 =>
 (some (t36_20, H)))
 else
 (some ((.bool false), H)))))))))))))))))))))
theorem arena_Arena_live.r_e (n : Nat) (v0 v1 : V) (H : Heap) : arena_Arena_live.r @bdI (callA C n) n v0 v1 H = E C n 237 [] (argsA 0 [v0, v1]) H (kR C 237) := by
  unfold arena_Arena_live.r
  kernel_rfl
noncomputable def arena_Arena_live.rf (bd : B3) (call : FuncId → List V → Heap → Option R) (n : Nat) (a : List V) (H : Heap) : Option R := (match a with | [v0, v1] => arena_Arena_live.r bd call n v0 v1 H | a => E C n 237 [] (argsA 0 a) H (kR C 237))
theorem arena_Arena_live.rf_b (n : Nat) (a : List V) (H : Heap) : (match a with | [v0, v1] => arena_Arena_live.r @bdI (callA C n) n v0 v1 H | a => E C n 237 [] (argsA 0 a) H (kR C 237)) = E C n 237 [] (argsA 0 a) H (kR C 237) := by
  split
  · exact arena_Arena_live.r_e n _ _ H
  · rfl
theorem arena_Arena_live.rf_e (n : Nat) (a : List V) (H : Heap) : arena_Arena_live.rf @bdI (callA C n) n a H = callA C (n + 1) 237 a H := by
  unfold arena_Arena_live.rf
  refine (arena_Arena_live.rf_b n a H).trans ?_
  kernel_rfl
noncomputable def lift_within.r (bd : B3) (call : FuncId → List V → Heap → Option R) (n : Nat) (v0 : V) (H : Heap) : Option R :=
 (bd (arA .geq v0 (.int .i64 (-1099511627776))) fun t4_1 =>
 (bd (asB t4_1) fun b2 =>
 if b2 = true then
 (bd (arA .leq v0 (.int .i64 1099511627776)) fun t7_3 =>
 (some (t7_3, H)))
 else
 (some ((.bool false), H))))
theorem lift_within.r_e (n : Nat) (v0 : V) (H : Heap) : lift_within.r @bdI (callA C n) n v0 H = E C n 238 [] (argsA 0 [v0]) H (kR C 238) := by
  unfold lift_within.r
  kernel_rfl
noncomputable def lift_within.rf (bd : B3) (call : FuncId → List V → Heap → Option R) (n : Nat) (a : List V) (H : Heap) : Option R := pureA a H fun a => (match a with | [v0] => lift_within.r bd call n v0 ⟨0, .nil⟩ | a => E C n 238 [] (argsA 0 a) ⟨0, .nil⟩ (kR C 238))
theorem lift_within.rf_b (n : Nat) (a : List V) (H : Heap) : (match a with | [v0] => lift_within.r @bdI (callA C n) n v0 H | a => E C n 238 [] (argsA 0 a) H (kR C 238)) = E C n 238 [] (argsA 0 a) H (kR C 238) := by
  split
  · exact lift_within.r_e n _ H
  · rfl
theorem lift_within.rf_e (n : Nat) (a : List V) (H : Heap) : lift_within.rf @bdI (callA C n) n a H = callA C (n + 1) 238 a H := by
  unfold lift_within.rf
  refine (congrArg (pureA a H) (funext fun a => lift_within.rf_b n a ⟨0, .nil⟩)).trans ?_
  kernel_rfl
noncomputable def lift_move.r (bd : B3) (call : FuncId → List V → Heap → Option R) (n : Nat) (v0 v1 v2 : V) (H : Heap) : Option R :=
 (bd (arA .lss v1 (.int .i64 (-2199023255552))) fun t10_1 =>
 (bd (asB t10_1) fun b2 =>
 if b2 = true then
 (some (.tuple [(.int .i64 0), (.bool false)], H))
 else
 (bd (arA .gtr v1 (.int .i64 2199023255552)) fun t13_3 =>
 (bd (asB t13_3) fun b4 =>
 if b4 = true then
 (some (.tuple [(.int .i64 0), (.bool false)], H))
 else
 (bd (arA .quo (.int .i64 2199023255552) v2) fun t16_5 =>
 (bd (unA .neg t16_5) fun t19_6 =>
 (bd (arA .lss v1 t19_6) fun t20_7 =>
 (bd (asB t20_7) fun b8 =>
 if b8 = true then
 (some (.tuple [(.int .i64 0), (.bool false)], H))
 else
 (bd (arA .gtr v1 t16_5) fun t24_9 =>
 (bd (asB t24_9) fun b10 =>
 if b10 = true then
 (some (.tuple [(.int .i64 0), (.bool false)], H))
 else
 (bd (arA .mul v1 v2) fun t29_11 =>
 (bd (arA .add v0 t29_11) fun t30_12 =>
 (bd (call 238 [t30_12] H) fun r13 =>
 (some (.tuple [t30_12, r13.1], r13.2)))))))))))))))
theorem lift_move.r_e (n : Nat) (v0 v1 v2 : V) (H : Heap) : lift_move.r @bdI (callA C n) n v0 v1 v2 H = E C n 239 [] (argsA 0 [v0, v1, v2]) H (kR C 239) := by
  unfold lift_move.r
  kernel_rfl
noncomputable def lift_move.rf (bd : B3) (call : FuncId → List V → Heap → Option R) (n : Nat) (a : List V) (H : Heap) : Option R := pureA a H fun a => (match a with | [v0, v1, v2] => lift_move.r bd call n v0 v1 v2 ⟨0, .nil⟩ | a => E C n 239 [] (argsA 0 a) ⟨0, .nil⟩ (kR C 239))
theorem lift_move.rf_b (n : Nat) (a : List V) (H : Heap) : (match a with | [v0, v1, v2] => lift_move.r @bdI (callA C n) n v0 v1 v2 H | a => E C n 239 [] (argsA 0 a) H (kR C 239)) = E C n 239 [] (argsA 0 a) H (kR C 239) := by
  split
  · exact lift_move.r_e n _ _ _ H
  · rfl
theorem lift_move.rf_e (n : Nat) (a : List V) (H : Heap) : lift_move.rf @bdI (callA C n) n a H = callA C (n + 1) 239 a H := by
  unfold lift_move.rf
  refine (congrArg (pureA a H) (funext fun a => lift_move.rf_b n a ⟨0, .nil⟩)).trans ?_
  kernel_rfl
noncomputable def lift_Can.r (bd : B3) (call : FuncId → List V → Heap → Option R) (n : Nat) (v0 : V) (H : Heap) : Option R :=
 (bd (boxA ty_api_Point v0) fun o1 =>
 (bd (ldN 2 (.ptr (some (H.n, 0))) (H.push o1)) fun t3_2 =>
 (bd (call 166 [t3_2] (H.push o1)) fun r3 =>
 (some (r3.1, r3.2)))))
theorem lift_Can.r_e (n : Nat) (v0 : V) (H : Heap) : lift_Can.r @bdI (callA C n) n v0 H = E C n 240 [] (argsA 0 [v0]) H (kR C 240) := by
  unfold lift_Can.r
  kernel_rfl
noncomputable def lift_Can.rf (bd : B3) (call : FuncId → List V → Heap → Option R) (n : Nat) (a : List V) (H : Heap) : Option R := pureA a H fun a => (match a with | [v0] => lift_Can.r bd call n v0 ⟨0, .nil⟩ | a => E C n 240 [] (argsA 0 a) ⟨0, .nil⟩ (kR C 240))
theorem lift_Can.rf_b (n : Nat) (a : List V) (H : Heap) : (match a with | [v0] => lift_Can.r @bdI (callA C n) n v0 H | a => E C n 240 [] (argsA 0 a) H (kR C 240)) = E C n 240 [] (argsA 0 a) H (kR C 240) := by
  split
  · exact lift_Can.r_e n _ H
  · rfl
theorem lift_Can.rf_e (n : Nat) (a : List V) (H : Heap) : lift_Can.rf @bdI (callA C n) n a H = callA C (n + 1) 240 a H := by
  unfold lift_Can.rf
  refine (congrArg (pureA a H) (funext fun a => lift_Can.rf_b n a ⟨0, .nil⟩)).trans ?_
  kernel_rfl
end Go.AM.L
end
section
set_option linter.unusedVariables false
set_option linter.unusedSimpArgs false
set_option maxRecDepth 1000000
set_option linter.unusedVariables false
namespace Go.AM.L
noncomputable def wide_Add.r (bd : B3) (call : FuncId → List V → Heap → Option R) (n : Nat) (v0 v1 : V) (H : Heap) : Option R :=
 (bd (boxA ty_api_Wide v0) fun o1 =>
 (bd (boxA ty_api_Wide v1) fun o2 =>
 (bd (ldN 2 (.ptr (some (H.n, 0))) (((H.push o1).push o2).push (.cells [(.int .i64 0), (.int .u64 0)] ty_api_Wide false))) fun t5_3 =>
 (bd (ldN 2 (.ptr (some ((H.push o1).n, 0))) (((H.push o1).push o2).push (.cells [(.int .i64 0), (.int .u64 0)] ty_api_Wide false))) fun t6_4 =>
 (bd (call 307 [t5_3, t6_4] (((H.push o1).push o2).push (.cells [(.int .i64 0), (.int .u64 0)] ty_api_Wide false))) fun r5 =>
 (bd (stA 2 (.ptr (some (((H.push o1).push o2).n, 0))) r5.1 r5.2) fun H6 =>
 (bd (ldN 2 (.ptr (some (((H.push o1).push o2).n, 0))) H6) fun t7 =>
 (some (t7, H6)))))))))
theorem wide_Add.r_e (n : Nat) (v0 v1 : V) (H : Heap) : wide_Add.r @bdI (callA C n) n v0 v1 H = E C n 241 [] (argsA 0 [v0, v1]) H (kR C 241) := by
  unfold wide_Add.r
  kernel_rfl
noncomputable def wide_Add.rf (bd : B3) (call : FuncId → List V → Heap → Option R) (n : Nat) (a : List V) (H : Heap) : Option R := pureA a H fun a => (match a with | [v0, v1] => wide_Add.r bd call n v0 v1 ⟨0, .nil⟩ | a => E C n 241 [] (argsA 0 a) ⟨0, .nil⟩ (kR C 241))
theorem wide_Add.rf_b (n : Nat) (a : List V) (H : Heap) : (match a with | [v0, v1] => wide_Add.r @bdI (callA C n) n v0 v1 H | a => E C n 241 [] (argsA 0 a) H (kR C 241)) = E C n 241 [] (argsA 0 a) H (kR C 241) := by
  split
  · exact wide_Add.r_e n _ _ H
  · rfl
theorem wide_Add.rf_e (n : Nat) (a : List V) (H : Heap) : wide_Add.rf @bdI (callA C n) n a H = callA C (n + 1) 241 a H := by
  unfold wide_Add.rf
  refine (congrArg (pureA a H) (funext fun a => wide_Add.rf_b n a ⟨0, .nil⟩)).trans ?_
  kernel_rfl
@[irreducible] noncomputable def wide_Mul.p0 (n : Nat) (v0 v1 v4 v5 v6 : V) (H : Heap) : Option R := E C n 242 [1, 1, 1] [(0, v0), (1, v1), (4, v4), (5, v5), (6, v6)] H (kR C 242)
noncomputable def wide_Mul.r_p0 (bd : B3) (call : FuncId → List V → Heap → Option R) (n : Nat) (v0 v1 v4 v5 v6 : V) (H : Heap) : Option R :=
 (bd (arA .lss v1 (.int .i64 0)) fun t22_1 =>
 (bd (asB t22_1) fun b2 =>
 if b2 = true then
 (bd (cvInt .u64 v0) fun t25_3 =>
 (bd (arA .sub v5 t25_3) fun t26_4 =>
 (bd (cvInt .i64 t26_4) fun t28_5 =>
 (bd (flA [(0, 1), (1, 1)] [(.int .i64 0), (.int .u64 0)] [(0, t28_5), (1, v6)]) fun t30_6 =>
 (bd (stA 2 v4 t30_6 H) fun H7 =>
 (bd (ldN 2 v4 H7) fun t8 =>
 (some (t8, H7))))))))
 else
 (bd (cvInt .i64 v5) fun t28_9 =>
 (bd (flA [(0, 1), (1, 1)] [(.int .i64 0), (.int .u64 0)] [(0, t28_9), (1, v6)]) fun t30_10 =>
 (bd (stA 2 v4 t30_10 H) fun H11 =>
 (bd (ldN 2 v4 H11) fun t12 =>
 (some (t12, H11))))))))
theorem wide_Mul.r_p0_e (n : Nat) : wide_Mul.r_p0 @bdI (callA C n) n = wide_Mul.p0 n := by
  funext v0 v1 v4 v5 v6 H
  unfold wide_Mul.r_p0
  kernel_rfl
noncomputable def wide_Mul.r (bd : B3) (call : FuncId → List V → Heap → Option R) (n : Nat) (v0 v1 : V) (H : Heap) : Option R :=
 (bd (cvInt .u64 v0) fun t9_1 =>
 (bd (cvInt .u64 v1) fun t11_2 =>
 (bd (call 308 [t9_1, t11_2] (H.push (.cells [(.int .i64 0), (.int .u64 0)] ty_api_Wide false))) fun r3 =>
 (bd (extA r3.1 0) fun t13_4 =>
 (bd (extA r3.1 1) fun t14_5 =>
 (bd (arA .lss v0 (.int .i64 0)) fun t16_6 =>
 (bd (asB t16_6) fun b7 =>
 if b7 = true then
 (bd (cvInt .u64 v1) fun t19_8 =>
 (bd (arA .sub t13_4 t19_8) fun t20_9 =>
 (wide_Mul.r_p0 bd call n v0 v1 (.ptr (some (H.n, 0))) t20_9 t14_5 r3.2)))
 else
 (wide_Mul.r_p0 bd call n v0 v1 (.ptr (some (H.n, 0))) t13_4 t14_5 r3.2))))))))
theorem wide_Mul.r_e (n : Nat) (v0 v1 : V) (H : Heap) : wide_Mul.r @bdI (callA C n) n v0 v1 H = E C n 242 [] (argsA 0 [v0, v1]) H (kR C 242) := by
  unfold wide_Mul.r
  rewrite [wide_Mul.r_p0_e]
  kernel_rfl
noncomputable def wide_Mul.rf (bd : B3) (call : FuncId → List V → Heap → Option R) (n : Nat) (a : List V) (H : Heap) : Option R := pureA a H fun a => (match a with | [v0, v1] => wide_Mul.r bd call n v0 v1 ⟨0, .nil⟩ | a => E C n 242 [] (argsA 0 a) ⟨0, .nil⟩ (kR C 242))
theorem wide_Mul.rf_b (n : Nat) (a : List V) (H : Heap) : (match a with | [v0, v1] => wide_Mul.r @bdI (callA C n) n v0 v1 H | a => E C n 242 [] (argsA 0 a) H (kR C 242)) = E C n 242 [] (argsA 0 a) H (kR C 242) := by
  split
  · exact wide_Mul.r_e n _ _ H
  · rfl
theorem wide_Mul.rf_e (n : Nat) (a : List V) (H : Heap) : wide_Mul.rf @bdI (callA C n) n a H = callA C (n + 1) 242 a H := by
  unfold wide_Mul.rf
  refine (congrArg (pureA a H) (funext fun a => wide_Mul.rf_b n a ⟨0, .nil⟩)).trans ?_
  kernel_rfl
noncomputable def circum_circle.r (bd : B3) (call : FuncId → List V → Heap → Option R) (n : Nat) (v0 v1 v2 : V) (H : Heap) : Option R :=
 (bd (boxA ty_api_Point v0) fun o1 =>
 (bd (boxA ty_api_Point v1) fun o2 =>
 (bd (boxA ty_api_Point v2) fun o3 =>
 (bd (ldN 2 (.ptr (some (H.n, 0))) (((H.push o1).push o2).push o3)) fun t7_4 =>
 (bd (ldN 2 (.ptr (some ((H.push o1).n, 0))) (((H.push o1).push o2).push o3)) fun t8_5 =>
 (bd (ldN 2 (.ptr (some (((H.push o1).push o2).n, 0))) (((H.push o1).push o2).push o3)) fun t9_6 =>
 (bd (call 296 [t7_4, t8_5, t9_6] (((H.push o1).push o2).push o3)) fun r7 =>
 (bd (arA .neq r7.1 (.int .i64 0)) fun t11_8 =>
 (some (t11_8, r7.2))))))))))
theorem circum_circle.r_e (n : Nat) (v0 v1 v2 : V) (H : Heap) : circum_circle.r @bdI (callA C n) n v0 v1 v2 H = E C n 250 [] (argsA 0 [v0, v1, v2]) H (kR C 250) := by
  unfold circum_circle.r
  kernel_rfl
noncomputable def circum_circle.rf (bd : B3) (call : FuncId → List V → Heap → Option R) (n : Nat) (a : List V) (H : Heap) : Option R := pureA a H fun a => (match a with | [v0, v1, v2] => circum_circle.r bd call n v0 v1 v2 ⟨0, .nil⟩ | a => E C n 250 [] (argsA 0 a) ⟨0, .nil⟩ (kR C 250))
theorem circum_circle.rf_b (n : Nat) (a : List V) (H : Heap) : (match a with | [v0, v1, v2] => circum_circle.r @bdI (callA C n) n v0 v1 v2 H | a => E C n 250 [] (argsA 0 a) H (kR C 250)) = E C n 250 [] (argsA 0 a) H (kR C 250) := by
  split
  · exact circum_circle.r_e n _ _ _ H
  · rfl
theorem circum_circle.rf_e (n : Nat) (a : List V) (H : Heap) : circum_circle.rf @bdI (callA C n) n a H = callA C (n + 1) 250 a H := by
  unfold circum_circle.rf
  refine (congrArg (pureA a H) (funext fun a => circum_circle.rf_b n a ⟨0, .nil⟩)).trans ?_
  kernel_rfl
noncomputable def circum_long.r (bd : B3) (call : FuncId → List V → Heap → Option R) (n : Nat) (v0 : V) (H : Heap) : Option R :=
 (bd (boxA ty_api_Wide v0) fun o1 =>
 (bd (ldN 2 (.ptr (some (H.n, 0))) ((H.push o1).push (.cells [(.bool false), (.slice ⟨none, 0, 0, false⟩)] ty_api_Int false))) fun t3_2 =>
 (bd (call 312 [t3_2] ((H.push o1).push (.cells [(.bool false), (.slice ⟨none, 0, 0, false⟩)] ty_api_Int false))) fun r3 =>
 (bd (call 311 [r3.1] r3.2) fun r4 =>
 (bd (stA 2 (.ptr (some ((H.push o1).n, 0))) r4.1 r4.2) fun H5 =>
 (bd (ldN 2 (.ptr (some ((H.push o1).n, 0))) H5) fun t6 =>
 (frzR t6 H5)))))))
theorem circum_long.r_e (n : Nat) (v0 : V) (H : Heap) : circum_long.r @bdI (callA C n) n v0 H = E C n 252 [] (argsA 0 [v0]) H (kR C 252) := by
  unfold circum_long.r
  kernel_rfl
noncomputable def circum_long.rf (bd : B3) (call : FuncId → List V → Heap → Option R) (n : Nat) (a : List V) (H : Heap) : Option R := pureA a H fun a => (match a with | [v0] => circum_long.r bd call n v0 ⟨0, .nil⟩ | a => E C n 252 [] (argsA 0 a) ⟨0, .nil⟩ (kR C 252))
theorem circum_long.rf_b (n : Nat) (a : List V) (H : Heap) : (match a with | [v0] => circum_long.r @bdI (callA C n) n v0 H | a => E C n 252 [] (argsA 0 a) H (kR C 252)) = E C n 252 [] (argsA 0 a) H (kR C 252) := by
  split
  · exact circum_long.r_e n _ H
  · rfl
theorem circum_long.rf_e (n : Nat) (a : List V) (H : Heap) : circum_long.rf @bdI (callA C n) n a H = callA C (n + 1) 252 a H := by
  unfold circum_long.rf
  refine (congrArg (pureA a H) (funext fun a => circum_long.rf_b n a ⟨0, .nil⟩)).trans ?_
  kernel_rfl
noncomputable def pred_Area2.r (bd : B3) (call : FuncId → List V → Heap → Option R) (n : Nat) (v0 v1 v2 : V) (H : Heap) : Option R :=
 (bd (boxA ty_api_Point v0) fun o1 =>
 (bd (boxA ty_api_Point v1) fun o2 =>
 (bd (boxA ty_api_Point v2) fun o3 =>
 (bd (ldN 2 (.ptr (some (H.n, 0))) ((((H.push o1).push o2).push o3).push (.cells [(.int .i64 0), (.int .u64 0)] ty_api_Wide false))) fun t7_4 =>
 (bd (ldN 2 (.ptr (some ((H.push o1).n, 0))) ((((H.push o1).push o2).push o3).push (.cells [(.int .i64 0), (.int .u64 0)] ty_api_Wide false))) fun t8_5 =>
 (bd (ldN 2 (.ptr (some (((H.push o1).push o2).n, 0))) ((((H.push o1).push o2).push o3).push (.cells [(.int .i64 0), (.int .u64 0)] ty_api_Wide false))) fun t9_6 =>
 (bd (bSl 2 ty_api_Point [(.int .i64 0), (.int .i64 0)] 3 [(0, t7_4), (1, t8_5), (2, t9_6)]) fun o7 =>
 (bd (call 169 [(.slice ⟨some (((((H.push o1).push o2).push o3).push (.cells [(.int .i64 0), (.int .u64 0)] ty_api_Wide false)).n, 0), 3, 2, false⟩)] (((((H.push o1).push o2).push o3).push (.cells [(.int .i64 0), (.int .u64 0)] ty_api_Wide false)).push o7)) fun r8 =>
 (bd (unA .not r8.1) fun t12_9 =>
 (bd (asB t12_9) fun b10 =>
 if b10 = true then
 (bd (flA [(0, 1), (1, 1)] [(.int .i64 0), (.int .u64 0)] []) fun t13_11 =>
 (bd (stA 2 (.ptr (some ((((H.push o1).push o2).push o3).n, 0))) t13_11 r8.2) fun H12 =>
 (bd (ldN 2 (.ptr (some ((((H.push o1).push o2).push o3).n, 0))) H12) fun t13 =>
 (some (t13, H12)))))
 else
 (bd (ldN 2 (.ptr (some (H.n, 0))) (r8.2.more 0)) fun t14_14 =>
 (bd (ldN 2 (.ptr (some ((H.push o1).n, 0))) (r8.2.more 0)) fun t15_15 =>
 (bd (call 171 [t14_14, t15_15] (r8.2.more 0)) fun r16 =>
 (bd (ldN 2 (.ptr (some (H.n, 0))) r16.2) fun t17_17 =>
 (bd (chk (ldN 2 (.ptr (some (H.n, 0))) (r8.2.more 0)) t17_17) fun _ =>
 (bd (ldN 2 (.ptr (some (((H.push o1).push o2).n, 0))) r16.2) fun t18_18 =>
 (bd (chk (ldN 2 (.ptr (some (((H.push o1).push o2).n, 0))) (r8.2.more 0)) t18_18) fun _ =>
 (bd (call 171 [t17_17, t18_18] r16.2) fun r19 =>
 (bd (call 313 [r16.1, r19.1] r19.2) fun r20 =>
 (bd (stA 2 (.ptr (some ((((H.push o1).push o2).push o3).n, 0))) r20.1 r20.2) fun H21 =>
 (bd (ldN 2 (.ptr (some ((((H.push o1).push o2).push o3).n, 0))) H21) fun t22 =>
 (some (t22, H21)))))))))))))))))))))))
theorem pred_Area2.r_e (n : Nat) (v0 v1 v2 : V) (H : Heap) : pred_Area2.r @bdI (callA C n) n v0 v1 v2 H = E C n 253 [] (argsA 0 [v0, v1, v2]) H (kR C 253) := by
  unfold pred_Area2.r
  kernel_rfl
noncomputable def pred_Area2.rf (bd : B3) (call : FuncId → List V → Heap → Option R) (n : Nat) (a : List V) (H : Heap) : Option R := pureA a H fun a => (match a with | [v0, v1, v2] => pred_Area2.r bd call n v0 v1 v2 ⟨0, .nil⟩ | a => E C n 253 [] (argsA 0 a) ⟨0, .nil⟩ (kR C 253))
theorem pred_Area2.rf_b (n : Nat) (a : List V) (H : Heap) : (match a with | [v0, v1, v2] => pred_Area2.r @bdI (callA C n) n v0 v1 v2 H | a => E C n 253 [] (argsA 0 a) H (kR C 253)) = E C n 253 [] (argsA 0 a) H (kR C 253) := by
  split
  · exact pred_Area2.r_e n _ _ _ H
  · rfl
theorem pred_Area2.rf_e (n : Nat) (a : List V) (H : Heap) : pred_Area2.rf @bdI (callA C n) n a H = callA C (n + 1) 253 a H := by
  unfold pred_Area2.rf
  refine (congrArg (pureA a H) (funext fun a => pred_Area2.rf_b n a ⟨0, .nil⟩)).trans ?_
  kernel_rfl
noncomputable def whole_sign.r (bd : B3) (call : FuncId → List V → Heap → Option R) (n : Nat) (v0 : V) (H : Heap) : Option R :=
 (bd (boxA ty_api_Int v0) fun o1 =>
 (bd (faA 1 (.ptr (some (H.n, 0)))) fun t4_2 =>
 (bd (ld1 t4_2 (H.push o1)) fun t5_3 =>
 (bd (call 322 [t5_3] (H.push o1)) fun r4 =>
 (bd (arA .eql r4.1 (.int .i64 0)) fun t7_5 =>
 (bd (asB t7_5) fun b6 =>
 if b6 = true then
 (some ((.int .i64 0), r4.2))
 else
 (bd (faA 0 (.ptr (some (H.n, 0)))) fun t9_7 =>
 (bd (ld1 t9_7 r4.2) fun t10_8 =>
 (bd (asB t10_8) fun b9 =>
 if b9 = true then
 (some ((.int .i64 (-1)), r4.2))
 else
 (some ((.int .i64 1), r4.2)))))))))))
theorem whole_sign.r_e (n : Nat) (v0 : V) (H : Heap) : whole_sign.r @bdI (callA C n) n v0 H = E C n 262 [] (argsA 0 [v0]) H (kR C 262) := by
  unfold whole_sign.r
  kernel_rfl
noncomputable def whole_sign.rf (bd : B3) (call : FuncId → List V → Heap → Option R) (n : Nat) (a : List V) (H : Heap) : Option R := pureA a H fun a => (match a with | [v0] => whole_sign.r bd call n v0 ⟨0, .nil⟩ | a => E C n 262 [] (argsA 0 a) ⟨0, .nil⟩ (kR C 262))
theorem whole_sign.rf_b (n : Nat) (a : List V) (H : Heap) : (match a with | [v0] => whole_sign.r @bdI (callA C n) n v0 H | a => E C n 262 [] (argsA 0 a) H (kR C 262)) = E C n 262 [] (argsA 0 a) H (kR C 262) := by
  split
  · exact whole_sign.r_e n _ H
  · rfl
theorem whole_sign.rf_e (n : Nat) (a : List V) (H : Heap) : whole_sign.rf @bdI (callA C n) n a H = callA C (n + 1) 262 a H := by
  unfold whole_sign.rf
  refine (congrArg (pureA a H) (funext fun a => whole_sign.rf_b n a ⟨0, .nil⟩)).trans ?_
  kernel_rfl
@[irreducible] noncomputable def nat_cmp.l0 (n m0 : Nat) (v0 v1 v5 : V) (H : Heap) : Option R := Lp C n 263 [1, 1, 1, 0, 1, 0, 0] m0 [(0, v0), (1, v1), (5, v5)] H (kB 0 (kC C n 263 [1, 1, 1, 1] (kR C 263)))
noncomputable def nat_cmp.r_l0 (bd : B3) (call : FuncId → List V → Heap → Option R) (n : Nat) (s0 : V → V → V → Heap → Option R) (v0 v1 v5 : V) (H : Heap) : Option R :=
 (bd (arA .geq v5 (.int .i64 0)) fun t24_1 =>
 (bd (asB t24_1) fun b2 =>
 if b2 = true then
 (bd (idxS 1 v0 v5) fun t30_3 =>
 (bd (ld1 t30_3 (H.more 0)) fun t31_4 =>
 (bd (idxS 1 v1 v5) fun t34_5 =>
 (bd (ld1 t34_5 (H.more 0)) fun t35_6 =>
 (bd (arA .lss t31_4 t35_6) fun t36_7 =>
 (bd (asB t36_7) fun b8 =>
 if b8 = true then
 (some ((.int .i64 (-1)), (H.more 0)))
 else
 (bd (idxS 1 v0 v5) fun t40_9 =>
 (bd (ld1 t40_9 ((H.more 0).more 0)) fun t41_10 =>
 (bd (idxS 1 v1 v5) fun t44_11 =>
 (bd (ld1 t44_11 ((H.more 0).more 0)) fun t45_12 =>
 (bd (arA .gtr t41_10 t45_12) fun t46_13 =>
 (bd (asB t46_13) fun b14 =>
 if b14 = true then
 (some ((.int .i64 1), ((H.more 0).more 0)))
 else
 (bd (arA .sub v5 (.int .i64 1)) fun t26_15 =>
 (s0 v0 v1 t26_15 ((H.more 0).more 0)))))))))))))))
 else
 (some ((.int .i64 0), H))))
theorem nat_cmp.r_l0_e (n m0 : Nat) : nat_cmp.r_l0 @bdI (callA C n) n (nat_cmp.l0 n m0) = nat_cmp.l0 n (m0 + 1) := by
  funext v0 v1 v5 H
  unfold nat_cmp.r_l0
  kernel_rfl
noncomputable def nat_cmp.r_l0_lp (bd : B3) (call : FuncId → List V → Heap → Option R) (n : Nat) (m : Nat) : V → V → V → Heap → Option R := Nat.rec (motive := fun _ => V → V → V → Heap → Option R) (fun _ _ _ _ => none) (fun _ self => nat_cmp.r_l0 bd call n self) m
theorem nat_cmp.r_l0_lp_e (n : Nat) : nat_cmp.r_l0_lp @bdI (callA C n) n = nat_cmp.l0 n := by
  funext m
  induction m with
  | zero => funext v0 v1 v5 H; kernel_rfl
  | succ k ih => exact (congrArg (nat_cmp.r_l0 @bdI (callA C n) n) ih).trans (nat_cmp.r_l0_e n k)
noncomputable def nat_cmp.r (bd : B3) (call : FuncId → List V → Heap → Option R) (n : Nat) (v0 v1 : V) (H : Heap) : Option R :=
 (bd (call 323 [v0] H) fun r1 =>
 (bd (call 323 [v1] r1.2) fun r2 =>
 (bd (lenSl r1.1) fun t11_3 =>
 (bd (lenSl r2.1) fun t13_4 =>
 (bd (arA .neq t11_3 t13_4) fun t14_5 =>
 (bd (asB t14_5) fun b6 =>
 if b6 = true then
 (bd (lenSl r1.1) fun t16_7 =>
 (bd (lenSl r2.1) fun t18_8 =>
 (bd (arA .lss t16_7 t18_8) fun t19_9 =>
 (bd (asB t19_9) fun b10 =>
 if b10 = true then
 (some ((.int .i64 (-1)), r2.2))
 else
 (some ((.int .i64 1), r2.2))))))
 else
 (bd (lenSl r1.1) fun t21_11 =>
 (bd (arA .sub t21_11 (.int .i64 1)) fun t22_12 =>
 (nat_cmp.r_l0_lp bd call n n r1.1 r2.1 t22_12 r2.2)))))))))
theorem nat_cmp.r_e (n : Nat) (v0 v1 : V) (H : Heap) : nat_cmp.r @bdI (callA C n) n v0 v1 H = E C n 263 [] (argsA 0 [v0, v1]) H (kR C 263) := by
  unfold nat_cmp.r
  rewrite [nat_cmp.r_l0_lp_e]
  kernel_rfl
noncomputable def nat_cmp.rf (bd : B3) (call : FuncId → List V → Heap → Option R) (n : Nat) (a : List V) (H : Heap) : Option R := pureA a H fun a => (match a with | [v0, v1] => nat_cmp.r bd call n v0 v1 ⟨0, .nil⟩ | a => E C n 263 [] (argsA 0 a) ⟨0, .nil⟩ (kR C 263))
theorem nat_cmp.rf_b (n : Nat) (a : List V) (H : Heap) : (match a with | [v0, v1] => nat_cmp.r @bdI (callA C n) n v0 v1 H | a => E C n 263 [] (argsA 0 a) H (kR C 263)) = E C n 263 [] (argsA 0 a) H (kR C 263) := by
  split
  · exact nat_cmp.r_e n _ _ H
  · rfl
theorem nat_cmp.rf_e (n : Nat) (a : List V) (H : Heap) : nat_cmp.rf @bdI (callA C n) n a H = callA C (n + 1) 263 a H := by
  unfold nat_cmp.rf
  refine (congrArg (pureA a H) (funext fun a => nat_cmp.rf_b n a ⟨0, .nil⟩)).trans ?_
  kernel_rfl
noncomputable def nat_Trim.r (bd : B3) (call : FuncId → List V → Heap → Option R) (n : Nat) (v0 : V) (H : Heap) : Option R :=
 (bd (call 323 [v0] H) fun r1 =>
 (bd (call 324 [r1.1] r1.2) fun r2 =>
 (frzR r2.1 r2.2)))
theorem nat_Trim.r_e (n : Nat) (v0 : V) (H : Heap) : nat_Trim.r @bdI (callA C n) n v0 H = E C n 266 [] (argsA 0 [v0]) H (kR C 266) := by
  unfold nat_Trim.r
  kernel_rfl
noncomputable def nat_Trim.rf (bd : B3) (call : FuncId → List V → Heap → Option R) (n : Nat) (a : List V) (H : Heap) : Option R := pureA a H fun a => (match a with | [v0] => nat_Trim.r bd call n v0 ⟨0, .nil⟩ | a => E C n 266 [] (argsA 0 a) ⟨0, .nil⟩ (kR C 266))
theorem nat_Trim.rf_b (n : Nat) (a : List V) (H : Heap) : (match a with | [v0] => nat_Trim.r @bdI (callA C n) n v0 H | a => E C n 266 [] (argsA 0 a) H (kR C 266)) = E C n 266 [] (argsA 0 a) H (kR C 266) := by
  split
  · exact nat_Trim.r_e n _ H
  · rfl
theorem nat_Trim.rf_e (n : Nat) (a : List V) (H : Heap) : nat_Trim.rf @bdI (callA C n) n a H = callA C (n + 1) 266 a H := by
  unfold nat_Trim.rf
  refine (congrArg (pureA a H) (funext fun a => nat_Trim.rf_b n a ⟨0, .nil⟩)).trans ?_
  kernel_rfl
noncomputable def bucket_Grid_cell.r (bd : B3) (call : FuncId → List V → Heap → Option R) (n : Nat) (v0 v1 : V) (H : Heap) : Option R :=
 (bd (boxA ty_api_Point v1) fun o1 =>
 (bd (eqlA P ty_p_bucket_Grid v0 (.ptr none)) fun t11_2 =>
 (bd (asB t11_2) fun b3 =>
 if b3 = true then
 (some (.tuple [(.int .i64 (-1)), (.int .i64 (-1)), (.bool false)], (H.push o1)))
 else
 (bd (ldN 2 (.ptr (some (H.n, 0))) ((H.push o1).more 2)) fun t13_4 =>
 (bd (nilC v0) fun t15_5 =>
 (bd (faA 0 t15_5) fun t16_6 =>
 (bd (ld1 t16_6 ((H.push o1).more 2)) fun t17_7 =>
 (bd (call 121 [t13_4, t17_7] ((H.push o1).more 2)) fun r8 =>
 (bd (extA r8.1 0) fun t19_9 =>
 (bd (stA 2 (.ptr (some (((H.push o1).n + 0), 0))) t19_9 ((r8.2.set ((H.push o1).n + 0) (.cells [(.int .i64 0), (.int .i64 0)] ty_api_Point false)).set ((H.push o1).n + 1) (.cells [(.int .i64 0), (.int .i64 0)] ty_api_Off false))) fun H10 =>
 (bd (extA r8.1 1) fun t20_11 =>
 (bd (stA 2 (.ptr (some (((H.push o1).n + 1), 0))) t20_11 H10) fun H12 =>
 (bd (extA r8.1 2) fun t21_13 =>
 (bd (unA .not t21_13) fun t23_14 =>
 (bd (asB t23_14) fun b15 =>
 if b15 = true then
 (some (.tuple [(.int .i64 (-1)), (.int .i64 (-1)), (.bool false)], H12))
 else
 (bd (faA 0 (.ptr (some (((H.push o1).n + 0), 0)))) fun t24_16 =>
 (bd (ld1 t24_16 (H12.more 0)) fun t25_17 =>
 (bd (nilC v0) fun t27_18 =>
 (bd (faA 1 t27_18) fun t28_19 =>
 (bd (ld1 t28_19 (H12.more 0)) fun t29_20 =>
 (bd (arA .mul t25_17 t29_20) fun t30_21 =>
 (bd (nilC v0) fun t32_22 =>
 (bd (faA 0 t32_22) fun t33_23 =>
 (bd (ld1 t33_23 (H12.more 0)) fun t34_24 =>
 (bd (arA .quo t30_21 t34_24) fun t35_25 =>
 (bd (faA 1 (.ptr (some (((H.push o1).n + 0), 0)))) fun t36_26 =>
 (bd (ld1 t36_26 (H12.more 0)) fun t37_27 =>
 (bd (nilC v0) fun t39_28 =>
 (bd (faA 1 t39_28) fun t40_29 =>
 (bd (ld1 t40_29 (H12.more 0)) fun t41_30 =>
 (bd (arA .mul t37_27 t41_30) fun t42_31 =>
 (bd (nilC v0) fun t44_32 =>
 (bd (faA 0 t44_32) fun t45_33 =>
 (bd (ld1 t45_33 (H12.more 0)) fun t46_34 =>
 (bd (arA .quo t42_31 t46_34) fun t47_35 =>
 (some (.tuple [t35_25, t47_35, (.bool true)], (H12.more 0))))))))))))))))))))))))))))))))))))))
theorem bucket_Grid_cell.r_e (n : Nat) (v0 v1 : V) (H : Heap) : bucket_Grid_cell.r @bdI (callA C n) n v0 v1 H = E C n 269 [] (argsA 0 [v0, v1]) H (kR C 269) := by
  unfold bucket_Grid_cell.r
  kernel_rfl
noncomputable def bucket_Grid_cell.rf (bd : B3) (call : FuncId → List V → Heap → Option R) (n : Nat) (a : List V) (H : Heap) : Option R := (match a with | [v0, v1] => bucket_Grid_cell.r bd call n v0 v1 H | a => E C n 269 [] (argsA 0 a) H (kR C 269))
theorem bucket_Grid_cell.rf_b (n : Nat) (a : List V) (H : Heap) : (match a with | [v0, v1] => bucket_Grid_cell.r @bdI (callA C n) n v0 v1 H | a => E C n 269 [] (argsA 0 a) H (kR C 269)) = E C n 269 [] (argsA 0 a) H (kR C 269) := by
  split
  · exact bucket_Grid_cell.r_e n _ _ H
  · rfl
theorem bucket_Grid_cell.rf_e (n : Nat) (a : List V) (H : Heap) : bucket_Grid_cell.rf @bdI (callA C n) n a H = callA C (n + 1) 269 a H := by
  unfold bucket_Grid_cell.rf
  refine (bucket_Grid_cell.rf_b n a H).trans ?_
  kernel_rfl
noncomputable def bucket_Grid_at.r (bd : B3) (call : FuncId → List V → Heap → Option R) (n : Nat) (v0 v1 v2 : V) (H : Heap) : Option R :=
 (bd (nilC v0) fun t9_1 =>
 (bd (faA 1 t9_1) fun t10_2 =>
 (bd (ld1 t10_2 H) fun t11_3 =>
 (bd (arA .add v1 t11_3) fun t14_4 =>
 (bd (arA .rem t14_4 t11_3) fun t16_5 =>
 (bd (arA .mul t16_5 t11_3) fun t18_6 =>
 (bd (arA .add v2 t11_3) fun t21_7 =>
 (bd (arA .rem t21_7 t11_3) fun t23_8 =>
 (bd (arA .add t18_6 t23_8) fun t24_9 =>
 (some (t24_9, (H.more 0))))))))))))
theorem bucket_Grid_at.r_e (n : Nat) (v0 v1 v2 : V) (H : Heap) : bucket_Grid_at.r @bdI (callA C n) n v0 v1 v2 H = E C n 270 [] (argsA 0 [v0, v1, v2]) H (kR C 270) := by
  unfold bucket_Grid_at.r
  kernel_rfl
noncomputable def bucket_Grid_at.rf (bd : B3) (call : FuncId → List V → Heap → Option R) (n : Nat) (a : List V) (H : Heap) : Option R := (match a with | [v0, v1, v2] => bucket_Grid_at.r bd call n v0 v1 v2 H | a => E C n 270 [] (argsA 0 a) H (kR C 270))
theorem bucket_Grid_at.rf_b (n : Nat) (a : List V) (H : Heap) : (match a with | [v0, v1, v2] => bucket_Grid_at.r @bdI (callA C n) n v0 v1 v2 H | a => E C n 270 [] (argsA 0 a) H (kR C 270)) = E C n 270 [] (argsA 0 a) H (kR C 270) := by
  split
  · exact bucket_Grid_at.r_e n _ _ _ H
  · rfl
theorem bucket_Grid_at.rf_e (n : Nat) (a : List V) (H : Heap) : bucket_Grid_at.rf @bdI (callA C n) n a H = callA C (n + 1) 270 a H := by
  unfold bucket_Grid_at.rf
  refine (bucket_Grid_at.rf_b n a H).trans ?_
  kernel_rfl
noncomputable def pdt_sheet_isBig.r (bd : B3) (call : FuncId → List V → Heap → Option R) (n : Nat) (v0 v1 : V) (H : Heap) : Option R :=
 (bd (nilC v0) fun t13_1 =>
 (bd (faA 0 t13_1) fun t14_2 =>
 (bd (ld1 t14_2 H) fun t15_3 =>
 (bd (call 329 [t15_3, v1, (.int .i64 0)] H) fun r4 =>
 (bd (extA r4.1 0) fun t18_5 =>
 (bd (extA r4.1 1) fun t19_6 =>
 (bd (stA 2 (.ptr (some (r4.2.n, 0))) t18_5 (r4.2.push (.cells [(.int .i64 0), (.int .i64 0)] ty_api_Point false))) fun H7 =>
 (bd (nilC v0) fun t22_8 =>
 (bd (faA 0 t22_8) fun t23_9 =>
 (bd (ld1 t23_9 H7) fun t24_10 =>
 (bd (call 329 [t24_10, v1, (.int .i64 1)] H7) fun r11 =>
 (bd (extA r11.1 0) fun t27_12 =>
 (bd (extA r11.1 1) fun t28_13 =>
 (bd (stA 2 (.ptr (some (r11.2.n, 0))) t27_12 (r11.2.push (.cells [(.int .i64 0), (.int .i64 0)] ty_api_Point false))) fun H14 =>
 (bd (nilC v0) fun t31_15 =>
 (bd (faA 0 t31_15) fun t32_16 =>
 (bd (ld1 t32_16 H14) fun t33_17 =>
 (bd (call 329 [t33_17, v1, (.int .i64 2)] H14) fun r18 =>
 (bd (extA r18.1 0) fun t36_19 =>
 (bd (extA r18.1 1) fun t37_20 =>
 (bd (stA 2 (.ptr (some (r18.2.n, 0))) t36_19 (r18.2.push (.cells [(.int .i64 0), (.int .i64 0)] ty_api_Point false))) fun H21 =>
 (bd (unA .not t19_6) fun t39_22 =>
 (bd (asB t39_22) fun b23 =>
 if b23 = true then
 (some ((.bool true), (H21.more 0)))
 else
 (bd (unA .not t28_13) fun t42_24 =>
 (bd (asB t42_24) fun b25 =>
 if b25 = true then
 (some ((.bool true), (H21.more 0)))
 else
 (bd (unA .not t37_20) fun t46_26 =>
 (bd (asB t46_26) fun b27 =>
 if b27 = true then
 (some ((.bool true), (H21.more 0)))
 else
 (bd (ldN 2 (.ptr (some (r4.2.n, 0))) (H21.more 0)) fun t49_28 =>
 (bd (ldN 2 (.ptr (some (r11.2.n, 0))) (H21.more 0)) fun t50_29 =>
 (bd (ldN 2 (.ptr (some (r18.2.n, 0))) (H21.more 0)) fun t51_30 =>
 (bd (nilC v0) fun t53_31 =>
 (bd (faA 2 t53_31) fun t54_32 =>
 (bd (ld1 t54_32 (H21.more 0)) fun t55_33 =>
 (bd (call 282 [t49_28, t50_29, t51_30, t55_33] (H21.more 0)) fun r34 =>
 (bd (unA .not r34.1) fun t57_35 =>
 (some (t57_35, r34.2)))))))))))))))))))))))))))))))))))))
theorem pdt_sheet_isBig.r_e (n : Nat) (v0 v1 : V) (H : Heap) : pdt_sheet_isBig.r @bdI (callA C n) n v0 v1 H = E C n 271 [] (argsA 0 [v0, v1]) H (kR C 271) := by
  unfold pdt_sheet_isBig.r
  kernel_rfl
noncomputable def pdt_sheet_isBig.rf (bd : B3) (call : FuncId → List V → Heap → Option R) (n : Nat) (a : List V) (H : Heap) : Option R := (match a with | [v0, v1] => pdt_sheet_isBig.r bd call n v0 v1 H | a => E C n 271 [] (argsA 0 a) H (kR C 271))
theorem pdt_sheet_isBig.rf_b (n : Nat) (a : List V) (H : Heap) : (match a with | [v0, v1] => pdt_sheet_isBig.r @bdI (callA C n) n v0 v1 H | a => E C n 271 [] (argsA 0 a) H (kR C 271)) = E C n 271 [] (argsA 0 a) H (kR C 271) := by
  split
  · exact pdt_sheet_isBig.r_e n _ _ H
  · rfl
theorem pdt_sheet_isBig.rf_e (n : Nat) (a : List V) (H : Heap) : pdt_sheet_isBig.rf @bdI (callA C n) n a H = callA C (n + 1) 271 a H := by
  unfold pdt_sheet_isBig.rf
  refine (pdt_sheet_isBig.rf_b n a H).trans ?_
  kernel_rfl
noncomputable def mesh_Mesh_AddVert.r (bd : B3) (call : FuncId → List V → Heap → Option R) (n : Nat) (v0 v1 v2 : V) (H : Heap) : Option R :=
 (bd (boxA ty_api_Point v1) fun o1 =>
 (bd (eqlA P ty_p_mesh_Mesh v0 (.ptr none)) fun t9_2 =>
 (bd (asB t9_2) fun b3 =>
 if b3 = true then
 (some ((.int .i64 (-1)), ((H.push o1).more 0)))
 else
 (bd (faA 0 (.ptr (some (H.n, 0)))) fun t11_4 =>
 (bd (ld1 t11_4 ((H.push o1).more 0)) fun t12_5 =>
 (bd (arA .lss t12_5 (.int .i64 0)) fun t13_6 =>
 (bd (asB t13_6) fun b7 =>
 if b7 = true then
 (some ((.int .i64 (-1)), ((H.push o1).more 0)))
 else
 (bd (faA 0 (.ptr (some (H.n, 0)))) fun t16_8 =>
 (bd (ld1 t16_8 ((H.push o1).more 0)) fun t17_9 =>
 (bd (nilC v0) fun t19_10 =>
 (bd (faA 0 t19_10) fun t20_11 =>
 (bd (ld1 t20_11 ((H.push o1).more 0)) fun t21_12 =>
 (bd (arA .geq t17_9 t21_12) fun t22_13 =>
 (bd (asB t22_13) fun b14 =>
 if b14 = true then
 (some ((.int .i64 (-1)), ((H.push o1).more 0)))
 else
 (bd (faA 1 (.ptr (some (H.n, 0)))) fun t25_15 =>
 (bd (ld1 t25_15 ((H.push o1).more 0)) fun t26_16 =>
 (bd (arA .lss t26_16 (.int .i64 0)) fun t27_17 =>
 (bd (asB t27_17) fun b18 =>
 if b18 = true then
 (some ((.int .i64 (-1)), ((H.push o1).more 0)))
 else
 (bd (faA 1 (.ptr (some (H.n, 0)))) fun t30_19 =>
 (bd (ld1 t30_19 ((H.push o1).more 0)) fun t31_20 =>
 (bd (nilC v0) fun t33_21 =>
 (bd (faA 0 t33_21) fun t34_22 =>
 (bd (ld1 t34_22 ((H.push o1).more 0)) fun t35_23 =>
 (bd (arA .geq t31_20 t35_23) fun t36_24 =>
 (bd (asB t36_24) fun b25 =>
 if b25 = true then
 (some ((.int .i64 (-1)), ((H.push o1).more 0)))
 else
 (bd (nilC v0) fun t39_26 =>
 (bd (faA 1 t39_26) fun t40_27 =>
 (bd (ld1 t40_27 ((H.push o1).more 0)) fun t41_28 =>
 (bd (call 330 [t41_28] ((H.push o1).more 0)) fun r29 =>
 (bd (nilC v0) fun t45_30 =>
 (bd (faA 3 t45_30) fun t46_31 =>
 (bd (ld1 t46_31 (r29.2.more 0)) fun t47_32 =>
 (bd (ldN 2 (.ptr (some (H.n, 0))) (r29.2.more 0)) fun t50_33 =>
 (bd (flA [(0, 1), (1, 2), (3, 1)] [(.int .i64 0), (.int .i64 0), (.int .i64 0), (.int .i64 0)] [(0, r29.1), (1, t50_33), (2, v2)]) fun t52_34 =>
 (bd (call 331 [t47_32, r29.1, t52_34] (r29.2.more 0)) fun r35 =>
 (bd (nilC v0) fun t54_36 =>
 (bd (faA 3 t54_36) fun t55_37 =>
 (bd (stA 1 t55_37 r35.1 r35.2) fun H38 =>
 (some (r29.1, H38))))))))))))))))))))))))))))))))))))))))
theorem mesh_Mesh_AddVert.r_e (n : Nat) (v0 v1 v2 : V) (H : Heap) : mesh_Mesh_AddVert.r @bdI (callA C n) n v0 v1 v2 H = E C n 272 [] (argsA 0 [v0, v1, v2]) H (kR C 272) := by
  unfold mesh_Mesh_AddVert.r
  kernel_rfl
noncomputable def mesh_Mesh_AddVert.rf (bd : B3) (call : FuncId → List V → Heap → Option R) (n : Nat) (a : List V) (H : Heap) : Option R := (match a with | [v0, v1, v2] => mesh_Mesh_AddVert.r bd call n v0 v1 v2 H | a => E C n 272 [] (argsA 0 a) H (kR C 272))
theorem mesh_Mesh_AddVert.rf_b (n : Nat) (a : List V) (H : Heap) : (match a with | [v0, v1, v2] => mesh_Mesh_AddVert.r @bdI (callA C n) n v0 v1 v2 H | a => E C n 272 [] (argsA 0 a) H (kR C 272)) = E C n 272 [] (argsA 0 a) H (kR C 272) := by
  split
  · exact mesh_Mesh_AddVert.r_e n _ _ _ H
  · rfl
theorem mesh_Mesh_AddVert.rf_e (n : Nat) (a : List V) (H : Heap) : mesh_Mesh_AddVert.rf @bdI (callA C n) n a H = callA C (n + 1) 272 a H := by
  unfold mesh_Mesh_AddVert.rf
  refine (mesh_Mesh_AddVert.rf_b n a H).trans ?_
  kernel_rfl
@[irreducible] noncomputable def mesh_Mesh_AddFace.l0 (n m0 : Nat) (v0 v3 v42 : V) (H : Heap) : Option R := Lp C n 273 [1, 1, 1, 0, 1, 0, 0] m0 [(0, v0), (3, v3), (42, v42)] H (kB 0 (kC C n 273 [1, 1, 1, 1] (kR C 273)))
@[irreducible] noncomputable def mesh_Mesh_AddFace.p1 (n : Nat) (v0 v3 : V) (H : Heap) : Option R := E C n 273 [1, 1, 1, 1] [(0, v0), (3, v3)] H (kR C 273)
@[irreducible] noncomputable def mesh_Mesh_AddFace.l2 (n m0 : Nat) (v0 v3 v9 v74 v75 : V) (H : Heap) : Option R := Lp C n 273 [1, 1, 1, 1, 1, 1, 0, 1, 0, 0] m0 [(0, v0), (3, v3), (9, v9), (74, v74), (75, v75)] H (kB 2 (kC C n 273 [1, 1, 1, 1, 1, 1, 1] (kR C 273)))
noncomputable def mesh_Mesh_AddFace.r_l2 (bd : B3) (call : FuncId → List V → Heap → Option R) (n : Nat) (s0 : V → V → V → V → V → Heap → Option R) (v0 v3 v9 v74 v75 : V) (H : Heap) : Option R :=
 (bd (arA .lss v75 (.int .i64 3)) fun t76_1 =>
 (bd (asB t76_1) fun b2 =>
 if b2 = true then
 (bd (ix1 3 v74 v75) fun t78_3 =>
 (bd (ldN 9 v3 (H.more 0)) fun t83_4 =>
 (bd (call 334 [t83_4, v75] (H.more 0)) fun r5 =>
 (bd (nilC v0) fun t80_6 =>
 (bd (faA 5 t80_6) fun t81_7 =>
 (bd (ld1 t81_7 r5.2) fun t82_8 =>
 (bd (chk (ld1 t81_7 (H.more 0)) t82_8) fun _ =>
 (bd (flA [(0, 1), (1, 1)] [(.int .i64 0), (.int .i64 0)] [(0, v9), (1, v75)]) fun t88_9 =>
 (bd (updM P ty_mesh_edge t82_8 r5.1 t88_9 r5.2) fun H10 =>
 (bd (nilC v0) fun t90_11 =>
 (bd (faA 6 t90_11) fun t91_12 =>
 (bd (ld1 t91_12 H10) fun t92_13 =>
 (bd (lookM P ty_int (.slice ⟨none, 0, 0, false⟩) t92_13 t78_3 false H10) fun t94_14 =>
 (bd (call 336 [t94_14, v9] H10) fun r15 =>
 (bd (unA .not r15.1) fun t97_16 =>
 (bd (asB t97_16) fun b17 =>
 if b17 = true then
 (bd (nilC v0) fun t104_18 =>
 (bd (faA 6 t104_18) fun t105_19 =>
 (bd (ld1 t105_19 (r15.2.more 1)) fun t106_20 =>
 (bd (lookM P ty_int (.slice ⟨none, 0, 0, false⟩) t106_20 t78_3 false (r15.2.more 1)) fun t108_21 =>
 (bd (bSl 1 ty_int [(.int .i64 0)] 1 [(0, v9)]) fun o22 =>
 (bd (appA 1 8 ty_int t108_21 (.slice ⟨some ((r15.2.n + 0), 0), 1, 1, false⟩) ((r15.2.more 1).set (r15.2.n + 0) o22)) fun p23 =>
 (bd (nilC v0) fun t99_24 =>
 (bd (faA 6 t99_24) fun t100_25 =>
 (bd (ld1 t100_25 p23.2) fun t101_26 =>
 (bd (chk (ld1 t100_25 (r15.2.more 1)) t101_26) fun _ =>
 (bd (updM P ty_int t101_26 t78_3 p23.1 p23.2) fun H27 =>
 (bd (arA .add v75 (.int .i64 1)) fun t112_28 =>
 (s0 v0 v3 v9 v74 t112_28 H27)))))))))))))
 else
 (bd (arA .add v75 (.int .i64 1)) fun t112_29 =>
 (s0 v0 v3 v9 v74 t112_29 r15.2))))))))))))))))))
 else
 (some (.tuple [v9, (.int .i64 0)], H))))
theorem mesh_Mesh_AddFace.r_l2_e (n m0 : Nat) : mesh_Mesh_AddFace.r_l2 @bdI (callA C n) n (mesh_Mesh_AddFace.l2 n m0) = mesh_Mesh_AddFace.l2 n (m0 + 1) := by
  funext v0 v3 v9 v74 v75 H
  unfold mesh_Mesh_AddFace.r_l2
  kernel_rfl
noncomputable def mesh_Mesh_AddFace.r_l2_lp (bd : B3) (call : FuncId → List V → Heap → Option R) (n : Nat) (m : Nat) : V → V → V → V → V → Heap → Option R := Nat.rec (motive := fun _ => V → V → V → V → V → Heap → Option R) (fun _ _ _ _ _ _ => none) (fun _ self => mesh_Mesh_AddFace.r_l2 bd call n self) m
theorem mesh_Mesh_AddFace.r_l2_lp_e (n : Nat) : mesh_Mesh_AddFace.r_l2_lp @bdI (callA C n) n = mesh_Mesh_AddFace.l2 n := by
  funext m
  induction m with
  | zero => funext v0 v3 v9 v74 v75 H; kernel_rfl
  | succ k ih => exact (congrArg (mesh_Mesh_AddFace.r_l2 @bdI (callA C n) n) ih).trans (mesh_Mesh_AddFace.r_l2_e n k)
noncomputable def mesh_Mesh_AddFace.r_p1 (bd : B3) (call : FuncId → List V → Heap → Option R) (n : Nat) (v0 v3 : V) (H : Heap) : Option R :=
 (bd (nilC v0) fun t59_1 =>
 (bd (faA 2 t59_1) fun t60_2 =>
 (bd (ld1 t60_2 H) fun t61_3 =>
 (bd (call 330 [t61_3] H) fun r4 =>
 (bd (nilC v0) fun t65_5 =>
 (bd (faA 4 t65_5) fun t66_6 =>
 (bd (ld1 t66_6 (r4.2.more 0)) fun t67_7 =>
 (bd (ldN 9 v3 (r4.2.more 0)) fun t69_8 =>
 (bd (call 335 [t67_7, r4.1, t69_8] (r4.2.more 0)) fun r9 =>
 (bd (nilC v0) fun t71_10 =>
 (bd (faA 4 t71_10) fun t72_11 =>
 (bd (stA 1 t72_11 r9.1 r9.2) fun H12 =>
 (bd (faA 0 v3) fun t73_13 =>
 (bd (ldN 3 t73_13 H12) fun t74_14 =>
 (mesh_Mesh_AddFace.r_l2_lp bd call n n v0 v3 r4.1 t74_14 (.int .i64 0) H12)))))))))))))))
theorem mesh_Mesh_AddFace.r_p1_e (n : Nat) : mesh_Mesh_AddFace.r_p1 @bdI (callA C n) n = mesh_Mesh_AddFace.p1 n := by
  funext v0 v3 H
  unfold mesh_Mesh_AddFace.r_p1
  rewrite [mesh_Mesh_AddFace.r_l2_lp_e]
  kernel_rfl
noncomputable def mesh_Mesh_AddFace.r_l0 (bd : B3) (call : FuncId → List V → Heap → Option R) (n : Nat) (s0 : V → V → V → Heap → Option R) (v0 v3 v42 : V) (H : Heap) : Option R :=
 (bd (arA .lss v42 (.int .i64 3)) fun t43_1 =>
 (bd (asB t43_1) fun b2 =>
 if b2 = true then
 (bd (ldN 9 v3 (H.more 1)) fun t50_3 =>
 (bd (call 334 [t50_3, v42] (H.more 1)) fun r4 =>
 (bd (nilC v0) fun t47_5 =>
 (bd (faA 5 t47_5) fun t48_6 =>
 (bd (ld1 t48_6 r4.2) fun t49_7 =>
 (bd (chk (ld1 t48_6 (H.more 1)) t49_7) fun _ =>
 (bd (lookM P ty_mesh_edge (.agg [(.int .i64 0), (.int .i64 0)]) t49_7 r4.1 true r4.2) fun t53_8 =>
 (bd (extA t53_8 0) fun t54_9 =>
 (bd (stA 2 (.ptr (some ((H.n + 0), 0))) t54_9 (r4.2.set (H.n + 0) (.cells [(.int .i64 0), (.int .i64 0)] ty_mesh_half false))) fun H10 =>
 (bd (extA t53_8 1) fun t55_11 =>
 (bd (asB t55_11) fun b12 =>
 if b12 = true then
 (some (.tuple [(.int .i64 (-1)), (.int .i64 6)], H10))
 else
 (bd (arA .add v42 (.int .i64 1)) fun t57_13 =>
 (s0 v0 v3 t57_13 H10)))))))))))))
 else
 (mesh_Mesh_AddFace.r_p1 bd call n v0 v3 H)))
theorem mesh_Mesh_AddFace.r_l0_e (n m0 : Nat) : mesh_Mesh_AddFace.r_l0 @bdI (callA C n) n (mesh_Mesh_AddFace.l0 n m0) = mesh_Mesh_AddFace.l0 n (m0 + 1) := by
  funext v0 v3 v42 H
  unfold mesh_Mesh_AddFace.r_l0
  rewrite [mesh_Mesh_AddFace.r_p1_e]
  kernel_rfl
noncomputable def mesh_Mesh_AddFace.r_l0_lp (bd : B3) (call : FuncId → List V → Heap → Option R) (n : Nat) (m : Nat) : V → V → V → Heap → Option R := Nat.rec (motive := fun _ => V → V → V → Heap → Option R) (fun _ _ _ _ => none) (fun _ self => mesh_Mesh_AddFace.r_l0 bd call n self) m
theorem mesh_Mesh_AddFace.r_l0_lp_e (n : Nat) : mesh_Mesh_AddFace.r_l0_lp @bdI (callA C n) n = mesh_Mesh_AddFace.l0 n := by
  funext m
  induction m with
  | zero => funext v0 v3 v42 H; kernel_rfl
  | succ k ih => exact (congrArg (mesh_Mesh_AddFace.r_l0 @bdI (callA C n) n) ih).trans (mesh_Mesh_AddFace.r_l0_e n k)
noncomputable def mesh_Mesh_AddFace.r (bd : B3) (call : FuncId → List V → Heap → Option R) (n : Nat) (v0 v1 : V) (H : Heap) : Option R :=
 (bd (boxA ty_api_Tri v1) fun o1 =>
 (bd (eqlA P ty_p_mesh_Mesh v0 (.ptr none)) fun t13_2 =>
 (bd (asB t13_2) fun b3 =>
 if b3 = true then
 (some (.tuple [(.int .i64 (-1)), (.int .i64 1)], (H.push o1)))
 else
 (bd (faA 0 (.ptr (some (H.n, 0)))) fun t16_4 =>
 (bd (idxP 3 1 t16_4 (.int .i64 0)) fun t17_5 =>
 (bd (ld1 t17_5 (H.push o1)) fun t18_6 =>
 (bd (call 332 [v0, t18_6] (H.push o1)) fun r7 =>
 (bd (unA .not r7.1) fun t20_8 =>
 (bd (asB t20_8) fun b9 =>
 if b9 = true then
 (some (.tuple [(.int .i64 (-1)), (.int .i64 1)], r7.2))
 else
 (bd (faA 0 (.ptr (some (H.n, 0)))) fun t24_10 =>
 (bd (idxP 3 1 t24_10 (.int .i64 1)) fun t25_11 =>
 (bd (ld1 t25_11 r7.2) fun t26_12 =>
 (bd (call 332 [v0, t26_12] r7.2) fun r13 =>
 (bd (unA .not r13.1) fun t28_14 =>
 (bd (asB t28_14) fun b15 =>
 if b15 = true then
 (some (.tuple [(.int .i64 (-1)), (.int .i64 1)], r13.2))
 else
 (bd (faA 0 (.ptr (some (H.n, 0)))) fun t32_16 =>
 (bd (idxP 3 1 t32_16 (.int .i64 2)) fun t33_17 =>
 (bd (ld1 t33_17 r13.2) fun t34_18 =>
 (bd (call 332 [v0, t34_18] r13.2) fun r19 =>
 (bd (unA .not r19.1) fun t36_20 =>
 (bd (asB t36_20) fun b21 =>
 if b21 = true then
 (some (.tuple [(.int .i64 (-1)), (.int .i64 1)], r19.2))
 else
 (bd (ldN 9 (.ptr (some (H.n, 0))) r19.2) fun t39_22 =>
 (bd (call 333 [v0, t39_22] r19.2) fun r23 =>
 (bd (unA .not r23.1) fun t41_24 =>
 (bd (asB t41_24) fun b25 =>
 if b25 = true then
 (some (.tuple [(.int .i64 (-1)), (.int .i64 6)], r23.2))
 else
 (mesh_Mesh_AddFace.r_l0_lp bd call n n v0 (.ptr (some (H.n, 0))) (.int .i64 0) r23.2))))))))))))))))))))))))))
theorem mesh_Mesh_AddFace.r_e (n : Nat) (v0 v1 : V) (H : Heap) : mesh_Mesh_AddFace.r @bdI (callA C n) n v0 v1 H = E C n 273 [] (argsA 0 [v0, v1]) H (kR C 273) := by
  unfold mesh_Mesh_AddFace.r
  rewrite [mesh_Mesh_AddFace.r_l0_lp_e]
  kernel_rfl
noncomputable def mesh_Mesh_AddFace.rf (bd : B3) (call : FuncId → List V → Heap → Option R) (n : Nat) (a : List V) (H : Heap) : Option R := (match a with | [v0, v1] => mesh_Mesh_AddFace.r bd call n v0 v1 H | a => E C n 273 [] (argsA 0 a) H (kR C 273))
theorem mesh_Mesh_AddFace.rf_b (n : Nat) (a : List V) (H : Heap) : (match a with | [v0, v1] => mesh_Mesh_AddFace.r @bdI (callA C n) n v0 v1 H | a => E C n 273 [] (argsA 0 a) H (kR C 273)) = E C n 273 [] (argsA 0 a) H (kR C 273) := by
  split
  · exact mesh_Mesh_AddFace.r_e n _ _ H
  · rfl
theorem mesh_Mesh_AddFace.rf_e (n : Nat) (a : List V) (H : Heap) : mesh_Mesh_AddFace.rf @bdI (callA C n) n a H = callA C (n + 1) 273 a H := by
  unfold mesh_Mesh_AddFace.rf
  refine (mesh_Mesh_AddFace.rf_b n a H).trans ?_
  kernel_rfl
end Go.AM.L
end
section
set_option linter.unusedVariables false
set_option linter.unusedSimpArgs false
set_option maxRecDepth 1000000
set_option linter.unusedVariables false
namespace Go.AM.L
noncomputable def circum_Small.r (bd : B3) (call : FuncId → List V → Heap → Option R) (n : Nat) (v0 v1 v2 v3 : V) (H : Heap) : Option R :=
 (bd (boxA ty_api_Point v0) fun o1 =>
 (bd (boxA ty_api_Point v1) fun o2 =>
 (bd (boxA ty_api_Point v2) fun o3 =>
 (bd (arA .lss v3 (.int .i64 1)) fun t11_4 =>
 (bd (asB t11_4) fun b5 =>
 if b5 = true then
 (some ((.bool false), (((H.push o1).push o2).push o3)))
 else
 (bd (arA .gtr v3 (.int .i64 17179869184)) fun t14_6 =>
 (bd (asB t14_6) fun b7 =>
 if b7 = true then
 (some ((.bool false), (((H.push o1).push o2).push o3)))
 else
 (bd (ldN 2 (.ptr (some (H.n, 0))) (((H.push o1).push o2).push o3)) fun t17_8 =>
 (bd (call 240 [t17_8] (((H.push o1).push o2).push o3)) fun r9 =>
 (bd (unA .not r9.1) fun t19_10 =>
 (bd (asB t19_10) fun b11 =>
 if b11 = true then
 (some ((.bool false), r9.2))
 else
 (bd (ldN 2 (.ptr (some (H.n, 0))) r9.2) fun t22_12 =>
 (bd (ldN 2 (.ptr (some ((H.push o1).n, 0))) r9.2) fun t23_13 =>
 (bd (ldN 2 (.ptr (some (((H.push o1).push o2).n, 0))) r9.2) fun t24_14 =>
 (bd (call 250 [t22_12, t23_13, t24_14] r9.2) fun r15 =>
 (bd (unA .not r15.1) fun t26_16 =>
 (bd (asB t26_16) fun b17 =>
 if b17 = true then
 (some ((.bool false), r15.2))
 else
 (bd (call 310 [(.int .i64 4)] (r15.2.more 1)) fun r18 =>
 (bd (ldN 2 (.ptr (some (H.n, 0))) r18.2) fun t29_19 =>
 (bd (chk (ldN 2 (.ptr (some (H.n, 0))) (r15.2.more 1)) t29_19) fun _ =>
 (bd (ldN 2 (.ptr (some ((H.push o1).n, 0))) r18.2) fun t30_20 =>
 (bd (chk (ldN 2 (.ptr (some ((H.push o1).n, 0))) (r15.2.more 1)) t30_20) fun _ =>
 (bd (ldN 2 (.ptr (some (((H.push o1).push o2).n, 0))) r18.2) fun t31_21 =>
 (bd (chk (ldN 2 (.ptr (some (((H.push o1).push o2).n, 0))) (r15.2.more 1)) t31_21) fun _ =>
 (bd (call 352 [t29_19, t30_20, t31_21] r18.2) fun r22 =>
 (bd (call 316 [r18.1, r22.1] r22.2) fun r23 =>
 (bd (stA 2 (.ptr (some ((r15.2.n + 0), 0))) r23.1 (r23.2.set (r15.2.n + 0) (.cells [(.bool false), (.slice ⟨none, 0, 0, false⟩)] ty_api_Int false))) fun H24 =>
 (bd (call 242 [v3, v3] (H24.more 0)) fun r25 =>
 (bd (call 252 [r25.1] r25.2) fun r26 =>
 (bd (ldN 2 (.ptr (some (H.n, 0))) r26.2) fun t39_27 =>
 (bd (chk (ldN 2 (.ptr (some (H.n, 0))) r25.2) t39_27) fun _ =>
 (bd (chk (ldN 2 (.ptr (some (H.n, 0))) (H24.more 0)) t39_27) fun _ =>
 (bd (ldN 2 (.ptr (some ((H.push o1).n, 0))) r26.2) fun t40_28 =>
 (bd (chk (ldN 2 (.ptr (some ((H.push o1).n, 0))) r25.2) t40_28) fun _ =>
 (bd (chk (ldN 2 (.ptr (some ((H.push o1).n, 0))) (H24.more 0)) t40_28) fun _ =>
 (bd (ldN 2 (.ptr (some (((H.push o1).push o2).n, 0))) r26.2) fun t41_29 =>
 (bd (chk (ldN 2 (.ptr (some (((H.push o1).push o2).n, 0))) r25.2) t41_29) fun _ =>
 (bd (chk (ldN 2 (.ptr (some (((H.push o1).push o2).n, 0))) (H24.more 0)) t41_29) fun _ =>
 (bd (call 354 [t39_27, t40_28, t41_29] r26.2) fun r30 =>
 (bd (call 316 [r26.1, r30.1] r30.2) fun r31 =>
 (bd (ldN 2 (.ptr (some ((r15.2.n + 0), 0))) r31.2) fun t34_32 =>
 (bd (chk (ldN 2 (.ptr (some ((r15.2.n + 0), 0))) r30.2) t34_32) fun _ =>
 (bd (chk (ldN 2 (.ptr (some ((r15.2.n + 0), 0))) r26.2) t34_32) fun _ =>
 (bd (chk (ldN 2 (.ptr (some ((r15.2.n + 0), 0))) r25.2) t34_32) fun _ =>
 (bd (chk (ldN 2 (.ptr (some ((r15.2.n + 0), 0))) (H24.more 0)) t34_32) fun _ =>
 (bd (call 353 [t34_32, r31.1] r31.2) fun r33 =>
 (bd (arA .lss r33.1 (.int .i64 0)) fun t45_34 =>
 (some (t45_34, r33.2)))))))))))))))))))))))))))))))))))))))))))))))))
theorem circum_Small.r_e (n : Nat) (v0 v1 v2 v3 : V) (H : Heap) : circum_Small.r @bdI (callA C n) n v0 v1 v2 v3 H = E C n 282 [] (argsA 0 [v0, v1, v2, v3]) H (kR C 282) := by
  unfold circum_Small.r
  kernel_rfl
noncomputable def circum_Small.rf (bd : B3) (call : FuncId → List V → Heap → Option R) (n : Nat) (a : List V) (H : Heap) : Option R := pureA a H fun a => (match a with | [v0, v1, v2, v3] => circum_Small.r bd call n v0 v1 v2 v3 ⟨0, .nil⟩ | a => E C n 282 [] (argsA 0 a) ⟨0, .nil⟩ (kR C 282))
theorem circum_Small.rf_b (n : Nat) (a : List V) (H : Heap) : (match a with | [v0, v1, v2, v3] => circum_Small.r @bdI (callA C n) n v0 v1 v2 v3 H | a => E C n 282 [] (argsA 0 a) H (kR C 282)) = E C n 282 [] (argsA 0 a) H (kR C 282) := by
  split
  · exact circum_Small.r_e n _ _ _ _ H
  · rfl
theorem circum_Small.rf_e (n : Nat) (a : List V) (H : Heap) : circum_Small.rf @bdI (callA C n) n a H = callA C (n + 1) 282 a H := by
  unfold circum_Small.rf
  refine (congrArg (pureA a H) (funext fun a => circum_Small.rf_b n a ⟨0, .nil⟩)).trans ?_
  kernel_rfl
@[irreducible] noncomputable def cover_sheets.l0 (n m0 : Nat) (v0 v4 : V) (H : Heap) : Option R := Lp C n 283 [1, 0, 0] m0 [(0, v0), (4, v4)] H (kB 0 (kR C 283))
@[irreducible] noncomputable def cover_sheets.l1 (n m0 m1 : Nat) (v0 v2 v4 v7 : V) (H : Heap) : Option R := Lp C n 283 [1, 0, 0, 1, 1, 0, 0, 1, 1, 0, 0] m1 [(0, v0), (2, v2), (4, v4), (7, v7)] H (kB 2 (kB 1 (kC C n 283 [1, 0, 0, 1, 1, 1] (kL C n 283 [1, 0, 0] m0 (kB 0 (kR C 283))))))
noncomputable def cover_sheets.r_l1 (bd : B3) (call : FuncId → List V → Heap → Option R) (n : Nat) (s0 : V → V → Heap → Option R) (s1 : V → V → V → V → Heap → Option R) (v0 v2 v4 v7 : V) (H : Heap) : Option R :=
 (bd (arA .lss v7 (.int .i64 3)) fun t8_1 =>
 (bd (asB t8_1) fun b2 =>
 if b2 = true then
 (bd (flA [(0, 1), (1, 1)] [(.int .i64 0), (.int .i64 0)] [(0, v2), (1, v7)]) fun t13_3 =>
 (bd (callV call v0 [t13_3] H) fun r4 =>
 (bd (unA .not r4.1) fun t15_5 =>
 (bd (asB t15_5) fun b6 =>
 if b6 = true then
 (some (.tuple [], r4.2))
 else
 (bd (arA .add v7 (.int .i64 1)) fun t16_7 =>
 (s1 v0 v2 v4 t16_7 r4.2))))))
 else
 (bd (arA .add v4 (.int .i64 1)) fun t17_8 =>
 (s0 v0 t17_8 H))))
theorem cover_sheets.r_l1_e (n m0 m1 : Nat) : cover_sheets.r_l1 @bdI (callA C n) n (cover_sheets.l0 n m0) (cover_sheets.l1 n m0 m1) = cover_sheets.l1 n m0 (m1 + 1) := by
  funext v0 v2 v4 v7 H
  unfold cover_sheets.r_l1
  kernel_rfl
noncomputable def cover_sheets.r_l1_lp (bd : B3) (call : FuncId → List V → Heap → Option R) (n : Nat) (s0 : V → V → Heap → Option R) (m : Nat) : V → V → V → V → Heap → Option R := Nat.rec (motive := fun _ => V → V → V → V → Heap → Option R) (fun _ _ _ _ _ => none) (fun _ self => cover_sheets.r_l1 bd call n s0 self) m
theorem cover_sheets.r_l1_lp_e (n m0 : Nat) : cover_sheets.r_l1_lp @bdI (callA C n) n (cover_sheets.l0 n m0) = cover_sheets.l1 n m0 := by
  funext m
  induction m with
  | zero => funext v0 v2 v4 v7 H; kernel_rfl
  | succ k ih => exact (congrArg (cover_sheets.r_l1 @bdI (callA C n) n (cover_sheets.l0 n m0)) ih).trans (cover_sheets.r_l1_e n m0 k)
noncomputable def cover_sheets.r_l0 (bd : B3) (call : FuncId → List V → Heap → Option R) (n : Nat) (s0 : V → V → Heap → Option R) (v0 v4 : V) (H : Heap) : Option R :=
 (bd (arA .lss v4 (.int .i64 3)) fun t5_1 =>
 (bd (asB t5_1) fun b2 =>
 if b2 = true then
 (cover_sheets.r_l1_lp bd call n s0 n v0 v4 v4 (.int .i64 0) H)
 else
 (some (.tuple [], H))))
theorem cover_sheets.r_l0_e (n m0 : Nat) : cover_sheets.r_l0 @bdI (callA C n) n (cover_sheets.l0 n m0) = cover_sheets.l0 n (m0 + 1) := by
  funext v0 v4 H
  unfold cover_sheets.r_l0
  rewrite [cover_sheets.r_l1_lp_e]
  kernel_rfl
noncomputable def cover_sheets.r_l0_lp (bd : B3) (call : FuncId → List V → Heap → Option R) (n : Nat) (m : Nat) : V → V → Heap → Option R := Nat.rec (motive := fun _ => V → V → Heap → Option R) (fun _ _ _ => none) (fun _ self => cover_sheets.r_l0 bd call n self) m
theorem cover_sheets.r_l0_lp_e (n : Nat) : cover_sheets.r_l0_lp @bdI (callA C n) n = cover_sheets.l0 n := by
  funext m
  induction m with
  | zero => funext v0 v4 H; kernel_rfl
  | succ k ih => exact (congrArg (cover_sheets.r_l0 @bdI (callA C n) n) ih).trans (cover_sheets.r_l0_e n k)
noncomputable def cover_sheets.r (bd : B3) (call : FuncId → List V → Heap → Option R) (n : Nat) (v0 : V) (H : Heap) : Option R :=
 (cover_sheets.r_l0_lp bd call n n v0 (.int .i64 0) H)
theorem cover_sheets.r_e (n : Nat) (v0 : V) (H : Heap) : cover_sheets.r @bdI (callA C n) n v0 H = E C n 283 [] (argsA 0 [v0]) H (kR C 283) := by
  unfold cover_sheets.r
  rewrite [cover_sheets.r_l0_lp_e]
  kernel_rfl
noncomputable def cover_sheets.rf (bd : B3) (call : FuncId → List V → Heap → Option R) (n : Nat) (a : List V) (H : Heap) : Option R := (match a with | [v0] => cover_sheets.r bd call n v0 H | a => E C n 283 [] (argsA 0 a) H (kR C 283))
theorem cover_sheets.rf_b (n : Nat) (a : List V) (H : Heap) : (match a with | [v0] => cover_sheets.r @bdI (callA C n) n v0 H | a => E C n 283 [] (argsA 0 a) H (kR C 283)) = E C n 283 [] (argsA 0 a) H (kR C 283) := by
  split
  · exact cover_sheets.r_e n _ H
  · rfl
theorem cover_sheets.rf_e (n : Nat) (a : List V) (H : Heap) : cover_sheets.rf @bdI (callA C n) n a H = callA C (n + 1) 283 a H := by
  unfold cover_sheets.rf
  refine (cover_sheets.rf_b n a H).trans ?_
  kernel_rfl
noncomputable def cover_corner.r (bd : B3) (call : FuncId → List V → Heap → Option R) (n : Nat) (v0 v1 : V) (H : Heap) : Option R :=
 (bd (boxA ty_api_Off v1) fun o1 =>
 (bd (faA 0 (.ptr (some (H.n, 0)))) fun t11_2 =>
 (bd (ld1 t11_2 ((H.push o1).push (.cells [(.int .i64 0), (.int .i64 0)] ty_api_Off false))) fun t12_3 =>
 (bd (call 355 [t12_3] ((H.push o1).push (.cells [(.int .i64 0), (.int .i64 0)] ty_api_Off false))) fun r4 =>
 (bd (extA r4.1 0) fun t14_5 =>
 (bd (extA r4.1 1) fun t15_6 =>
 (bd (faA 1 (.ptr (some (H.n, 0)))) fun t17_7 =>
 (bd (ld1 t17_7 r4.2) fun t18_8 =>
 (bd (call 355 [t18_8] r4.2) fun r9 =>
 (bd (extA r9.1 0) fun t20_10 =>
 (bd (extA r9.1 1) fun t21_11 =>
 (bd (arA .mul (.int .i64 9) v0) fun t23_12 =>
 (bd (arA .mul (.int .i64 3) t14_5) fun t25_13 =>
 (bd (arA .add t23_12 t25_13) fun t26_14 =>
 (bd (arA .add t26_14 t20_10) fun t28_15 =>
 (bd (flA [(0, 1), (1, 1)] [(.int .i64 0), (.int .i64 0)] [(0, t15_6), (1, t21_11)]) fun t31_16 =>
 (bd (stA 2 (.ptr (some ((H.push o1).n, 0))) t31_16 r9.2) fun H17 =>
 (bd (ldN 2 (.ptr (some ((H.push o1).n, 0))) H17) fun t18 =>
 (some (.tuple [t28_15, t18], H17))))))))))))))))))))
theorem cover_corner.r_e (n : Nat) (v0 v1 : V) (H : Heap) : cover_corner.r @bdI (callA C n) n v0 v1 H = E C n 284 [] (argsA 0 [v0, v1]) H (kR C 284) := by
  unfold cover_corner.r
  kernel_rfl
noncomputable def cover_corner.rf (bd : B3) (call : FuncId → List V → Heap → Option R) (n : Nat) (a : List V) (H : Heap) : Option R := pureA a H fun a => (match a with | [v0, v1] => cover_corner.r bd call n v0 v1 ⟨0, .nil⟩ | a => E C n 284 [] (argsA 0 a) ⟨0, .nil⟩ (kR C 284))
theorem cover_corner.rf_b (n : Nat) (a : List V) (H : Heap) : (match a with | [v0, v1] => cover_corner.r @bdI (callA C n) n v0 v1 H | a => E C n 284 [] (argsA 0 a) H (kR C 284)) = E C n 284 [] (argsA 0 a) H (kR C 284) := by
  split
  · exact cover_corner.r_e n _ _ H
  · rfl
theorem cover_corner.rf_e (n : Nat) (a : List V) (H : Heap) : cover_corner.rf @bdI (callA C n) n a H = callA C (n + 1) 284 a H := by
  unfold cover_corner.rf
  refine (congrArg (pureA a H) (funext fun a => cover_corner.rf_b n a ⟨0, .nil⟩)).trans ?_
  kernel_rfl
noncomputable def lift_Sum.r (bd : B3) (call : FuncId → List V → Heap → Option R) (n : Nat) (v0 v1 : V) (H : Heap) : Option R :=
 (bd (boxA ty_api_Off v0) fun o1 =>
 (bd (boxA ty_api_Off v1) fun o2 =>
 (bd (faA 0 (.ptr (some (H.n, 0)))) fun t5_3 =>
 (bd (ld1 t5_3 (((H.push o1).push o2).push (.cells [(.int .i64 0), (.int .i64 0)] ty_api_Off false))) fun t6_4 =>
 (bd (faA 0 (.ptr (some ((H.push o1).n, 0)))) fun t7_5 =>
 (bd (ld1 t7_5 (((H.push o1).push o2).push (.cells [(.int .i64 0), (.int .i64 0)] ty_api_Off false))) fun t8_6 =>
 (bd (arA .add t6_4 t8_6) fun t9_7 =>
 (bd (faA 1 (.ptr (some (H.n, 0)))) fun t10_8 =>
 (bd (ld1 t10_8 (((H.push o1).push o2).push (.cells [(.int .i64 0), (.int .i64 0)] ty_api_Off false))) fun t11_9 =>
 (bd (faA 1 (.ptr (some ((H.push o1).n, 0)))) fun t12_10 =>
 (bd (ld1 t12_10 (((H.push o1).push o2).push (.cells [(.int .i64 0), (.int .i64 0)] ty_api_Off false))) fun t13_11 =>
 (bd (arA .add t11_9 t13_11) fun t14_12 =>
 (bd (flA [(0, 1), (1, 1)] [(.int .i64 0), (.int .i64 0)] [(0, t9_7), (1, t14_12)]) fun t15_13 =>
 (bd (stA 2 (.ptr (some (((H.push o1).push o2).n, 0))) t15_13 (((H.push o1).push o2).push (.cells [(.int .i64 0), (.int .i64 0)] ty_api_Off false))) fun H14 =>
 (bd (ldN 2 (.ptr (some (((H.push o1).push o2).n, 0))) H14) fun t15 =>
 (some (t15, H14)))))))))))))))))
theorem lift_Sum.r_e (n : Nat) (v0 v1 : V) (H : Heap) : lift_Sum.r @bdI (callA C n) n v0 v1 H = E C n 285 [] (argsA 0 [v0, v1]) H (kR C 285) := by
  unfold lift_Sum.r
  kernel_rfl
noncomputable def lift_Sum.rf (bd : B3) (call : FuncId → List V → Heap → Option R) (n : Nat) (a : List V) (H : Heap) : Option R := pureA a H fun a => (match a with | [v0, v1] => lift_Sum.r bd call n v0 v1 ⟨0, .nil⟩ | a => E C n 285 [] (argsA 0 a) ⟨0, .nil⟩ (kR C 285))
theorem lift_Sum.rf_b (n : Nat) (a : List V) (H : Heap) : (match a with | [v0, v1] => lift_Sum.r @bdI (callA C n) n v0 v1 H | a => E C n 285 [] (argsA 0 a) H (kR C 285)) = E C n 285 [] (argsA 0 a) H (kR C 285) := by
  split
  · exact lift_Sum.r_e n _ _ H
  · rfl
theorem lift_Sum.rf_e (n : Nat) (a : List V) (H : Heap) : lift_Sum.rf @bdI (callA C n) n a H = callA C (n + 1) 285 a H := by
  unfold lift_Sum.rf
  refine (congrArg (pureA a H) (funext fun a => lift_Sum.rf_b n a ⟨0, .nil⟩)).trans ?_
  kernel_rfl
noncomputable def pred_Orient.r (bd : B3) (call : FuncId → List V → Heap → Option R) (n : Nat) (v0 v1 v2 : V) (H : Heap) : Option R :=
 (bd (boxA ty_api_Point v0) fun o1 =>
 (bd (boxA ty_api_Point v1) fun o2 =>
 (bd (boxA ty_api_Point v2) fun o3 =>
 (bd (ldN 2 (.ptr (some (H.n, 0))) (((H.push o1).push o2).push o3)) fun t7_4 =>
 (bd (ldN 2 (.ptr (some ((H.push o1).n, 0))) (((H.push o1).push o2).push o3)) fun t8_5 =>
 (bd (ldN 2 (.ptr (some (((H.push o1).push o2).n, 0))) (((H.push o1).push o2).push o3)) fun t9_6 =>
 (bd (bSl 2 ty_api_Point [(.int .i64 0), (.int .i64 0)] 3 [(0, t7_4), (1, t8_5), (2, t9_6)]) fun o7 =>
 (bd (call 169 [(.slice ⟨some ((((H.push o1).push o2).push o3).n, 0), 3, 2, false⟩)] ((((H.push o1).push o2).push o3).push o7)) fun r8 =>
 (bd (unA .not r8.1) fun t12_9 =>
 (bd (asB t12_9) fun b10 =>
 if b10 = true then
 (some ((.int .i64 0), r8.2))
 else
 (bd (ldN 2 (.ptr (some (H.n, 0))) r8.2) fun t13_11 =>
 (bd (ldN 2 (.ptr (some ((H.push o1).n, 0))) r8.2) fun t14_12 =>
 (bd (ldN 2 (.ptr (some (((H.push o1).push o2).n, 0))) r8.2) fun t15_13 =>
 (bd (call 366 [t13_11, t14_12, t15_13] r8.2) fun r14 =>
 (some (r14.1, r14.2))))))))))))))))
theorem pred_Orient.r_e (n : Nat) (v0 v1 v2 : V) (H : Heap) : pred_Orient.r @bdI (callA C n) n v0 v1 v2 H = E C n 296 [] (argsA 0 [v0, v1, v2]) H (kR C 296) := by
  unfold pred_Orient.r
  kernel_rfl
noncomputable def pred_Orient.rf (bd : B3) (call : FuncId → List V → Heap → Option R) (n : Nat) (a : List V) (H : Heap) : Option R := pureA a H fun a => (match a with | [v0, v1, v2] => pred_Orient.r bd call n v0 v1 v2 ⟨0, .nil⟩ | a => E C n 296 [] (argsA 0 a) ⟨0, .nil⟩ (kR C 296))
theorem pred_Orient.rf_b (n : Nat) (a : List V) (H : Heap) : (match a with | [v0, v1, v2] => pred_Orient.r @bdI (callA C n) n v0 v1 v2 H | a => E C n 296 [] (argsA 0 a) H (kR C 296)) = E C n 296 [] (argsA 0 a) H (kR C 296) := by
  split
  · exact pred_Orient.r_e n _ _ _ H
  · rfl
theorem pred_Orient.rf_e (n : Nat) (a : List V) (H : Heap) : pred_Orient.rf @bdI (callA C n) n a H = callA C (n + 1) 296 a H := by
  unfold pred_Orient.rf
  refine (congrArg (pureA a H) (funext fun a => pred_Orient.rf_b n a ⟨0, .nil⟩)).trans ?_
  kernel_rfl
noncomputable def lift_Less.r (bd : B3) (call : FuncId → List V → Heap → Option R) (n : Nat) (v0 v1 : V) (H : Heap) : Option R :=
 (bd (boxA ty_api_Off v0) fun o1 =>
 (bd (boxA ty_api_Off v1) fun o2 =>
 (bd (faA 0 (.ptr (some (H.n, 0)))) fun t5_3 =>
 (bd (ld1 t5_3 (((H.push o1).push o2).push (.cells [(.int .i64 0), (.int .i64 0)] ty_api_Off false))) fun t6_4 =>
 (bd (faA 0 (.ptr (some ((H.push o1).n, 0)))) fun t7_5 =>
 (bd (ld1 t7_5 (((H.push o1).push o2).push (.cells [(.int .i64 0), (.int .i64 0)] ty_api_Off false))) fun t8_6 =>
 (bd (arA .sub t6_4 t8_6) fun t9_7 =>
 (bd (faA 1 (.ptr (some (H.n, 0)))) fun t10_8 =>
 (bd (ld1 t10_8 (((H.push o1).push o2).push (.cells [(.int .i64 0), (.int .i64 0)] ty_api_Off false))) fun t11_9 =>
 (bd (faA 1 (.ptr (some ((H.push o1).n, 0)))) fun t12_10 =>
 (bd (ld1 t12_10 (((H.push o1).push o2).push (.cells [(.int .i64 0), (.int .i64 0)] ty_api_Off false))) fun t13_11 =>
 (bd (arA .sub t11_9 t13_11) fun t14_12 =>
 (bd (flA [(0, 1), (1, 1)] [(.int .i64 0), (.int .i64 0)] [(0, t9_7), (1, t14_12)]) fun t15_13 =>
 (bd (stA 2 (.ptr (some (((H.push o1).push o2).n, 0))) t15_13 (((H.push o1).push o2).push (.cells [(.int .i64 0), (.int .i64 0)] ty_api_Off false))) fun H14 =>
 (bd (ldN 2 (.ptr (some (((H.push o1).push o2).n, 0))) H14) fun t15 =>
 (some (t15, H14)))))))))))))))))
theorem lift_Less.r_e (n : Nat) (v0 v1 : V) (H : Heap) : lift_Less.r @bdI (callA C n) n v0 v1 H = E C n 303 [] (argsA 0 [v0, v1]) H (kR C 303) := by
  unfold lift_Less.r
  kernel_rfl
noncomputable def lift_Less.rf (bd : B3) (call : FuncId → List V → Heap → Option R) (n : Nat) (a : List V) (H : Heap) : Option R := pureA a H fun a => (match a with | [v0, v1] => lift_Less.r bd call n v0 v1 ⟨0, .nil⟩ | a => E C n 303 [] (argsA 0 a) ⟨0, .nil⟩ (kR C 303))
theorem lift_Less.rf_b (n : Nat) (a : List V) (H : Heap) : (match a with | [v0, v1] => lift_Less.r @bdI (callA C n) n v0 v1 H | a => E C n 303 [] (argsA 0 a) H (kR C 303)) = E C n 303 [] (argsA 0 a) H (kR C 303) := by
  split
  · exact lift_Less.r_e n _ _ H
  · rfl
theorem lift_Less.rf_e (n : Nat) (a : List V) (H : Heap) : lift_Less.rf @bdI (callA C n) n a H = callA C (n + 1) 303 a H := by
  unfold lift_Less.rf
  refine (congrArg (pureA a H) (funext fun a => lift_Less.rf_b n a ⟨0, .nil⟩)).trans ?_
  kernel_rfl
noncomputable def wide_add.r (bd : B3) (call : FuncId → List V → Heap → Option R) (n : Nat) (v0 v1 : V) (H : Heap) : Option R :=
 (bd (boxA ty_api_Wide v0) fun o1 =>
 (bd (boxA ty_api_Wide v1) fun o2 =>
 (bd (faA 1 (.ptr (some (H.n, 0)))) fun t10_3 =>
 (bd (ld1 t10_3 (((H.push o1).push o2).push (.cells [(.int .i64 0), (.int .u64 0)] ty_api_Wide false))) fun t11_4 =>
 (bd (faA 1 (.ptr (some ((H.push o1).n, 0)))) fun t12_5 =>
 (bd (ld1 t12_5 (((H.push o1).push o2).push (.cells [(.int .i64 0), (.int .u64 0)] ty_api_Wide false))) fun t13_6 =>
 (bd (call 370 [t11_4, t13_6, (.int .u64 0)] (((H.push o1).push o2).push (.cells [(.int .i64 0), (.int .u64 0)] ty_api_Wide false))) fun r7 =>
 (bd (extA r7.1 0) fun t15_8 =>
 (bd (extA r7.1 1) fun t16_9 =>
 (bd (faA 0 (.ptr (some (H.n, 0)))) fun t18_10 =>
 (bd (ld1 t18_10 r7.2) fun t19_11 =>
 (bd (cvInt .u64 t19_11) fun t20_12 =>
 (bd (faA 0 (.ptr (some ((H.push o1).n, 0)))) fun t21_13 =>
 (bd (ld1 t21_13 r7.2) fun t22_14 =>
 (bd (cvInt .u64 t22_14) fun t23_15 =>
 (bd (call 370 [t20_12, t23_15, t16_9] r7.2) fun r16 =>
 (bd (extA r16.1 0) fun t26_17 =>
 (bd (extA r16.1 1) fun t27_18 =>
 (bd (cvInt .i64 t26_17) fun t29_19 =>
 (bd (flA [(0, 1), (1, 1)] [(.int .i64 0), (.int .u64 0)] [(0, t29_19), (1, t15_8)]) fun t31_20 =>
 (bd (stA 2 (.ptr (some (((H.push o1).push o2).n, 0))) t31_20 r16.2) fun H21 =>
 (bd (ldN 2 (.ptr (some (((H.push o1).push o2).n, 0))) H21) fun t22 =>
 (some (t22, H21))))))))))))))))))))))))
theorem wide_add.r_e (n : Nat) (v0 v1 : V) (H : Heap) : wide_add.r @bdI (callA C n) n v0 v1 H = E C n 307 [] (argsA 0 [v0, v1]) H (kR C 307) := by
  unfold wide_add.r
  kernel_rfl
noncomputable def wide_add.rf (bd : B3) (call : FuncId → List V → Heap → Option R) (n : Nat) (a : List V) (H : Heap) : Option R := pureA a H fun a => (match a with | [v0, v1] => wide_add.r bd call n v0 v1 ⟨0, .nil⟩ | a => E C n 307 [] (argsA 0 a) ⟨0, .nil⟩ (kR C 307))
theorem wide_add.rf_b (n : Nat) (a : List V) (H : Heap) : (match a with | [v0, v1] => wide_add.r @bdI (callA C n) n v0 v1 H | a => E C n 307 [] (argsA 0 a) H (kR C 307)) = E C n 307 [] (argsA 0 a) H (kR C 307) := by
  split
  · exact wide_add.r_e n _ _ H
  · rfl
theorem wide_add.rf_e (n : Nat) (a : List V) (H : Heap) : wide_add.rf @bdI (callA C n) n a H = callA C (n + 1) 307 a H := by
  unfold wide_add.rf
  refine (congrArg (pureA a H) (funext fun a => wide_add.rf_b n a ⟨0, .nil⟩)).trans ?_
  kernel_rfl
noncomputable def math_bits_Mul64.r (bd : B3) (call : FuncId → List V → Heap → Option R) (n : Nat) (v0 v1 : V) (H : Heap) : Option R :=
 (bd (arA .and v0 (.int .u64 4294967295)) fun t15_1 =>
 (bd (shA .shr v0 (.int .u64 32)) fun t17_2 =>
 (bd (arA .and v1 (.int .u64 4294967295)) fun t19_3 =>
 (bd (shA .shr v1 (.int .u64 32)) fun t21_4 =>
 (bd (arA .mul t15_1 t19_3) fun t24_5 =>
 (bd (arA .mul t17_2 t19_3) fun t27_6 =>
 (bd (shA .shr t24_5 (.int .u64 32)) fun t29_7 =>
 (bd (arA .add t27_6 t29_7) fun t30_8 =>
 (bd (arA .and t30_8 (.int .u64 4294967295)) fun t32_9 =>
 (bd (shA .shr t30_8 (.int .u64 32)) fun t34_10 =>
 (bd (arA .mul t15_1 t21_4) fun t38_11 =>
 (bd (arA .add t32_9 t38_11) fun t39_12 =>
 (bd (arA .mul t17_2 t21_4) fun t42_13 =>
 (bd (arA .add t42_13 t34_10) fun t44_14 =>
 (bd (shA .shr t39_12 (.int .u64 32)) fun t46_15 =>
 (bd (arA .add t44_14 t46_15) fun t47_16 =>
 (bd (arA .mul v0 v1) fun t50_17 =>
 (some (.tuple [t47_16, t50_17], H)))))))))))))))))))
theorem math_bits_Mul64.r_e (n : Nat) (v0 v1 : V) (H : Heap) : math_bits_Mul64.r @bdI (callA C n) n v0 v1 H = E C n 308 [] (argsA 0 [v0, v1]) H (kR C 308) := by
  unfold math_bits_Mul64.r
  kernel_rfl
noncomputable def math_bits_Mul64.rf (bd : B3) (call : FuncId → List V → Heap → Option R) (n : Nat) (a : List V) (H : Heap) : Option R := (match a with | [v0, v1] => math_bits_Mul64.r bd call n v0 v1 H | a => E C n 308 [] (argsA 0 a) H (kR C 308))
theorem math_bits_Mul64.rf_b (n : Nat) (a : List V) (H : Heap) : (match a with | [v0, v1] => math_bits_Mul64.r @bdI (callA C n) n v0 v1 H | a => E C n 308 [] (argsA 0 a) H (kR C 308)) = E C n 308 [] (argsA 0 a) H (kR C 308) := by
  split
  · exact math_bits_Mul64.r_e n _ _ H
  · rfl
theorem math_bits_Mul64.rf_e (n : Nat) (a : List V) (H : Heap) : math_bits_Mul64.rf @bdI (callA C n) n a H = callA C (n + 1) 308 a H := by
  unfold math_bits_Mul64.rf
  refine (math_bits_Mul64.rf_b n a H).trans ?_
  kernel_rfl
noncomputable def whole_Of.r (bd : B3) (call : FuncId → List V → Heap → Option R) (n : Nat) (v0 : V) (H : Heap) : Option R :=
 (bd (arA .lss v0 (.int .i64 0)) fun t4_1 =>
 (bd (asB t4_1) fun b2 =>
 if b2 = true then
 (bd (cvInt .u64 v0) fun t6_3 =>
 (bd (unA .neg t6_3) fun t7_4 =>
 (bd (call 371 [t7_4] (H.push (.cells [(.bool false), (.slice ⟨none, 0, 0, false⟩)] ty_api_Int false))) fun r5 =>
 (bd (call 327 [(.bool true), r5.1] r5.2) fun r6 =>
 (bd (stA 2 (.ptr (some (H.n, 0))) r6.1 r6.2) fun H7 =>
 (bd (ldN 2 (.ptr (some (H.n, 0))) H7) fun t8 =>
 (frzR t8 H7)))))))
 else
 (bd (cvInt .u64 v0) fun t11_9 =>
 (bd (call 371 [t11_9] (H.push (.cells [(.bool false), (.slice ⟨none, 0, 0, false⟩)] ty_api_Int false))) fun r10 =>
 (bd (call 327 [(.bool false), r10.1] r10.2) fun r11 =>
 (bd (stA 2 (.ptr (some (H.n, 0))) r11.1 r11.2) fun H12 =>
 (bd (ldN 2 (.ptr (some (H.n, 0))) H12) fun t13 =>
 (frzR t13 H12))))))))
theorem whole_Of.r_e (n : Nat) (v0 : V) (H : Heap) : whole_Of.r @bdI (callA C n) n v0 H = E C n 310 [] (argsA 0 [v0]) H (kR C 310) := by
  unfold whole_Of.r
  kernel_rfl
noncomputable def whole_Of.rf (bd : B3) (call : FuncId → List V → Heap → Option R) (n : Nat) (a : List V) (H : Heap) : Option R := pureA a H fun a => (match a with | [v0] => whole_Of.r bd call n v0 ⟨0, .nil⟩ | a => E C n 310 [] (argsA 0 a) ⟨0, .nil⟩ (kR C 310))
theorem whole_Of.rf_b (n : Nat) (a : List V) (H : Heap) : (match a with | [v0] => whole_Of.r @bdI (callA C n) n v0 H | a => E C n 310 [] (argsA 0 a) H (kR C 310)) = E C n 310 [] (argsA 0 a) H (kR C 310) := by
  split
  · exact whole_Of.r_e n _ H
  · rfl
theorem whole_Of.rf_e (n : Nat) (a : List V) (H : Heap) : whole_Of.rf @bdI (callA C n) n a H = callA C (n + 1) 310 a H := by
  unfold whole_Of.rf
  refine (congrArg (pureA a H) (funext fun a => whole_Of.rf_b n a ⟨0, .nil⟩)).trans ?_
  kernel_rfl
@[irreducible] noncomputable def whole_OfQuad.p0 (n : Nat) (v1 v2 v3 : V) (H : Heap) : Option R := E C n 311 [1, 1, 1] [(1, v1), (2, v2), (3, v3)] H (kR C 311)
@[irreducible] noncomputable def whole_OfQuad.l1 (n m0 : Nat) (v2 v3 v4 v13 v14 : V) (H : Heap) : Option R := Lp C n 311 [1, 1, 1, 1, 0, 1, 0, 0] m0 [(2, v2), (3, v3), (4, v4), (13, v13), (14, v14)] H (kB 0 (kC C n 311 [1, 1, 1, 1, 1] (kR C 311)))
@[irreducible] noncomputable def whole_OfQuad.p2 (n : Nat) (v2 v3 v4 : V) (H : Heap) : Option R := E C n 311 [1, 1, 1, 1, 1] [(2, v2), (3, v3), (4, v4)] H (kR C 311)
noncomputable def whole_OfQuad.r_p2 (bd : B3) (call : FuncId → List V → Heap → Option R) (n : Nat) (v2 v3 v4 : V) (H : Heap) : Option R :=
 (bd (call 327 [v3, v4] H) fun r1 =>
 (bd (stA 2 v2 r1.1 r1.2) fun H2 =>
 (bd (ldN 2 v2 H2) fun t3 =>
 (frzR t3 H2))))
theorem whole_OfQuad.r_p2_e (n : Nat) : whole_OfQuad.r_p2 @bdI (callA C n) n = whole_OfQuad.p2 n := by
  funext v2 v3 v4 H
  unfold whole_OfQuad.r_p2
  kernel_rfl
noncomputable def whole_OfQuad.r_l1 (bd : B3) (call : FuncId → List V → Heap → Option R) (n : Nat) (s0 : V → V → V → V → V → Heap → Option R) (v2 v3 v4 v13 v14 : V) (H : Heap) : Option R :=
 (bd (arA .lss v14 (.int .i64 4)) fun t15_1 =>
 (bd (asB t15_1) fun b2 =>
 if b2 = true then
 (bd (ix1 4 v13 v14) fun t16_3 =>
 (bd (cvInt .u32 t16_3) fun t19_4 =>
 (bd (shA .shr t16_3 (.int .u64 32)) fun t21_5 =>
 (bd (cvInt .u32 t21_5) fun t22_6 =>
 (bd (bSl 1 ty_uint32 [(.int .u32 0)] 2 [(0, t19_4), (1, t22_6)]) fun o7 =>
 (bd (appA 1 4 ty_uint32 v4 (.slice ⟨some (H.n, 0), 2, 1, false⟩) (H.push o7)) fun p8 =>
 (bd (arA .add v14 (.int .i64 1)) fun t25_9 =>
 (s0 v2 v3 p8.1 v13 t25_9 p8.2))))))))
 else
 (whole_OfQuad.r_p2 bd call n v2 v3 v4 H)))
theorem whole_OfQuad.r_l1_e (n m0 : Nat) : whole_OfQuad.r_l1 @bdI (callA C n) n (whole_OfQuad.l1 n m0) = whole_OfQuad.l1 n (m0 + 1) := by
  funext v2 v3 v4 v13 v14 H
  unfold whole_OfQuad.r_l1
  rewrite [whole_OfQuad.r_p2_e]
  kernel_rfl
noncomputable def whole_OfQuad.r_l1_lp (bd : B3) (call : FuncId → List V → Heap → Option R) (n : Nat) (m : Nat) : V → V → V → V → V → Heap → Option R := Nat.rec (motive := fun _ => V → V → V → V → V → Heap → Option R) (fun _ _ _ _ _ _ => none) (fun _ self => whole_OfQuad.r_l1 bd call n self) m
theorem whole_OfQuad.r_l1_lp_e (n : Nat) : whole_OfQuad.r_l1_lp @bdI (callA C n) n = whole_OfQuad.l1 n := by
  funext m
  induction m with
  | zero => funext v2 v3 v4 v13 v14 H; kernel_rfl
  | succ k ih => exact (congrArg (whole_OfQuad.r_l1 @bdI (callA C n) n) ih).trans (whole_OfQuad.r_l1_e n k)
noncomputable def whole_OfQuad.r_p0 (bd : B3) (call : FuncId → List V → Heap → Option R) (n : Nat) (v1 v2 v3 : V) (H : Heap) : Option R :=
 (bd (ldN 4 v1 H) fun t13_1 =>
 (whole_OfQuad.r_l1_lp bd call n n v2 v3 (.slice ⟨none, 0, 0, false⟩) t13_1 (.int .i64 0) H))
theorem whole_OfQuad.r_p0_e (n : Nat) : whole_OfQuad.r_p0 @bdI (callA C n) n = whole_OfQuad.p0 n := by
  funext v1 v2 v3 H
  unfold whole_OfQuad.r_p0
  rewrite [whole_OfQuad.r_l1_lp_e]
  kernel_rfl
noncomputable def whole_OfQuad.r (bd : B3) (call : FuncId → List V → Heap → Option R) (n : Nat) (v0 : V) (H : Heap) : Option R :=
 (bd (boxA ty_api_Quad v0) fun o1 =>
 (bd (ldN 4 (.ptr (some (H.n, 0))) ((H.push o1).push (.cells [(.bool false), (.slice ⟨none, 0, 0, false⟩)] ty_api_Int false))) fun t7_2 =>
 (bd (call 372 [t7_2] ((H.push o1).push (.cells [(.bool false), (.slice ⟨none, 0, 0, false⟩)] ty_api_Int false))) fun r3 =>
 (bd (arA .lss r3.1 (.int .i64 0)) fun t9_4 =>
 (bd (asB t9_4) fun b5 =>
 if b5 = true then
 (bd (ldN 4 (.ptr (some (H.n, 0))) r3.2) fun t11_6 =>
 (bd (call 373 [t11_6] r3.2) fun r7 =>
 (bd (stA 4 (.ptr (some (H.n, 0))) r7.1 r7.2) fun H8 =>
 (whole_OfQuad.r_p0 bd call n (.ptr (some (H.n, 0))) (.ptr (some ((H.push o1).n, 0))) t9_4 H8))))
 else
 (whole_OfQuad.r_p0 bd call n (.ptr (some (H.n, 0))) (.ptr (some ((H.push o1).n, 0))) t9_4 r3.2))))))
theorem whole_OfQuad.r_e (n : Nat) (v0 : V) (H : Heap) : whole_OfQuad.r @bdI (callA C n) n v0 H = E C n 311 [] (argsA 0 [v0]) H (kR C 311) := by
  unfold whole_OfQuad.r
  rewrite [whole_OfQuad.r_p0_e]
  kernel_rfl
noncomputable def whole_OfQuad.rf (bd : B3) (call : FuncId → List V → Heap → Option R) (n : Nat) (a : List V) (H : Heap) : Option R := pureA a H fun a => (match a with | [v0] => whole_OfQuad.r bd call n v0 ⟨0, .nil⟩ | a => E C n 311 [] (argsA 0 a) ⟨0, .nil⟩ (kR C 311))
theorem whole_OfQuad.rf_b (n : Nat) (a : List V) (H : Heap) : (match a with | [v0] => whole_OfQuad.r @bdI (callA C n) n v0 H | a => E C n 311 [] (argsA 0 a) H (kR C 311)) = E C n 311 [] (argsA 0 a) H (kR C 311) := by
  split
  · exact whole_OfQuad.r_e n _ H
  · rfl
theorem whole_OfQuad.rf_e (n : Nat) (a : List V) (H : Heap) : whole_OfQuad.rf @bdI (callA C n) n a H = callA C (n + 1) 311 a H := by
  unfold whole_OfQuad.rf
  refine (congrArg (pureA a H) (funext fun a => whole_OfQuad.rf_b n a ⟨0, .nil⟩)).trans ?_
  kernel_rfl
noncomputable def quad_Of.r (bd : B3) (call : FuncId → List V → Heap → Option R) (n : Nat) (v0 : V) (H : Heap) : Option R :=
 (bd (boxA ty_api_Wide v0) fun o1 =>
 (bd (ldN 2 (.ptr (some (H.n, 0))) ((H.push o1).push (.cells [(.int .u64 0), (.int .u64 0), (.int .u64 0), (.int .u64 0)] ty_api_Quad false))) fun t3_2 =>
 (bd (call 374 [t3_2] ((H.push o1).push (.cells [(.int .u64 0), (.int .u64 0), (.int .u64 0), (.int .u64 0)] ty_api_Quad false))) fun r3 =>
 (bd (stA 4 (.ptr (some ((H.push o1).n, 0))) r3.1 r3.2) fun H4 =>
 (bd (ldN 4 (.ptr (some ((H.push o1).n, 0))) H4) fun t5 =>
 (some (t5, H4)))))))
theorem quad_Of.r_e (n : Nat) (v0 : V) (H : Heap) : quad_Of.r @bdI (callA C n) n v0 H = E C n 312 [] (argsA 0 [v0]) H (kR C 312) := by
  unfold quad_Of.r
  kernel_rfl
noncomputable def quad_Of.rf (bd : B3) (call : FuncId → List V → Heap → Option R) (n : Nat) (a : List V) (H : Heap) : Option R := pureA a H fun a => (match a with | [v0] => quad_Of.r bd call n v0 ⟨0, .nil⟩ | a => E C n 312 [] (argsA 0 a) ⟨0, .nil⟩ (kR C 312))
theorem quad_Of.rf_b (n : Nat) (a : List V) (H : Heap) : (match a with | [v0] => quad_Of.r @bdI (callA C n) n v0 H | a => E C n 312 [] (argsA 0 a) H (kR C 312)) = E C n 312 [] (argsA 0 a) H (kR C 312) := by
  split
  · exact quad_Of.r_e n _ H
  · rfl
theorem quad_Of.rf_e (n : Nat) (a : List V) (H : Heap) : quad_Of.rf @bdI (callA C n) n a H = callA C (n + 1) 312 a H := by
  unfold quad_Of.rf
  refine (congrArg (pureA a H) (funext fun a => quad_Of.rf_b n a ⟨0, .nil⟩)).trans ?_
  kernel_rfl
noncomputable def pred_across.r (bd : B3) (call : FuncId → List V → Heap → Option R) (n : Nat) (v0 v1 : V) (H : Heap) : Option R :=
 (bd (boxA ty_api_Point v0) fun o1 =>
 (bd (boxA ty_api_Point v1) fun o2 =>
 (bd (faA 0 (.ptr (some (H.n, 0)))) fun t5_3 =>
 (bd (ld1 t5_3 ((((H.push o1).push o2).push (.cells [(.int .i64 0), (.int .u64 0)] ty_api_Wide false)).more 0)) fun t6_4 =>
 (bd (faA 1 (.ptr (some ((H.push o1).n, 0)))) fun t7_5 =>
 (bd (ld1 t7_5 ((((H.push o1).push o2).push (.cells [(.int .i64 0), (.int .u64 0)] ty_api_Wide false)).more 0)) fun t8_6 =>
 (bd (call 242 [t6_4, t8_6] ((((H.push o1).push o2).push (.cells [(.int .i64 0), (.int .u64 0)] ty_api_Wide false)).more 0)) fun r7 =>
 (bd (faA 1 (.ptr (some (H.n, 0)))) fun t10_8 =>
 (bd (ld1 t10_8 r7.2) fun t11_9 =>
 (bd (chk (ld1 t10_8 ((((H.push o1).push o2).push (.cells [(.int .i64 0), (.int .u64 0)] ty_api_Wide false)).more 0)) t11_9) fun _ =>
 (bd (faA 0 (.ptr (some ((H.push o1).n, 0)))) fun t12_10 =>
 (bd (ld1 t12_10 r7.2) fun t13_11 =>
 (bd (chk (ld1 t12_10 ((((H.push o1).push o2).push (.cells [(.int .i64 0), (.int .u64 0)] ty_api_Wide false)).more 0)) t13_11) fun _ =>
 (bd (call 242 [t11_9, t13_11] r7.2) fun r12 =>
 (bd (call 375 [r7.1, r12.1] r12.2) fun r13 =>
 (bd (stA 2 (.ptr (some (((H.push o1).push o2).n, 0))) r13.1 r13.2) fun H14 =>
 (bd (ldN 2 (.ptr (some (((H.push o1).push o2).n, 0))) H14) fun t15 =>
 (some (t15, H14)))))))))))))))))))
theorem pred_across.r_e (n : Nat) (v0 v1 : V) (H : Heap) : pred_across.r @bdI (callA C n) n v0 v1 H = E C n 313 [] (argsA 0 [v0, v1]) H (kR C 313) := by
  unfold pred_across.r
  kernel_rfl
noncomputable def pred_across.rf (bd : B3) (call : FuncId → List V → Heap → Option R) (n : Nat) (a : List V) (H : Heap) : Option R := pureA a H fun a => (match a with | [v0, v1] => pred_across.r bd call n v0 v1 ⟨0, .nil⟩ | a => E C n 313 [] (argsA 0 a) ⟨0, .nil⟩ (kR C 313))
theorem pred_across.rf_b (n : Nat) (a : List V) (H : Heap) : (match a with | [v0, v1] => pred_across.r @bdI (callA C n) n v0 v1 H | a => E C n 313 [] (argsA 0 a) H (kR C 313)) = E C n 313 [] (argsA 0 a) H (kR C 313) := by
  split
  · exact pred_across.r_e n _ _ H
  · rfl
theorem pred_across.rf_e (n : Nat) (a : List V) (H : Heap) : pred_across.rf @bdI (callA C n) n a H = callA C (n + 1) 313 a H := by
  unfold pred_across.rf
  refine (congrArg (pureA a H) (funext fun a => pred_across.rf_b n a ⟨0, .nil⟩)).trans ?_
  kernel_rfl
noncomputable def whole_Mul.r (bd : B3) (call : FuncId → List V → Heap → Option R) (n : Nat) (v0 v1 : V) (H : Heap) : Option R :=
 (bd (boxA ty_api_Int v0) fun o1 =>
 (bd (boxA ty_api_Int v1) fun o2 =>
 (bd (faA 1 (.ptr (some (H.n, 0)))) fun t10_3 =>
 (bd (ld1 t10_3 ((((H.push o1).push o2).push (.cells [(.bool false), (.slice ⟨none, 0, 0, false⟩)] ty_api_Int false)).more 0)) fun t11_4 =>
 (bd (faA 1 (.ptr (some ((H.push o1).n, 0)))) fun t12_5 =>
 (bd (ld1 t12_5 ((((H.push o1).push o2).push (.cells [(.bool false), (.slice ⟨none, 0, 0, false⟩)] ty_api_Int false)).more 0)) fun t13_6 =>
 (bd (call 379 [t11_4, t13_6] ((((H.push o1).push o2).push (.cells [(.bool false), (.slice ⟨none, 0, 0, false⟩)] ty_api_Int false)).more 0)) fun r7 =>
 (bd (faA 0 (.ptr (some (H.n, 0)))) fun t5_8 =>
 (bd (ld1 t5_8 r7.2) fun t6_9 =>
 (bd (chk (ld1 t5_8 ((((H.push o1).push o2).push (.cells [(.bool false), (.slice ⟨none, 0, 0, false⟩)] ty_api_Int false)).more 0)) t6_9) fun _ =>
 (bd (faA 0 (.ptr (some ((H.push o1).n, 0)))) fun t7_10 =>
 (bd (ld1 t7_10 r7.2) fun t8_11 =>
 (bd (chk (ld1 t7_10 ((((H.push o1).push o2).push (.cells [(.bool false), (.slice ⟨none, 0, 0, false⟩)] ty_api_Int false)).more 0)) t8_11) fun _ =>
 (bd (neqA P ty_bool t6_9 t8_11) fun t9_12 =>
 (bd (call 327 [t9_12, r7.1] r7.2) fun r13 =>
 (bd (stA 2 (.ptr (some (((H.push o1).push o2).n, 0))) r13.1 r13.2) fun H14 =>
 (bd (ldN 2 (.ptr (some (((H.push o1).push o2).n, 0))) H14) fun t15 =>
 (frzR t15 H14))))))))))))))))))
theorem whole_Mul.r_e (n : Nat) (v0 v1 : V) (H : Heap) : whole_Mul.r @bdI (callA C n) n v0 v1 H = E C n 316 [] (argsA 0 [v0, v1]) H (kR C 316) := by
  unfold whole_Mul.r
  kernel_rfl
noncomputable def whole_Mul.rf (bd : B3) (call : FuncId → List V → Heap → Option R) (n : Nat) (a : List V) (H : Heap) : Option R := pureA a H fun a => (match a with | [v0, v1] => whole_Mul.r bd call n v0 v1 ⟨0, .nil⟩ | a => E C n 316 [] (argsA 0 a) ⟨0, .nil⟩ (kR C 316))
theorem whole_Mul.rf_b (n : Nat) (a : List V) (H : Heap) : (match a with | [v0, v1] => whole_Mul.r @bdI (callA C n) n v0 v1 H | a => E C n 316 [] (argsA 0 a) H (kR C 316)) = E C n 316 [] (argsA 0 a) H (kR C 316) := by
  split
  · exact whole_Mul.r_e n _ _ H
  · rfl
theorem whole_Mul.rf_e (n : Nat) (a : List V) (H : Heap) : whole_Mul.rf @bdI (callA C n) n a H = callA C (n + 1) 316 a H := by
  unfold whole_Mul.rf
  refine (congrArg (pureA a H) (funext fun a => whole_Mul.rf_b n a ⟨0, .nil⟩)).trans ?_
  kernel_rfl
noncomputable def nat_Bits.r (bd : B3) (call : FuncId → List V → Heap → Option R) (n : Nat) (v0 : V) (H : Heap) : Option R :=
 (bd (call 384 [v0] H) fun r1 =>
 (some (r1.1, r1.2)))
theorem nat_Bits.r_e (n : Nat) (v0 : V) (H : Heap) : nat_Bits.r @bdI (callA C n) n v0 H = E C n 322 [] (argsA 0 [v0]) H (kR C 322) := by
  unfold nat_Bits.r
  kernel_rfl
noncomputable def nat_Bits.rf (bd : B3) (call : FuncId → List V → Heap → Option R) (n : Nat) (a : List V) (H : Heap) : Option R := pureA a H fun a => (match a with | [v0] => nat_Bits.r bd call n v0 ⟨0, .nil⟩ | a => E C n 322 [] (argsA 0 a) ⟨0, .nil⟩ (kR C 322))
theorem nat_Bits.rf_b (n : Nat) (a : List V) (H : Heap) : (match a with | [v0] => nat_Bits.r @bdI (callA C n) n v0 H | a => E C n 322 [] (argsA 0 a) H (kR C 322)) = E C n 322 [] (argsA 0 a) H (kR C 322) := by
  split
  · exact nat_Bits.r_e n _ H
  · rfl
theorem nat_Bits.rf_e (n : Nat) (a : List V) (H : Heap) : nat_Bits.rf @bdI (callA C n) n a H = callA C (n + 1) 322 a H := by
  unfold nat_Bits.rf
  refine (congrArg (pureA a H) (funext fun a => nat_Bits.rf_b n a ⟨0, .nil⟩)).trans ?_
  kernel_rfl
@[irreducible] noncomputable def nat_trim.l0 (n m0 : Nat) (v0 : V) (H : Heap) : Option R := Lp C n 323 [1, 0, 0, 0] m0 [(0, v0)] H (kB 0 (kC C n 323 [1, 1] (kR C 323)))
noncomputable def nat_trim.r_l0 (bd : B3) (call : FuncId → List V → Heap → Option R) (n : Nat) (s0 : V → Heap → Option R) (v0 : V) (H : Heap) : Option R :=
 (bd (lenSl v0) fun t4_1 =>
 (bd (arA .gtr t4_1 (.int .i64 0)) fun t5_2 =>
 (bd (asB t5_2) fun b3 =>
 if b3 = true then
 (bd (lenSl v0) fun t9_4 =>
 (bd (arA .sub t9_4 (.int .i64 1)) fun t10_5 =>
 (bd (idxS 1 v0 t10_5) fun t11_6 =>
 (bd (ld1 t11_6 H) fun t12_7 =>
 (bd (arA .eql t12_7 (.int .u32 0)) fun t13_8 =>
 (bd (asB t13_8) fun b9 =>
 if b9 = true then
 (bd (lenSl v0) fun t17_10 =>
 (bd (arA .sub t17_10 (.int .i64 1)) fun t18_11 =>
 (bd (slSl 1 v0 none (some t18_11)) fun t19_12 =>
 (s0 t19_12 H))))
 else
 (frzR v0 H)))))))
 else
 (frzR v0 H))))
theorem nat_trim.r_l0_e (n m0 : Nat) : nat_trim.r_l0 @bdI (callA C n) n (nat_trim.l0 n m0) = nat_trim.l0 n (m0 + 1) := by
  funext v0 H
  unfold nat_trim.r_l0
  kernel_rfl
noncomputable def nat_trim.r_l0_lp (bd : B3) (call : FuncId → List V → Heap → Option R) (n : Nat) (m : Nat) : V → Heap → Option R := Nat.rec (motive := fun _ => V → Heap → Option R) (fun _ _ => none) (fun _ self => nat_trim.r_l0 bd call n self) m
theorem nat_trim.r_l0_lp_e (n : Nat) : nat_trim.r_l0_lp @bdI (callA C n) n = nat_trim.l0 n := by
  funext m
  induction m with
  | zero => funext v0 H; kernel_rfl
  | succ k ih => exact (congrArg (nat_trim.r_l0 @bdI (callA C n) n) ih).trans (nat_trim.r_l0_e n k)
noncomputable def nat_trim.r (bd : B3) (call : FuncId → List V → Heap → Option R) (n : Nat) (v0 : V) (H : Heap) : Option R :=
 (nat_trim.r_l0_lp bd call n n v0 H)
theorem nat_trim.r_e (n : Nat) (v0 : V) (H : Heap) : nat_trim.r @bdI (callA C n) n v0 H = E C n 323 [] (argsA 0 [v0]) H (kR C 323) := by
  unfold nat_trim.r
  rewrite [nat_trim.r_l0_lp_e]
  kernel_rfl
noncomputable def nat_trim.rf (bd : B3) (call : FuncId → List V → Heap → Option R) (n : Nat) (a : List V) (H : Heap) : Option R := pureA a H fun a => (match a with | [v0] => nat_trim.r bd call n v0 ⟨0, .nil⟩ | a => E C n 323 [] (argsA 0 a) ⟨0, .nil⟩ (kR C 323))
theorem nat_trim.rf_b (n : Nat) (a : List V) (H : Heap) : (match a with | [v0] => nat_trim.r @bdI (callA C n) n v0 H | a => E C n 323 [] (argsA 0 a) H (kR C 323)) = E C n 323 [] (argsA 0 a) H (kR C 323) := by
  split
  · exact nat_trim.r_e n _ H
  · rfl
theorem nat_trim.rf_e (n : Nat) (a : List V) (H : Heap) : nat_trim.rf @bdI (callA C n) n a H = callA C (n + 1) 323 a H := by
  unfold nat_trim.rf
  refine (congrArg (pureA a H) (funext fun a => nat_trim.rf_b n a ⟨0, .nil⟩)).trans ?_
  kernel_rfl
end Go.AM.L
end
section
set_option linter.unusedVariables false
set_option linter.unusedSimpArgs false
set_option maxRecDepth 1000000
set_option linter.unusedVariables false
namespace Go.AM.L
noncomputable def slices_Clone_api_Nat_uint32.r (bd : B3) (call : FuncId → List V → Heap → Option R) (n : Nat) (v0 : V) (H : Heap) : Option R :=
 (bd (eqlA P ty_api_Nat v0 (.slice ⟨none, 0, 0, false⟩)) fun t4_1 =>
 (bd (asB t4_1) fun b2 =>
 if b2 = true then
 (some ((.slice ⟨none, 0, 0, false⟩), H))
 else
 (bd (bSl 1 ty_uint32 [(.int .u32 0)] 0 []) fun o3 =>
 (bd (appA 1 4 ty_uint32 (.slice ⟨some (H.n, 0), 0, 1, false⟩) v0 (H.push o3)) fun p4 =>
 (some (p4.1, p4.2))))))
theorem slices_Clone_api_Nat_uint32.r_e (n : Nat) (v0 : V) (H : Heap) : slices_Clone_api_Nat_uint32.r @bdI (callA C n) n v0 H = E C n 324 [] (argsA 0 [v0]) H (kR C 324) := by
  unfold slices_Clone_api_Nat_uint32.r
  kernel_rfl
noncomputable def slices_Clone_api_Nat_uint32.rf (bd : B3) (call : FuncId → List V → Heap → Option R) (n : Nat) (a : List V) (H : Heap) : Option R := (match a with | [v0] => slices_Clone_api_Nat_uint32.r bd call n v0 H | a => E C n 324 [] (argsA 0 a) H (kR C 324))
theorem slices_Clone_api_Nat_uint32.rf_b (n : Nat) (a : List V) (H : Heap) : (match a with | [v0] => slices_Clone_api_Nat_uint32.r @bdI (callA C n) n v0 H | a => E C n 324 [] (argsA 0 a) H (kR C 324)) = E C n 324 [] (argsA 0 a) H (kR C 324) := by
  split
  · exact slices_Clone_api_Nat_uint32.r_e n _ H
  · rfl
theorem slices_Clone_api_Nat_uint32.rf_e (n : Nat) (a : List V) (H : Heap) : slices_Clone_api_Nat_uint32.rf @bdI (callA C n) n a H = callA C (n + 1) 324 a H := by
  unfold slices_Clone_api_Nat_uint32.rf
  refine (slices_Clone_api_Nat_uint32.rf_b n a H).trans ?_
  kernel_rfl
noncomputable def whole_norm.r (bd : B3) (call : FuncId → List V → Heap → Option R) (n : Nat) (v0 v1 : V) (H : Heap) : Option R :=
 (bd (call 266 [v1] (H.push (.cells [(.bool false), (.slice ⟨none, 0, 0, false⟩)] ty_api_Int false))) fun r1 =>
 (bd (asB v0) fun b2 =>
 if b2 = true then
 (bd (lenSl r1.1) fun t10_3 =>
 (bd (arA .gtr t10_3 (.int .i64 0)) fun t11_4 =>
 (bd (flA [(0, 1), (1, 1)] [(.bool false), (.slice ⟨none, 0, 0, false⟩)] [(0, t11_4), (1, r1.1)]) fun t14_5 =>
 (bd (stA 2 (.ptr (some (H.n, 0))) t14_5 r1.2) fun H6 =>
 (bd (ldN 2 (.ptr (some (H.n, 0))) H6) fun t7 =>
 (frzR t7 H6))))))
 else
 (bd (flA [(0, 1), (1, 1)] [(.bool false), (.slice ⟨none, 0, 0, false⟩)] [(0, (.bool false)), (1, r1.1)]) fun t14_8 =>
 (bd (stA 2 (.ptr (some (H.n, 0))) t14_8 r1.2) fun H9 =>
 (bd (ldN 2 (.ptr (some (H.n, 0))) H9) fun t10 =>
 (frzR t10 H9))))))
theorem whole_norm.r_e (n : Nat) (v0 v1 : V) (H : Heap) : whole_norm.r @bdI (callA C n) n v0 v1 H = E C n 327 [] (argsA 0 [v0, v1]) H (kR C 327) := by
  unfold whole_norm.r
  kernel_rfl
noncomputable def whole_norm.rf (bd : B3) (call : FuncId → List V → Heap → Option R) (n : Nat) (a : List V) (H : Heap) : Option R := pureA a H fun a => (match a with | [v0, v1] => whole_norm.r bd call n v0 v1 ⟨0, .nil⟩ | a => E C n 327 [] (argsA 0 a) ⟨0, .nil⟩ (kR C 327))
theorem whole_norm.rf_b (n : Nat) (a : List V) (H : Heap) : (match a with | [v0, v1] => whole_norm.r @bdI (callA C n) n v0 v1 H | a => E C n 327 [] (argsA 0 a) H (kR C 327)) = E C n 327 [] (argsA 0 a) H (kR C 327) := by
  split
  · exact whole_norm.r_e n _ _ H
  · rfl
theorem whole_norm.rf_e (n : Nat) (a : List V) (H : Heap) : whole_norm.rf @bdI (callA C n) n a H = callA C (n + 1) 327 a H := by
  unfold whole_norm.rf
  refine (congrArg (pureA a H) (funext fun a => whole_norm.rf_b n a ⟨0, .nil⟩)).trans ?_
  kernel_rfl
noncomputable def mesh_Mesh_Corner.r (bd : B3) (call : FuncId → List V → Heap → Option R) (n : Nat) (v0 v1 v2 : V) (H : Heap) : Option R :=
 (bd (call 386 [v0, v1] (H.push (.cells [(.int .i64 0), (.int .i64 0)] ty_api_Point false))) fun r1 =>
 (bd (unA .not r1.1) fun t11_2 =>
 (bd (asB t11_2) fun b3 =>
 if b3 = true then
 (bd (flA [(0, 1), (1, 1)] [(.int .i64 0), (.int .i64 0)] []) fun t12_4 =>
 (bd (stA 2 (.ptr (some (H.n, 0))) t12_4 r1.2) fun H5 =>
 (bd (ldN 2 (.ptr (some (H.n, 0))) H5) fun t6 =>
 (some (.tuple [t6, (.bool false)], H5)))))
 else
 (bd (call 388 [v2] (r1.2.more 0)) fun r7 =>
 (bd (nilC v0) fun t15_8 =>
 (bd (faA 4 t15_8) fun t16_9 =>
 (bd (ld1 t16_9 r7.2) fun t17_10 =>
 (bd (chk (ld1 t16_9 (r1.2.more 0)) t17_10) fun _ =>
 (bd (idxS 9 t17_10 v1) fun t19_11 =>
 (bd (ldN 9 t19_11 r7.2) fun t20_12 =>
 (bd (chk (ldN 9 t19_11 (r1.2.more 0)) t20_12) fun _ =>
 (bd (call 387 [v0, t20_12, r7.1] r7.2) fun r13 =>
 (bd (extA r13.1 0) fun t24_14 =>
 (bd (extA r13.1 1) fun t25_15 =>
 (bd (stA 2 (.ptr (some (H.n, 0))) t24_14 r13.2) fun H16 =>
 (bd (ldN 2 (.ptr (some (H.n, 0))) H16) fun t17 =>
 (some (.tuple [t17, t25_15], H16))))))))))))))))))
theorem mesh_Mesh_Corner.r_e (n : Nat) (v0 v1 v2 : V) (H : Heap) : mesh_Mesh_Corner.r @bdI (callA C n) n v0 v1 v2 H = E C n 329 [] (argsA 0 [v0, v1, v2]) H (kR C 329) := by
  unfold mesh_Mesh_Corner.r
  kernel_rfl
noncomputable def mesh_Mesh_Corner.rf (bd : B3) (call : FuncId → List V → Heap → Option R) (n : Nat) (a : List V) (H : Heap) : Option R := (match a with | [v0, v1, v2] => mesh_Mesh_Corner.r bd call n v0 v1 v2 H | a => E C n 329 [] (argsA 0 a) H (kR C 329))
theorem mesh_Mesh_Corner.rf_b (n : Nat) (a : List V) (H : Heap) : (match a with | [v0, v1, v2] => mesh_Mesh_Corner.r @bdI (callA C n) n v0 v1 v2 H | a => E C n 329 [] (argsA 0 a) H (kR C 329)) = E C n 329 [] (argsA 0 a) H (kR C 329) := by
  split
  · exact mesh_Mesh_Corner.r_e n _ _ _ H
  · rfl
theorem mesh_Mesh_Corner.rf_e (n : Nat) (a : List V) (H : Heap) : mesh_Mesh_Corner.rf @bdI (callA C n) n a H = callA C (n + 1) 329 a H := by
  unfold mesh_Mesh_Corner.rf
  refine (mesh_Mesh_Corner.rf_b n a H).trans ?_
  kernel_rfl
noncomputable def arena_Arena_Take.r (bd : B3) (call : FuncId → List V → Heap → Option R) (n : Nat) (v0 : V) (H : Heap) : Option R :=
 (bd (eqlA P ty_p_arena_Arena v0 (.ptr none)) fun t5_1 =>
 (bd (asB t5_1) fun b2 =>
 if b2 = true then
 (some ((.int .i64 (-1)), H))
 else
 (bd (nilC v0) fun t7_3 =>
 (bd (faA 2 t7_3) fun t8_4 =>
 (bd (ld1 t8_4 H) fun t9_5 =>
 (bd (arA .add t9_5 (.int .i64 1)) fun t10_6 =>
 (bd (nilC v0) fun t11_7 =>
 (bd (faA 2 t11_7) fun t12_8 =>
 (bd (stA 1 t12_8 t10_6 H) fun H9 =>
 (bd (nilC v0) fun t14_10 =>
 (bd (faA 1 t14_10) fun t15_11 =>
 (bd (ld1 t15_11 H9) fun t16_12 =>
 (bd (arA .eql t16_12 (.int .i64 (-1))) fun t18_13 =>
 (bd (asB t18_13) fun b14 =>
 if b14 = true then
 (bd (nilC v0) fun t21_15 =>
 (bd (faA 0 t21_15) fun t22_16 =>
 (bd (ld1 t22_16 H9) fun t23_17 =>
 (bd (bSl 1 ty_interface [.nilIface] 1 [(0, (.iface ty_int (.int .i64 (-2))))]) fun o18 =>
 (bd (appA 1 16 ty_interface t23_17 (.slice ⟨some (H9.n, 0), 1, 1, false⟩) (H9.push o18)) fun p19 =>
 (bd (nilC v0) fun t27_20 =>
 (bd (faA 0 t27_20) fun t28_21 =>
 (bd (stA 1 t28_21 p19.1 p19.2) fun H22 =>
 (bd (nilC v0) fun t30_23 =>
 (bd (faA 0 t30_23) fun t31_24 =>
 (bd (ld1 t31_24 H22) fun t32_25 =>
 (bd (lenSl t32_25) fun t33_26 =>
 (bd (arA .sub t33_26 (.int .i64 1)) fun t34_27 =>
 (some (t34_27, H22)))))))))))))))
 else
 (bd (call 389 [v0, t16_12] H9) fun r28 =>
 (bd (nilC v0) fun t39_29 =>
 (bd (faA 1 t39_29) fun t40_30 =>
 (bd (stA 1 t40_30 r28.1 r28.2) fun H31 =>
 (bd (nilC v0) fun t42_32 =>
 (bd (faA 0 t42_32) fun t43_33 =>
 (bd (ld1 t43_33 H31) fun t44_34 =>
 (bd (idxS 1 t44_34 t16_12) fun t47_35 =>
 (bd (stA 1 t47_35 (.iface ty_int (.int .i64 (-2))) H31) fun H36 =>
 (some (t16_12, H36)))))))))))))))))))))))))
theorem arena_Arena_Take.r_e (n : Nat) (v0 : V) (H : Heap) : arena_Arena_Take.r @bdI (callA C n) n v0 H = E C n 330 [] (argsA 0 [v0]) H (kR C 330) := by
  unfold arena_Arena_Take.r
  kernel_rfl
noncomputable def arena_Arena_Take.rf (bd : B3) (call : FuncId → List V → Heap → Option R) (n : Nat) (a : List V) (H : Heap) : Option R := (match a with | [v0] => arena_Arena_Take.r bd call n v0 H | a => E C n 330 [] (argsA 0 a) H (kR C 330))
theorem arena_Arena_Take.rf_b (n : Nat) (a : List V) (H : Heap) : (match a with | [v0] => arena_Arena_Take.r @bdI (callA C n) n v0 H | a => E C n 330 [] (argsA 0 a) H (kR C 330)) = E C n 330 [] (argsA 0 a) H (kR C 330) := by
  split
  · exact arena_Arena_Take.r_e n _ H
  · rfl
theorem arena_Arena_Take.rf_e (n : Nat) (a : List V) (H : Heap) : arena_Arena_Take.rf @bdI (callA C n) n a H = callA C (n + 1) 330 a H := by
  unfold arena_Arena_Take.rf
  refine (arena_Arena_Take.rf_b n a H).trans ?_
  kernel_rfl
noncomputable def mesh_put_api_Vert.r (bd : B3) (call : FuncId → List V → Heap → Option R) (n : Nat) (v0 v1 v2 : V) (H : Heap) : Option R :=
 (bd (boxA ty_api_Vert v2) fun o1 =>
 (bd (lenSl v0) fun t9_2 =>
 (bd (arA .eql v1 t9_2) fun t10_3 =>
 (bd (asB t10_3) fun b4 =>
 if b4 = true then
 (bd (ldN 4 (.ptr (some (H.n, 0))) (H.push o1)) fun t12_5 =>
 (bd (bSl 4 ty_api_Vert [(.int .i64 0), (.int .i64 0), (.int .i64 0), (.int .i64 0)] 1 [(0, t12_5)]) fun o6 =>
 (bd (appA 4 32 ty_api_Vert v0 (.slice ⟨some ((H.push o1).n, 0), 1, 4, false⟩) ((H.push o1).push o6)) fun p7 =>
 (some (p7.1, p7.2)))))
 else
 (bd (ldN 4 (.ptr (some (H.n, 0))) (H.push o1)) fun t17_8 =>
 (bd (idxS 4 v0 v1) fun t18_9 =>
 (bd (stA 4 t18_9 t17_8 (H.push o1)) fun H10 =>
 (some (v0, H10)))))))))
theorem mesh_put_api_Vert.r_e (n : Nat) (v0 v1 v2 : V) (H : Heap) : mesh_put_api_Vert.r @bdI (callA C n) n v0 v1 v2 H = E C n 331 [] (argsA 0 [v0, v1, v2]) H (kR C 331) := by
  unfold mesh_put_api_Vert.r
  kernel_rfl
noncomputable def mesh_put_api_Vert.rf (bd : B3) (call : FuncId → List V → Heap → Option R) (n : Nat) (a : List V) (H : Heap) : Option R := (match a with | [v0, v1, v2] => mesh_put_api_Vert.r bd call n v0 v1 v2 H | a => E C n 331 [] (argsA 0 a) H (kR C 331))
theorem mesh_put_api_Vert.rf_b (n : Nat) (a : List V) (H : Heap) : (match a with | [v0, v1, v2] => mesh_put_api_Vert.r @bdI (callA C n) n v0 v1 v2 H | a => E C n 331 [] (argsA 0 a) H (kR C 331)) = E C n 331 [] (argsA 0 a) H (kR C 331) := by
  split
  · exact mesh_put_api_Vert.r_e n _ _ _ H
  · rfl
theorem mesh_put_api_Vert.rf_e (n : Nat) (a : List V) (H : Heap) : mesh_put_api_Vert.rf @bdI (callA C n) n a H = callA C (n + 1) 331 a H := by
  unfold mesh_put_api_Vert.rf
  refine (mesh_put_api_Vert.rf_b n a H).trans ?_
  kernel_rfl
noncomputable def mesh_Mesh_vert.r (bd : B3) (call : FuncId → List V → Heap → Option R) (n : Nat) (v0 v1 : V) (H : Heap) : Option R :=
 (bd (neqA P ty_p_mesh_Mesh v0 (.ptr none)) fun t6_1 =>
 (bd (asB t6_1) fun b2 =>
 if b2 = true then
 (bd (nilC v0) fun t9_3 =>
 (bd (faA 1 t9_3) fun t10_4 =>
 (bd (ld1 t10_4 H) fun t11_5 =>
 (bd (call 390 [t11_5, v1] H) fun r6 =>
 (some (r6.1, r6.2))))))
 else
 (some ((.bool false), H))))
theorem mesh_Mesh_vert.r_e (n : Nat) (v0 v1 : V) (H : Heap) : mesh_Mesh_vert.r @bdI (callA C n) n v0 v1 H = E C n 332 [] (argsA 0 [v0, v1]) H (kR C 332) := by
  unfold mesh_Mesh_vert.r
  kernel_rfl
noncomputable def mesh_Mesh_vert.rf (bd : B3) (call : FuncId → List V → Heap → Option R) (n : Nat) (a : List V) (H : Heap) : Option R := (match a with | [v0, v1] => mesh_Mesh_vert.r bd call n v0 v1 H | a => E C n 332 [] (argsA 0 a) H (kR C 332))
theorem mesh_Mesh_vert.rf_b (n : Nat) (a : List V) (H : Heap) : (match a with | [v0, v1] => mesh_Mesh_vert.r @bdI (callA C n) n v0 v1 H | a => E C n 332 [] (argsA 0 a) H (kR C 332)) = E C n 332 [] (argsA 0 a) H (kR C 332) := by
  split
  · exact mesh_Mesh_vert.r_e n _ _ H
  · rfl
theorem mesh_Mesh_vert.rf_e (n : Nat) (a : List V) (H : Heap) : mesh_Mesh_vert.rf @bdI (callA C n) n a H = callA C (n + 1) 332 a H := by
  unfold mesh_Mesh_vert.rf
  refine (mesh_Mesh_vert.rf_b n a H).trans ?_
  kernel_rfl
noncomputable def mesh_Mesh_turns.r (bd : B3) (call : FuncId → List V → Heap → Option R) (n : Nat) (v0 v1 : V) (H : Heap) : Option R :=
 (bd (boxA ty_api_Tri v1) fun o1 =>
 (bd (ldN 9 (.ptr (some (H.n, 0))) (H.push o1)) fun t13_2 =>
 (bd (call 387 [v0, t13_2, (.int .i64 0)] (H.push o1)) fun r3 =>
 (bd (extA r3.1 0) fun t15_4 =>
 (bd (extA r3.1 1) fun t16_5 =>
 (bd (stA 2 (.ptr (some (r3.2.n, 0))) t15_4 (r3.2.push (.cells [(.int .i64 0), (.int .i64 0)] ty_api_Point false))) fun H6 =>
 (bd (ldN 9 (.ptr (some (H.n, 0))) H6) fun t19_7 =>
 (bd (call 387 [v0, t19_7, (.int .i64 1)] H6) fun r8 =>
 (bd (extA r8.1 0) fun t21_9 =>
 (bd (extA r8.1 1) fun t22_10 =>
 (bd (stA 2 (.ptr (some (r8.2.n, 0))) t21_9 (r8.2.push (.cells [(.int .i64 0), (.int .i64 0)] ty_api_Point false))) fun H11 =>
 (bd (ldN 9 (.ptr (some (H.n, 0))) H11) fun t25_12 =>
 (bd (call 387 [v0, t25_12, (.int .i64 2)] H11) fun r13 =>
 (bd (extA r13.1 0) fun t27_14 =>
 (bd (extA r13.1 1) fun t28_15 =>
 (bd (stA 2 (.ptr (some (r13.2.n, 0))) t27_14 (r13.2.push (.cells [(.int .i64 0), (.int .i64 0)] ty_api_Point false))) fun H16 =>
 (bd (asB t16_5) fun b17 =>
 if b17 = true then
 (bd (asB t22_10) fun b18 =>
 if b18 = true then
 (bd (asB t28_15) fun b19 =>
 if b19 = true then
 (bd (ldN 2 (.ptr (some (r3.2.n, 0))) H16) fun t37_20 =>
 (bd (ldN 2 (.ptr (some (r8.2.n, 0))) H16) fun t38_21 =>
 (bd (ldN 2 (.ptr (some (r13.2.n, 0))) H16) fun t39_22 =>
 (bd (call 296 [t37_20, t38_21, t39_22] H16) fun r23 =>
 (bd (arA .eql r23.1 (.int .i64 1)) fun t41_24 =>
 (some (t41_24, r23.2)))))))
 else
 (some ((.bool false), H16)))
 else
 (some ((.bool false), H16)))
 else
 (some ((.bool false), H16)))))))))))))))))))
theorem mesh_Mesh_turns.r_e (n : Nat) (v0 v1 : V) (H : Heap) : mesh_Mesh_turns.r @bdI (callA C n) n v0 v1 H = E C n 333 [] (argsA 0 [v0, v1]) H (kR C 333) := by
  unfold mesh_Mesh_turns.r
  kernel_rfl
noncomputable def mesh_Mesh_turns.rf (bd : B3) (call : FuncId → List V → Heap → Option R) (n : Nat) (a : List V) (H : Heap) : Option R := (match a with | [v0, v1] => mesh_Mesh_turns.r bd call n v0 v1 H | a => E C n 333 [] (argsA 0 a) H (kR C 333))
theorem mesh_Mesh_turns.rf_b (n : Nat) (a : List V) (H : Heap) : (match a with | [v0, v1] => mesh_Mesh_turns.r @bdI (callA C n) n v0 v1 H | a => E C n 333 [] (argsA 0 a) H (kR C 333)) = E C n 333 [] (argsA 0 a) H (kR C 333) := by
  split
  · exact mesh_Mesh_turns.r_e n _ _ H
  · rfl
theorem mesh_Mesh_turns.rf_e (n : Nat) (a : List V) (H : Heap) : mesh_Mesh_turns.rf @bdI (callA C n) n a H = callA C (n + 1) 333 a H := by
  unfold mesh_Mesh_turns.rf
  refine (mesh_Mesh_turns.rf_b n a H).trans ?_
  kernel_rfl
noncomputable def mesh_side.r (bd : B3) (call : FuncId → List V → Heap → Option R) (n : Nat) (v0 v1 : V) (H : Heap) : Option R :=
 (bd (boxA ty_api_Tri v0) fun o1 =>
 (bd (arA .add v1 (.int .i64 1)) fun t7_2 =>
 (bd (call 388 [t7_2] ((H.push o1).push (.cells [(.int .i64 0), (.int .i64 0), (.int .i64 0), (.int .i64 0)] ty_mesh_edge false))) fun r3 =>
 (bd (faA 3 (.ptr (some (H.n, 0)))) fun t18_4 =>
 (bd (idxP 3 2 t18_4 r3.1) fun t19_5 =>
 (bd (ldN 2 t19_5 (r3.2.more 0)) fun t20_6 =>
 (bd (faA 3 (.ptr (some (H.n, 0)))) fun t22_7 =>
 (bd (idxP 3 2 t22_7 v1) fun t23_8 =>
 (bd (ldN 2 t23_8 (r3.2.more 0)) fun t24_9 =>
 (bd (call 303 [t20_6, t24_9] (r3.2.more 0)) fun r10 =>
 (bd (faA 0 (.ptr (some (H.n, 0)))) fun t10_11 =>
 (bd (idxP 3 1 t10_11 v1) fun t11_12 =>
 (bd (ld1 t11_12 r10.2) fun t12_13 =>
 (bd (chk (ld1 t11_12 (r3.2.more 0)) t12_13) fun _ =>
 (bd (faA 0 (.ptr (some (H.n, 0)))) fun t14_14 =>
 (bd (idxP 3 1 t14_14 r3.1) fun t15_15 =>
 (bd (ld1 t15_15 r10.2) fun t16_16 =>
 (bd (chk (ld1 t15_15 (r3.2.more 0)) t16_16) fun _ =>
 (bd (flA [(0, 1), (1, 1), (2, 2)] [(.int .i64 0), (.int .i64 0), (.int .i64 0), (.int .i64 0)] [(0, t12_13), (1, t16_16), (2, r10.1)]) fun t26_17 =>
 (bd (stA 4 (.ptr (some ((H.push o1).n, 0))) t26_17 r10.2) fun H18 =>
 (bd (ldN 4 (.ptr (some ((H.push o1).n, 0))) H18) fun t19 =>
 (some (t19, H18)))))))))))))))))))))))
theorem mesh_side.r_e (n : Nat) (v0 v1 : V) (H : Heap) : mesh_side.r @bdI (callA C n) n v0 v1 H = E C n 334 [] (argsA 0 [v0, v1]) H (kR C 334) := by
  unfold mesh_side.r
  kernel_rfl
noncomputable def mesh_side.rf (bd : B3) (call : FuncId → List V → Heap → Option R) (n : Nat) (a : List V) (H : Heap) : Option R := pureA a H fun a => (match a with | [v0, v1] => mesh_side.r bd call n v0 v1 ⟨0, .nil⟩ | a => E C n 334 [] (argsA 0 a) ⟨0, .nil⟩ (kR C 334))
theorem mesh_side.rf_b (n : Nat) (a : List V) (H : Heap) : (match a with | [v0, v1] => mesh_side.r @bdI (callA C n) n v0 v1 H | a => E C n 334 [] (argsA 0 a) H (kR C 334)) = E C n 334 [] (argsA 0 a) H (kR C 334) := by
  split
  · exact mesh_side.r_e n _ _ H
  · rfl
theorem mesh_side.rf_e (n : Nat) (a : List V) (H : Heap) : mesh_side.rf @bdI (callA C n) n a H = callA C (n + 1) 334 a H := by
  unfold mesh_side.rf
  refine (congrArg (pureA a H) (funext fun a => mesh_side.rf_b n a ⟨0, .nil⟩)).trans ?_
  kernel_rfl
noncomputable def mesh_put_api_Tri.r (bd : B3) (call : FuncId → List V → Heap → Option R) (n : Nat) (v0 v1 v2 : V) (H : Heap) : Option R :=
 (bd (boxA ty_api_Tri v2) fun o1 =>
 (bd (lenSl v0) fun t9_2 =>
 (bd (arA .eql v1 t9_2) fun t10_3 =>
 (bd (asB t10_3) fun b4 =>
 if b4 = true then
 (bd (ldN 9 (.ptr (some (H.n, 0))) (H.push o1)) fun t12_5 =>
 (bd (bSl 9 ty_api_Tri [(.int .i64 0), (.int .i64 0), (.int .i64 0), (.int .i64 0), (.int .i64 0), (.int .i64 0), (.int .i64 0), (.int .i64 0), (.int .i64 0)] 1 [(0, t12_5)]) fun o6 =>
 (bd (appA 9 72 ty_api_Tri v0 (.slice ⟨some ((H.push o1).n, 0), 1, 9, false⟩) ((H.push o1).push o6)) fun p7 =>
 (some (p7.1, p7.2)))))
 else
 (bd (ldN 9 (.ptr (some (H.n, 0))) (H.push o1)) fun t17_8 =>
 (bd (idxS 9 v0 v1) fun t18_9 =>
 (bd (stA 9 t18_9 t17_8 (H.push o1)) fun H10 =>
 (some (v0, H10)))))))))
theorem mesh_put_api_Tri.r_e (n : Nat) (v0 v1 v2 : V) (H : Heap) : mesh_put_api_Tri.r @bdI (callA C n) n v0 v1 v2 H = E C n 335 [] (argsA 0 [v0, v1, v2]) H (kR C 335) := by
  unfold mesh_put_api_Tri.r
  kernel_rfl
noncomputable def mesh_put_api_Tri.rf (bd : B3) (call : FuncId → List V → Heap → Option R) (n : Nat) (a : List V) (H : Heap) : Option R := (match a with | [v0, v1, v2] => mesh_put_api_Tri.r bd call n v0 v1 v2 H | a => E C n 335 [] (argsA 0 a) H (kR C 335))
theorem mesh_put_api_Tri.rf_b (n : Nat) (a : List V) (H : Heap) : (match a with | [v0, v1, v2] => mesh_put_api_Tri.r @bdI (callA C n) n v0 v1 v2 H | a => E C n 335 [] (argsA 0 a) H (kR C 335)) = E C n 335 [] (argsA 0 a) H (kR C 335) := by
  split
  · exact mesh_put_api_Tri.r_e n _ _ _ H
  · rfl
theorem mesh_put_api_Tri.rf_e (n : Nat) (a : List V) (H : Heap) : mesh_put_api_Tri.rf @bdI (callA C n) n a H = callA C (n + 1) 335 a H := by
  unfold mesh_put_api_Tri.rf
  refine (mesh_put_api_Tri.rf_b n a H).trans ?_
  kernel_rfl
noncomputable def slices_Contains_int_int.r (bd : B3) (call : FuncId → List V → Heap → Option R) (n : Nat) (v0 v1 : V) (H : Heap) : Option R :=
 (bd (call 358 [v0, v1] H) fun r1 =>
 (bd (arA .geq r1.1 (.int .i64 0)) fun t8_2 =>
 (some (t8_2, r1.2))))
theorem slices_Contains_int_int.r_e (n : Nat) (v0 v1 : V) (H : Heap) : slices_Contains_int_int.r @bdI (callA C n) n v0 v1 H = E C n 336 [] (argsA 0 [v0, v1]) H (kR C 336) := by
  unfold slices_Contains_int_int.r
  kernel_rfl
noncomputable def slices_Contains_int_int.rf (bd : B3) (call : FuncId → List V → Heap → Option R) (n : Nat) (a : List V) (H : Heap) : Option R := (match a with | [v0, v1] => slices_Contains_int_int.r bd call n v0 v1 H | a => E C n 336 [] (argsA 0 a) H (kR C 336))
theorem slices_Contains_int_int.rf_b (n : Nat) (a : List V) (H : Heap) : (match a with | [v0, v1] => slices_Contains_int_int.r @bdI (callA C n) n v0 v1 H | a => E C n 336 [] (argsA 0 a) H (kR C 336)) = E C n 336 [] (argsA 0 a) H (kR C 336) := by
  split
  · exact slices_Contains_int_int.r_e n _ _ H
  · rfl
theorem slices_Contains_int_int.rf_e (n : Nat) (a : List V) (H : Heap) : slices_Contains_int_int.rf @bdI (callA C n) n a H = callA C (n + 1) 336 a H := by
  unfold slices_Contains_int_int.rf
  refine (slices_Contains_int_int.rf_b n a H).trans ?_
  kernel_rfl
noncomputable def circum_sides.r (bd : B3) (call : FuncId → List V → Heap → Option R) (n : Nat) (v0 v1 v2 : V) (H : Heap) : Option R :=
 (bd (boxA ty_api_Point v0) fun o1 =>
 (bd (boxA ty_api_Point v1) fun o2 =>
 (bd (boxA ty_api_Point v2) fun o3 =>
 (bd (ldN 2 (.ptr (some (H.n, 0))) (((((H.push o1).push o2).push o3).push (.cells [(.bool false), (.slice ⟨none, 0, 0, false⟩)] ty_api_Int false)).more 0)) fun t7_4 =>
 (bd (ldN 2 (.ptr (some ((H.push o1).n, 0))) (((((H.push o1).push o2).push o3).push (.cells [(.bool false), (.slice ⟨none, 0, 0, false⟩)] ty_api_Int false)).more 0)) fun t8_5 =>
 (bd (call 123 [t7_4, t8_5] (((((H.push o1).push o2).push o3).push (.cells [(.bool false), (.slice ⟨none, 0, 0, false⟩)] ty_api_Int false)).more 0)) fun r6 =>
 (bd (call 252 [r6.1] r6.2) fun r7 =>
 (bd (ldN 2 (.ptr (some ((H.push o1).n, 0))) r7.2) fun t11_8 =>
 (bd (chk (ldN 2 (.ptr (some ((H.push o1).n, 0))) r6.2) t11_8) fun _ =>
 (bd (chk (ldN 2 (.ptr (some ((H.push o1).n, 0))) (((((H.push o1).push o2).push o3).push (.cells [(.bool false), (.slice ⟨none, 0, 0, false⟩)] ty_api_Int false)).more 0)) t11_8) fun _ =>
 (bd (ldN 2 (.ptr (some (((H.push o1).push o2).n, 0))) r7.2) fun t12_9 =>
 (bd (chk (ldN 2 (.ptr (some (((H.push o1).push o2).n, 0))) r6.2) t12_9) fun _ =>
 (bd (chk (ldN 2 (.ptr (some (((H.push o1).push o2).n, 0))) (((((H.push o1).push o2).push o3).push (.cells [(.bool false), (.slice ⟨none, 0, 0, false⟩)] ty_api_Int false)).more 0)) t12_9) fun _ =>
 (bd (call 123 [t11_8, t12_9] r7.2) fun r10 =>
 (bd (call 252 [r10.1] r10.2) fun r11 =>
 (bd (call 316 [r7.1, r11.1] r11.2) fun r12 =>
 (bd (ldN 2 (.ptr (some (((H.push o1).push o2).n, 0))) r12.2) fun t16_13 =>
 (bd (chk (ldN 2 (.ptr (some (((H.push o1).push o2).n, 0))) r11.2) t16_13) fun _ =>
 (bd (chk (ldN 2 (.ptr (some (((H.push o1).push o2).n, 0))) r10.2) t16_13) fun _ =>
 (bd (chk (ldN 2 (.ptr (some (((H.push o1).push o2).n, 0))) r7.2) t16_13) fun _ =>
 (bd (chk (ldN 2 (.ptr (some (((H.push o1).push o2).n, 0))) r6.2) t16_13) fun _ =>
 (bd (chk (ldN 2 (.ptr (some (((H.push o1).push o2).n, 0))) (((((H.push o1).push o2).push o3).push (.cells [(.bool false), (.slice ⟨none, 0, 0, false⟩)] ty_api_Int false)).more 0)) t16_13) fun _ =>
 (bd (ldN 2 (.ptr (some (H.n, 0))) r12.2) fun t17_14 =>
 (bd (chk (ldN 2 (.ptr (some (H.n, 0))) r11.2) t17_14) fun _ =>
 (bd (chk (ldN 2 (.ptr (some (H.n, 0))) r10.2) t17_14) fun _ =>
 (bd (chk (ldN 2 (.ptr (some (H.n, 0))) r7.2) t17_14) fun _ =>
 (bd (chk (ldN 2 (.ptr (some (H.n, 0))) r6.2) t17_14) fun _ =>
 (bd (chk (ldN 2 (.ptr (some (H.n, 0))) (((((H.push o1).push o2).push o3).push (.cells [(.bool false), (.slice ⟨none, 0, 0, false⟩)] ty_api_Int false)).more 0)) t17_14) fun _ =>
 (bd (call 123 [t16_13, t17_14] r12.2) fun r15 =>
 (bd (call 252 [r15.1] r15.2) fun r16 =>
 (bd (call 316 [r12.1, r16.1] r16.2) fun r17 =>
 (bd (stA 2 (.ptr (some ((((H.push o1).push o2).push o3).n, 0))) r17.1 r17.2) fun H18 =>
 (bd (ldN 2 (.ptr (some ((((H.push o1).push o2).push o3).n, 0))) H18) fun t19 =>
 (frzR t19 H18))))))))))))))))))))))))))))))))))
theorem circum_sides.r_e (n : Nat) (v0 v1 v2 : V) (H : Heap) : circum_sides.r @bdI (callA C n) n v0 v1 v2 H = E C n 352 [] (argsA 0 [v0, v1, v2]) H (kR C 352) := by
  unfold circum_sides.r
  kernel_rfl
noncomputable def circum_sides.rf (bd : B3) (call : FuncId → List V → Heap → Option R) (n : Nat) (a : List V) (H : Heap) : Option R := pureA a H fun a => (match a with | [v0, v1, v2] => circum_sides.r bd call n v0 v1 v2 ⟨0, .nil⟩ | a => E C n 352 [] (argsA 0 a) ⟨0, .nil⟩ (kR C 352))
theorem circum_sides.rf_b (n : Nat) (a : List V) (H : Heap) : (match a with | [v0, v1, v2] => circum_sides.r @bdI (callA C n) n v0 v1 v2 H | a => E C n 352 [] (argsA 0 a) H (kR C 352)) = E C n 352 [] (argsA 0 a) H (kR C 352) := by
  split
  · exact circum_sides.r_e n _ _ _ H
  · rfl
theorem circum_sides.rf_e (n : Nat) (a : List V) (H : Heap) : circum_sides.rf @bdI (callA C n) n a H = callA C (n + 1) 352 a H := by
  unfold circum_sides.rf
  refine (congrArg (pureA a H) (funext fun a => circum_sides.rf_b n a ⟨0, .nil⟩)).trans ?_
  kernel_rfl
noncomputable def whole_Cmp.r (bd : B3) (call : FuncId → List V → Heap → Option R) (n : Nat) (v0 v1 : V) (H : Heap) : Option R :=
 (bd (boxA ty_api_Int v0) fun o1 =>
 (bd (boxA ty_api_Int v1) fun o2 =>
 (bd (ldN 2 (.ptr (some (H.n, 0))) (((H.push o1).push o2).more 0)) fun t7_3 =>
 (bd (call 262 [t7_3] (((H.push o1).push o2).more 0)) fun r4 =>
 (bd (ldN 2 (.ptr (some ((H.push o1).n, 0))) r4.2) fun t9_5 =>
 (bd (chk (ldN 2 (.ptr (some ((H.push o1).n, 0))) (((H.push o1).push o2).more 0)) t9_5) fun _ =>
 (bd (call 262 [t9_5] r4.2) fun r6 =>
 (bd (arA .lss r4.1 r6.1) fun t14_7 =>
 (bd (asB t14_7) fun b8 =>
 if b8 = true then
 (some ((.int .i64 (-1)), r6.2))
 else
 (bd (arA .gtr r4.1 r6.1) fun t18_9 =>
 (bd (asB t18_9) fun b10 =>
 if b10 = true then
 (some ((.int .i64 1), r6.2))
 else
 (bd (arA .lss r4.1 (.int .i64 0)) fun t21_11 =>
 (bd (asB t21_11) fun b12 =>
 if b12 = true then
 (bd (faA 1 (.ptr (some ((H.push o1).n, 0)))) fun t22_13 =>
 (bd (ld1 t22_13 r6.2) fun t23_14 =>
 (bd (faA 1 (.ptr (some (H.n, 0)))) fun t24_15 =>
 (bd (ld1 t24_15 r6.2) fun t25_16 =>
 (bd (call 189 [t23_14, t25_16] r6.2) fun r17 =>
 (some (r17.1, r17.2)))))))
 else
 (bd (faA 1 (.ptr (some (H.n, 0)))) fun t27_18 =>
 (bd (ld1 t27_18 r6.2) fun t28_19 =>
 (bd (faA 1 (.ptr (some ((H.push o1).n, 0)))) fun t29_20 =>
 (bd (ld1 t29_20 r6.2) fun t30_21 =>
 (bd (call 189 [t28_19, t30_21] r6.2) fun r22 =>
 (some (r22.1, r22.2))))))))))))))))))))
theorem whole_Cmp.r_e (n : Nat) (v0 v1 : V) (H : Heap) : whole_Cmp.r @bdI (callA C n) n v0 v1 H = E C n 353 [] (argsA 0 [v0, v1]) H (kR C 353) := by
  unfold whole_Cmp.r
  kernel_rfl
noncomputable def whole_Cmp.rf (bd : B3) (call : FuncId → List V → Heap → Option R) (n : Nat) (a : List V) (H : Heap) : Option R := pureA a H fun a => (match a with | [v0, v1] => whole_Cmp.r bd call n v0 v1 ⟨0, .nil⟩ | a => E C n 353 [] (argsA 0 a) ⟨0, .nil⟩ (kR C 353))
theorem whole_Cmp.rf_b (n : Nat) (a : List V) (H : Heap) : (match a with | [v0, v1] => whole_Cmp.r @bdI (callA C n) n v0 v1 H | a => E C n 353 [] (argsA 0 a) H (kR C 353)) = E C n 353 [] (argsA 0 a) H (kR C 353) := by
  split
  · exact whole_Cmp.r_e n _ _ H
  · rfl
theorem whole_Cmp.rf_e (n : Nat) (a : List V) (H : Heap) : whole_Cmp.rf @bdI (callA C n) n a H = callA C (n + 1) 353 a H := by
  unfold whole_Cmp.rf
  refine (congrArg (pureA a H) (funext fun a => whole_Cmp.rf_b n a ⟨0, .nil⟩)).trans ?_
  kernel_rfl
noncomputable def circum_square.r (bd : B3) (call : FuncId → List V → Heap → Option R) (n : Nat) (v0 v1 v2 : V) (H : Heap) : Option R :=
 (bd (boxA ty_api_Point v0) fun o1 =>
 (bd (boxA ty_api_Point v1) fun o2 =>
 (bd (boxA ty_api_Point v2) fun o3 =>
 (bd (ldN 2 (.ptr (some (H.n, 0))) ((((H.push o1).push o2).push o3).push (.cells [(.bool false), (.slice ⟨none, 0, 0, false⟩)] ty_api_Int false))) fun t8_4 =>
 (bd (ldN 2 (.ptr (some ((H.push o1).n, 0))) ((((H.push o1).push o2).push o3).push (.cells [(.bool false), (.slice ⟨none, 0, 0, false⟩)] ty_api_Int false))) fun t9_5 =>
 (bd (ldN 2 (.ptr (some (((H.push o1).push o2).n, 0))) ((((H.push o1).push o2).push o3).push (.cells [(.bool false), (.slice ⟨none, 0, 0, false⟩)] ty_api_Int false))) fun t10_6 =>
 (bd (call 253 [t8_4, t9_5, t10_6] ((((H.push o1).push o2).push o3).push (.cells [(.bool false), (.slice ⟨none, 0, 0, false⟩)] ty_api_Int false))) fun r7 =>
 (bd (stA 2 (.ptr (some (r7.2.n, 0))) r7.1 (r7.2.push (.cells [(.int .i64 0), (.int .u64 0)] ty_api_Wide false))) fun H8 =>
 (bd (ldN 2 (.ptr (some (r7.2.n, 0))) H8) fun t12_9 =>
 (bd (ldN 2 (.ptr (some (r7.2.n, 0))) H8) fun t13_10 =>
 (bd (call 407 [t12_9, t13_10] H8) fun r11 =>
 (bd (call 311 [r11.1] r11.2) fun r12 =>
 (bd (stA 2 (.ptr (some ((((H.push o1).push o2).push o3).n, 0))) r12.1 r12.2) fun H13 =>
 (bd (ldN 2 (.ptr (some ((((H.push o1).push o2).push o3).n, 0))) H13) fun t14 =>
 (frzR t14 H13)))))))))))))))
theorem circum_square.r_e (n : Nat) (v0 v1 v2 : V) (H : Heap) : circum_square.r @bdI (callA C n) n v0 v1 v2 H = E C n 354 [] (argsA 0 [v0, v1, v2]) H (kR C 354) := by
  unfold circum_square.r
  kernel_rfl
noncomputable def circum_square.rf (bd : B3) (call : FuncId → List V → Heap → Option R) (n : Nat) (a : List V) (H : Heap) : Option R := pureA a H fun a => (match a with | [v0, v1, v2] => circum_square.r bd call n v0 v1 v2 ⟨0, .nil⟩ | a => E C n 354 [] (argsA 0 a) ⟨0, .nil⟩ (kR C 354))
theorem circum_square.rf_b (n : Nat) (a : List V) (H : Heap) : (match a with | [v0, v1, v2] => circum_square.r @bdI (callA C n) n v0 v1 v2 H | a => E C n 354 [] (argsA 0 a) H (kR C 354)) = E C n 354 [] (argsA 0 a) H (kR C 354) := by
  split
  · exact circum_square.r_e n _ _ _ H
  · rfl
theorem circum_square.rf_e (n : Nat) (a : List V) (H : Heap) : circum_square.rf @bdI (callA C n) n a H = callA C (n + 1) 354 a H := by
  unfold circum_square.rf
  refine (congrArg (pureA a H) (funext fun a => circum_square.rf_b n a ⟨0, .nil⟩)).trans ?_
  kernel_rfl
noncomputable def cover_part.r (bd : B3) (call : FuncId → List V → Heap → Option R) (n : Nat) (v0 : V) (H : Heap) : Option R :=
 (bd (arA .quo v0 (.int .i64 3)) fun t7_1 =>
 (bd (arA .rem v0 (.int .i64 3)) fun t9_2 =>
 (bd (arA .lss t9_2 (.int .i64 0)) fun t11_3 =>
 (bd (asB t11_3) fun b4 =>
 if b4 = true then
 (bd (arA .sub t7_1 (.int .i64 1)) fun t13_5 =>
 (bd (arA .add t9_2 (.int .i64 3)) fun t15_6 =>
 (some (.tuple [t15_6, t13_5], H))))
 else
 (some (.tuple [t9_2, t7_1], H))))))
theorem cover_part.r_e (n : Nat) (v0 : V) (H : Heap) : cover_part.r @bdI (callA C n) n v0 H = E C n 355 [] (argsA 0 [v0]) H (kR C 355) := by
  unfold cover_part.r
  kernel_rfl
noncomputable def cover_part.rf (bd : B3) (call : FuncId → List V → Heap → Option R) (n : Nat) (a : List V) (H : Heap) : Option R := pureA a H fun a => (match a with | [v0] => cover_part.r bd call n v0 ⟨0, .nil⟩ | a => E C n 355 [] (argsA 0 a) ⟨0, .nil⟩ (kR C 355))
theorem cover_part.rf_b (n : Nat) (a : List V) (H : Heap) : (match a with | [v0] => cover_part.r @bdI (callA C n) n v0 H | a => E C n 355 [] (argsA 0 a) H (kR C 355)) = E C n 355 [] (argsA 0 a) H (kR C 355) := by
  split
  · exact cover_part.r_e n _ H
  · rfl
theorem cover_part.rf_e (n : Nat) (a : List V) (H : Heap) : cover_part.rf @bdI (callA C n) n a H = callA C (n + 1) 355 a H := by
  unfold cover_part.rf
  refine (congrArg (pureA a H) (funext fun a => cover_part.rf_b n a ⟨0, .nil⟩)).trans ?_
  kernel_rfl
@[irreducible] noncomputable def slices_Index_int_int.l0 (n m0 : Nat) (v0 v1 v7 v8 : V) (H : Heap) : Option R := Lp C n 358 [1, 0, 1, 0, 0] m0 [(0, v0), (1, v1), (7, v7), (8, v8)] H (kB 0 (kC C n 358 [1, 1] (kR C 358)))
noncomputable def slices_Index_int_int.r_l0 (bd : B3) (call : FuncId → List V → Heap → Option R) (n : Nat) (s0 : V → V → V → V → Heap → Option R) (v0 v1 v7 v8 : V) (H : Heap) : Option R :=
 (bd (arA .lss v8 v7) fun t9_1 =>
 (bd (asB t9_1) fun b2 =>
 if b2 = true then
 (bd (idxS 1 v0 v8) fun t14_3 =>
 (bd (ld1 t14_3 H) fun t15_4 =>
 (bd (arA .eql v1 t15_4) fun t16_5 =>
 (bd (asB t16_5) fun b6 =>
 if b6 = true then
 (some (v8, H))
 else
 (bd (arA .add v8 (.int .i64 1)) fun t18_7 =>
 (s0 v0 v1 v7 t18_7 H))))))
 else
 (some ((.int .i64 (-1)), H))))
theorem slices_Index_int_int.r_l0_e (n m0 : Nat) : slices_Index_int_int.r_l0 @bdI (callA C n) n (slices_Index_int_int.l0 n m0) = slices_Index_int_int.l0 n (m0 + 1) := by
  funext v0 v1 v7 v8 H
  unfold slices_Index_int_int.r_l0
  kernel_rfl
noncomputable def slices_Index_int_int.r_l0_lp (bd : B3) (call : FuncId → List V → Heap → Option R) (n : Nat) (m : Nat) : V → V → V → V → Heap → Option R := Nat.rec (motive := fun _ => V → V → V → V → Heap → Option R) (fun _ _ _ _ _ => none) (fun _ self => slices_Index_int_int.r_l0 bd call n self) m
theorem slices_Index_int_int.r_l0_lp_e (n : Nat) : slices_Index_int_int.r_l0_lp @bdI (callA C n) n = slices_Index_int_int.l0 n := by
  funext m
  induction m with
  | zero => funext v0 v1 v7 v8 H; kernel_rfl
  | succ k ih => exact (congrArg (slices_Index_int_int.r_l0 @bdI (callA C n) n) ih).trans (slices_Index_int_int.r_l0_e n k)
noncomputable def slices_Index_int_int.r (bd : B3) (call : FuncId → List V → Heap → Option R) (n : Nat) (v0 v1 : V) (H : Heap) : Option R :=
 (bd (lenSl v0) fun t7_1 =>
 (slices_Index_int_int.r_l0_lp bd call n n v0 v1 t7_1 (.int .i64 0) H))
theorem slices_Index_int_int.r_e (n : Nat) (v0 v1 : V) (H : Heap) : slices_Index_int_int.r @bdI (callA C n) n v0 v1 H = E C n 358 [] (argsA 0 [v0, v1]) H (kR C 358) := by
  unfold slices_Index_int_int.r
  rewrite [slices_Index_int_int.r_l0_lp_e]
  kernel_rfl
noncomputable def slices_Index_int_int.rf (bd : B3) (call : FuncId → List V → Heap → Option R) (n : Nat) (a : List V) (H : Heap) : Option R := (match a with | [v0, v1] => slices_Index_int_int.r bd call n v0 v1 H | a => E C n 358 [] (argsA 0 a) H (kR C 358))
theorem slices_Index_int_int.rf_b (n : Nat) (a : List V) (H : Heap) : (match a with | [v0, v1] => slices_Index_int_int.r @bdI (callA C n) n v0 v1 H | a => E C n 358 [] (argsA 0 a) H (kR C 358)) = E C n 358 [] (argsA 0 a) H (kR C 358) := by
  split
  · exact slices_Index_int_int.r_e n _ _ H
  · rfl
theorem slices_Index_int_int.rf_e (n : Nat) (a : List V) (H : Heap) : slices_Index_int_int.rf @bdI (callA C n) n a H = callA C (n + 1) 358 a H := by
  unfold slices_Index_int_int.rf
  refine (slices_Index_int_int.rf_b n a H).trans ?_
  kernel_rfl
noncomputable def pred_orient.r (bd : B3) (call : FuncId → List V → Heap → Option R) (n : Nat) (v0 v1 v2 : V) (H : Heap) : Option R :=
 (bd (boxA ty_api_Point v0) fun o1 =>
 (bd (boxA ty_api_Point v1) fun o2 =>
 (bd (boxA ty_api_Point v2) fun o3 =>
 (bd (ldN 2 (.ptr (some (H.n, 0))) ((((H.push o1).push o2).push o3).more 0)) fun t7_4 =>
 (bd (ldN 2 (.ptr (some ((H.push o1).n, 0))) ((((H.push o1).push o2).push o3).more 0)) fun t8_5 =>
 (bd (call 171 [t7_4, t8_5] ((((H.push o1).push o2).push o3).more 0)) fun r6 =>
 (bd (ldN 2 (.ptr (some (H.n, 0))) r6.2) fun t10_7 =>
 (bd (chk (ldN 2 (.ptr (some (H.n, 0))) ((((H.push o1).push o2).push o3).more 0)) t10_7) fun _ =>
 (bd (ldN 2 (.ptr (some (((H.push o1).push o2).n, 0))) r6.2) fun t11_8 =>
 (bd (chk (ldN 2 (.ptr (some (((H.push o1).push o2).n, 0))) ((((H.push o1).push o2).push o3).more 0)) t11_8) fun _ =>
 (bd (call 171 [t10_7, t11_8] r6.2) fun r9 =>
 (bd (call 313 [r6.1, r9.1] r9.2) fun r10 =>
 (bd (call 415 [r10.1] r10.2) fun r11 =>
 (some (r11.1, r11.2)))))))))))))))
theorem pred_orient.r_e (n : Nat) (v0 v1 v2 : V) (H : Heap) : pred_orient.r @bdI (callA C n) n v0 v1 v2 H = E C n 366 [] (argsA 0 [v0, v1, v2]) H (kR C 366) := by
  unfold pred_orient.r
  kernel_rfl
noncomputable def pred_orient.rf (bd : B3) (call : FuncId → List V → Heap → Option R) (n : Nat) (a : List V) (H : Heap) : Option R := pureA a H fun a => (match a with | [v0, v1, v2] => pred_orient.r bd call n v0 v1 v2 ⟨0, .nil⟩ | a => E C n 366 [] (argsA 0 a) ⟨0, .nil⟩ (kR C 366))
theorem pred_orient.rf_b (n : Nat) (a : List V) (H : Heap) : (match a with | [v0, v1, v2] => pred_orient.r @bdI (callA C n) n v0 v1 v2 H | a => E C n 366 [] (argsA 0 a) H (kR C 366)) = E C n 366 [] (argsA 0 a) H (kR C 366) := by
  split
  · exact pred_orient.r_e n _ _ _ H
  · rfl
theorem pred_orient.rf_e (n : Nat) (a : List V) (H : Heap) : pred_orient.rf @bdI (callA C n) n a H = callA C (n + 1) 366 a H := by
  unfold pred_orient.rf
  refine (congrArg (pureA a H) (funext fun a => pred_orient.rf_b n a ⟨0, .nil⟩)).trans ?_
  kernel_rfl
noncomputable def nat_Of.r (bd : B3) (call : FuncId → List V → Heap → Option R) (n : Nat) (v0 : V) (H : Heap) : Option R :=
 (bd (cvInt .u32 v0) fun t4_1 =>
 (bd (shA .shr v0 (.int .u64 32)) fun t6_2 =>
 (bd (cvInt .u32 t6_2) fun t7_3 =>
 (bd (bSl 1 ty_uint32 [(.int .u32 0)] 2 [(0, t4_1), (1, t7_3)]) fun o4 =>
 (bd (call 323 [(.slice ⟨some (H.n, 0), 2, 1, false⟩)] (H.push o4)) fun r5 =>
 (bd (call 324 [r5.1] r5.2) fun r6 =>
 (frzR r6.1 r6.2)))))))
theorem nat_Of.r_e (n : Nat) (v0 : V) (H : Heap) : nat_Of.r @bdI (callA C n) n v0 H = E C n 371 [] (argsA 0 [v0]) H (kR C 371) := by
  unfold nat_Of.r
  kernel_rfl
noncomputable def nat_Of.rf (bd : B3) (call : FuncId → List V → Heap → Option R) (n : Nat) (a : List V) (H : Heap) : Option R := pureA a H fun a => (match a with | [v0] => nat_Of.r bd call n v0 ⟨0, .nil⟩ | a => E C n 371 [] (argsA 0 a) ⟨0, .nil⟩ (kR C 371))
theorem nat_Of.rf_b (n : Nat) (a : List V) (H : Heap) : (match a with | [v0] => nat_Of.r @bdI (callA C n) n v0 H | a => E C n 371 [] (argsA 0 a) H (kR C 371)) = E C n 371 [] (argsA 0 a) H (kR C 371) := by
  split
  · exact nat_Of.r_e n _ H
  · rfl
theorem nat_Of.rf_e (n : Nat) (a : List V) (H : Heap) : nat_Of.rf @bdI (callA C n) n a H = callA C (n + 1) 371 a H := by
  unfold nat_Of.rf
  refine (congrArg (pureA a H) (funext fun a => nat_Of.rf_b n a ⟨0, .nil⟩)).trans ?_
  kernel_rfl
noncomputable def quad_Sign.r (bd : B3) (call : FuncId → List V → Heap → Option R) (n : Nat) (v0 : V) (H : Heap) : Option R :=
 (bd (boxA ty_api_Quad v0) fun o1 =>
 (bd (ldN 4 (.ptr (some (H.n, 0))) (H.push o1)) fun t4_2 =>
 (bd (call 418 [t4_2] (H.push o1)) fun r3 =>
 (bd (asB r3.1) fun b4 =>
 if b4 = true then
 (some ((.int .i64 (-1)), r3.2))
 else
 (bd (ldN 4 (.ptr (some (H.n, 0))) r3.2) fun t7_5 =>
 (bd (flE 1 [(.int .u64 0), (.int .u64 0), (.int .u64 0), (.int .u64 0)] []) fun t8_6 =>
 (bd (eqlA P ty_api_Quad t7_5 t8_6) fun t9_7 =>
 (bd (asB t9_7) fun b8 =>
 if b8 = true then
 (some ((.int .i64 0), r3.2))
 else
 (some ((.int .i64 1), r3.2))))))))))
theorem quad_Sign.r_e (n : Nat) (v0 : V) (H : Heap) : quad_Sign.r @bdI (callA C n) n v0 H = E C n 372 [] (argsA 0 [v0]) H (kR C 372) := by
  unfold quad_Sign.r
  kernel_rfl
noncomputable def quad_Sign.rf (bd : B3) (call : FuncId → List V → Heap → Option R) (n : Nat) (a : List V) (H : Heap) : Option R := pureA a H fun a => (match a with | [v0] => quad_Sign.r bd call n v0 ⟨0, .nil⟩ | a => E C n 372 [] (argsA 0 a) ⟨0, .nil⟩ (kR C 372))
theorem quad_Sign.rf_b (n : Nat) (a : List V) (H : Heap) : (match a with | [v0] => quad_Sign.r @bdI (callA C n) n v0 H | a => E C n 372 [] (argsA 0 a) H (kR C 372)) = E C n 372 [] (argsA 0 a) H (kR C 372) := by
  split
  · exact quad_Sign.r_e n _ H
  · rfl
theorem quad_Sign.rf_e (n : Nat) (a : List V) (H : Heap) : quad_Sign.rf @bdI (callA C n) n a H = callA C (n + 1) 372 a H := by
  unfold quad_Sign.rf
  refine (congrArg (pureA a H) (funext fun a => quad_Sign.rf_b n a ⟨0, .nil⟩)).trans ?_
  kernel_rfl
end Go.AM.L
end
section
set_option linter.unusedVariables false
set_option linter.unusedSimpArgs false
set_option maxRecDepth 1000000
set_option linter.unusedVariables false
namespace Go.AM.L
noncomputable def quad_of.r (bd : B3) (call : FuncId → List V → Heap → Option R) (n : Nat) (v0 : V) (H : Heap) : Option R :=
 (bd (boxA ty_api_Wide v0) fun o1 =>
 (bd (faA 0 (.ptr (some (H.n, 0)))) fun t4_2 =>
 (bd (ld1 t4_2 ((H.push o1).push (.cells [(.int .u64 0), (.int .u64 0), (.int .u64 0), (.int .u64 0)] ty_api_Quad false))) fun t5_3 =>
 (bd (shA .shr t5_3 (.int .u64 63)) fun t6_4 =>
 (bd (cvInt .u64 t6_4) fun t7_5 =>
 (bd (faA 1 (.ptr (some (H.n, 0)))) fun t8_6 =>
 (bd (ld1 t8_6 ((H.push o1).push (.cells [(.int .u64 0), (.int .u64 0), (.int .u64 0), (.int .u64 0)] ty_api_Quad false))) fun t9_7 =>
 (bd (faA 0 (.ptr (some (H.n, 0)))) fun t10_8 =>
 (bd (ld1 t10_8 ((H.push o1).push (.cells [(.int .u64 0), (.int .u64 0), (.int .u64 0), (.int .u64 0)] ty_api_Quad false))) fun t11_9 =>
 (bd (cvInt .u64 t11_9) fun t12_10 =>
 (bd (flE 1 [(.int .u64 0), (.int .u64 0), (.int .u64 0), (.int .u64 0)] [(0, t9_7), (1, t12_10), (2, t7_5), (3, t7_5)]) fun t15_11 =>
 (bd (stA 4 (.ptr (some ((H.push o1).n, 0))) t15_11 ((H.push o1).push (.cells [(.int .u64 0), (.int .u64 0), (.int .u64 0), (.int .u64 0)] ty_api_Quad false))) fun H12 =>
 (bd (ldN 4 (.ptr (some ((H.push o1).n, 0))) H12) fun t13 =>
 (some (t13, H12)))))))))))))))
theorem quad_of.r_e (n : Nat) (v0 : V) (H : Heap) : quad_of.r @bdI (callA C n) n v0 H = E C n 374 [] (argsA 0 [v0]) H (kR C 374) := by
  unfold quad_of.r
  kernel_rfl
noncomputable def quad_of.rf (bd : B3) (call : FuncId → List V → Heap → Option R) (n : Nat) (a : List V) (H : Heap) : Option R := pureA a H fun a => (match a with | [v0] => quad_of.r bd call n v0 ⟨0, .nil⟩ | a => E C n 374 [] (argsA 0 a) ⟨0, .nil⟩ (kR C 374))
theorem quad_of.rf_b (n : Nat) (a : List V) (H : Heap) : (match a with | [v0] => quad_of.r @bdI (callA C n) n v0 H | a => E C n 374 [] (argsA 0 a) H (kR C 374)) = E C n 374 [] (argsA 0 a) H (kR C 374) := by
  split
  · exact quad_of.r_e n _ H
  · rfl
theorem quad_of.rf_e (n : Nat) (a : List V) (H : Heap) : quad_of.rf @bdI (callA C n) n a H = callA C (n + 1) 374 a H := by
  unfold quad_of.rf
  refine (congrArg (pureA a H) (funext fun a => quad_of.rf_b n a ⟨0, .nil⟩)).trans ?_
  kernel_rfl
noncomputable def wide_Sub.r (bd : B3) (call : FuncId → List V → Heap → Option R) (n : Nat) (v0 v1 : V) (H : Heap) : Option R :=
 (bd (boxA ty_api_Wide v0) fun o1 =>
 (bd (boxA ty_api_Wide v1) fun o2 =>
 (bd (ldN 2 (.ptr (some (H.n, 0))) (((H.push o1).push o2).push (.cells [(.int .i64 0), (.int .u64 0)] ty_api_Wide false))) fun t5_3 =>
 (bd (ldN 2 (.ptr (some ((H.push o1).n, 0))) (((H.push o1).push o2).push (.cells [(.int .i64 0), (.int .u64 0)] ty_api_Wide false))) fun t6_4 =>
 (bd (call 124 [t5_3, t6_4] (((H.push o1).push o2).push (.cells [(.int .i64 0), (.int .u64 0)] ty_api_Wide false))) fun r5 =>
 (bd (stA 2 (.ptr (some (((H.push o1).push o2).n, 0))) r5.1 r5.2) fun H6 =>
 (bd (ldN 2 (.ptr (some (((H.push o1).push o2).n, 0))) H6) fun t7 =>
 (some (t7, H6)))))))))
theorem wide_Sub.r_e (n : Nat) (v0 v1 : V) (H : Heap) : wide_Sub.r @bdI (callA C n) n v0 v1 H = E C n 375 [] (argsA 0 [v0, v1]) H (kR C 375) := by
  unfold wide_Sub.r
  kernel_rfl
noncomputable def wide_Sub.rf (bd : B3) (call : FuncId → List V → Heap → Option R) (n : Nat) (a : List V) (H : Heap) : Option R := pureA a H fun a => (match a with | [v0, v1] => wide_Sub.r bd call n v0 v1 ⟨0, .nil⟩ | a => E C n 375 [] (argsA 0 a) ⟨0, .nil⟩ (kR C 375))
theorem wide_Sub.rf_b (n : Nat) (a : List V) (H : Heap) : (match a with | [v0, v1] => wide_Sub.r @bdI (callA C n) n v0 v1 H | a => E C n 375 [] (argsA 0 a) H (kR C 375)) = E C n 375 [] (argsA 0 a) H (kR C 375) := by
  split
  · exact wide_Sub.r_e n _ _ H
  · rfl
theorem wide_Sub.rf_e (n : Nat) (a : List V) (H : Heap) : wide_Sub.rf @bdI (callA C n) n a H = callA C (n + 1) 375 a H := by
  unfold wide_Sub.rf
  refine (congrArg (pureA a H) (funext fun a => wide_Sub.rf_b n a ⟨0, .nil⟩)).trans ?_
  kernel_rfl
@[irreducible] noncomputable def nat_Mul.l0 (n m0 : Nat) (v1 v5 v17 v18 v19 : V) (H : Heap) : Option R := Lp C n 379 [1, 1, 0, 1, 0, 0] m0 [(1, v1), (5, v5), (17, v17), (18, v18), (19, v19)] H (kB 0 (kC C n 379 [1, 1, 1] (kR C 379)))
@[irreducible] noncomputable def nat_Mul.l1 (n m0 m1 : Nat) (v1 v5 v6 v7 v8 v17 v18 v19 v24 v25 v26 : V) (H : Heap) : Option R := Lp C n 379 [1, 1, 0, 1, 0, 0, 1, 1, 0, 0, 1, 1, 0, 1, 0, 0] m1 [(1, v1), (5, v5), (6, v6), (7, v7), (8, v8), (17, v17), (18, v18), (19, v19), (24, v24), (25, v25), (26, v26)] H (kB 2 (kC C n 379 [1, 1, 0, 1, 0, 0, 1, 1, 0, 0, 1, 1, 1] (kB 1 (kC C n 379 [1, 1, 0, 1, 0, 0, 1, 1, 1] (kL C n 379 [1, 1, 0, 1, 0, 0] m0 (kB 0 (kC C n 379 [1, 1, 1] (kR C 379))))))))
@[irreducible] noncomputable def nat_Mul.p2 (n m0 : Nat) (v1 v5 v6 v8 v17 v18 v19 : V) (H : Heap) : Option R := E C n 379 [1, 1, 0, 1, 0, 0, 1, 1, 0, 0, 1, 1, 1] [(1, v1), (5, v5), (6, v6), (8, v8), (17, v17), (18, v18), (19, v19)] H (kB 1 (kC C n 379 [1, 1, 0, 1, 0, 0, 1, 1, 1] (kL C n 379 [1, 1, 0, 1, 0, 0] m0 (kB 0 (kC C n 379 [1, 1, 1] (kR C 379))))))
noncomputable def nat_Mul.r_p2 (bd : B3) (call : FuncId → List V → Heap → Option R) (n : Nat) (s0 : V → V → V → V → V → Heap → Option R) (v1 v5 v6 v8 v17 v18 v19 : V) (H : Heap) : Option R :=
 (bd (lenSl v1) fun t59_1 =>
 (bd (arA .add v6 t59_1) fun t60_2 =>
 (bd (cvInt .u32 v8) fun t62_3 =>
 (bd (idxS 1 v5 t60_2) fun t63_4 =>
 (bd (stA 1 t63_4 t62_3 H) fun H5 =>
 (bd (arA .add v19 (.int .i64 1)) fun t64_6 =>
 (s0 v1 v5 v17 v18 t64_6 H5)))))))
theorem nat_Mul.r_p2_e (n : Nat) (m0 : Nat) : nat_Mul.r_p2 @bdI (callA C n) n (nat_Mul.l0 n m0) = nat_Mul.p2 n m0 := by
  funext v1 v5 v6 v8 v17 v18 v19 H
  unfold nat_Mul.r_p2
  kernel_rfl
noncomputable def nat_Mul.r_l1 (bd : B3) (call : FuncId → List V → Heap → Option R) (n : Nat) (s0 : V → V → V → V → V → Heap → Option R) (s1 : V → V → V → V → V → V → V → V → V → V → V → Heap → Option R) (v1 v5 v6 v7 v8 v17 v18 v19 v24 v25 v26 : V) (H : Heap) : Option R :=
 (bd (arA .lss v26 v25) fun t27_1 =>
 (bd (asB t27_1) fun b2 =>
 if b2 = true then
 (bd (idxS 1 v24 v26) fun t29_3 =>
 (bd (ld1 t29_3 H) fun t30_4 =>
 (bd (arA .add v6 v26) fun t35_5 =>
 (bd (idxS 1 v5 t35_5) fun t36_6 =>
 (bd (ld1 t36_6 H) fun t37_7 =>
 (bd (cvInt .u64 t37_7) fun t38_8 =>
 (bd (cvInt .u64 v7) fun t40_9 =>
 (bd (cvInt .u64 t30_4) fun t42_10 =>
 (bd (arA .mul t40_9 t42_10) fun t43_11 =>
 (bd (arA .add t38_8 t43_11) fun t44_12 =>
 (bd (arA .add v8 t44_12) fun t45_13 =>
 (bd (arA .add v6 v26) fun t49_14 =>
 (bd (cvInt .u32 t45_13) fun t51_15 =>
 (bd (idxS 1 v5 t49_14) fun t52_16 =>
 (bd (stA 1 t52_16 t51_15 H) fun H17 =>
 (bd (shA .shr t45_13 (.int .u64 32)) fun t54_18 =>
 (bd (arA .add v26 (.int .i64 1)) fun t55_19 =>
 (s1 v1 v5 v6 v7 t54_18 v17 v18 v19 v24 v25 t55_19 H17))))))))))))))))))
 else
 (nat_Mul.r_p2 bd call n s0 v1 v5 v6 v8 v17 v18 v19 H)))
theorem nat_Mul.r_l1_e (n m0 m1 : Nat) : nat_Mul.r_l1 @bdI (callA C n) n (nat_Mul.l0 n m0) (nat_Mul.l1 n m0 m1) = nat_Mul.l1 n m0 (m1 + 1) := by
  funext v1 v5 v6 v7 v8 v17 v18 v19 v24 v25 v26 H
  unfold nat_Mul.r_l1
  rewrite [nat_Mul.r_p2_e]
  kernel_rfl
noncomputable def nat_Mul.r_l1_lp (bd : B3) (call : FuncId → List V → Heap → Option R) (n : Nat) (s0 : V → V → V → V → V → Heap → Option R) (m : Nat) : V → V → V → V → V → V → V → V → V → V → V → Heap → Option R := Nat.rec (motive := fun _ => V → V → V → V → V → V → V → V → V → V → V → Heap → Option R) (fun _ _ _ _ _ _ _ _ _ _ _ _ => none) (fun _ self => nat_Mul.r_l1 bd call n s0 self) m
theorem nat_Mul.r_l1_lp_e (n m0 : Nat) : nat_Mul.r_l1_lp @bdI (callA C n) n (nat_Mul.l0 n m0) = nat_Mul.l1 n m0 := by
  funext m
  induction m with
  | zero => funext v1 v5 v6 v7 v8 v17 v18 v19 v24 v25 v26 H; kernel_rfl
  | succ k ih => exact (congrArg (nat_Mul.r_l1 @bdI (callA C n) n (nat_Mul.l0 n m0)) ih).trans (nat_Mul.r_l1_e n m0 k)
noncomputable def nat_Mul.r_l0 (bd : B3) (call : FuncId → List V → Heap → Option R) (n : Nat) (s0 : V → V → V → V → V → Heap → Option R) (v1 v5 v17 v18 v19 : V) (H : Heap) : Option R :=
 (bd (arA .lss v19 v18) fun t20_1 =>
 (bd (asB t20_1) fun b2 =>
 if b2 = true then
 (bd (idxS 1 v17 v19) fun t22_3 =>
 (bd (ld1 t22_3 H) fun t23_4 =>
 (bd (lenSl v1) fun t25_5 =>
 (nat_Mul.r_l1_lp bd call n s0 n v1 v5 v19 t23_4 (.int .u64 0) v17 v18 v19 v1 t25_5 (.int .i64 0) H))))
 else
 (bd (call 323 [v5] H) fun r6 =>
 (frzR r6.1 r6.2))))
theorem nat_Mul.r_l0_e (n m0 : Nat) : nat_Mul.r_l0 @bdI (callA C n) n (nat_Mul.l0 n m0) = nat_Mul.l0 n (m0 + 1) := by
  funext v1 v5 v17 v18 v19 H
  unfold nat_Mul.r_l0
  rewrite [nat_Mul.r_l1_lp_e]
  kernel_rfl
noncomputable def nat_Mul.r_l0_lp (bd : B3) (call : FuncId → List V → Heap → Option R) (n : Nat) (m : Nat) : V → V → V → V → V → Heap → Option R := Nat.rec (motive := fun _ => V → V → V → V → V → Heap → Option R) (fun _ _ _ _ _ _ => none) (fun _ self => nat_Mul.r_l0 bd call n self) m
theorem nat_Mul.r_l0_lp_e (n : Nat) : nat_Mul.r_l0_lp @bdI (callA C n) n = nat_Mul.l0 n := by
  funext m
  induction m with
  | zero => funext v1 v5 v17 v18 v19 H; kernel_rfl
  | succ k ih => exact (congrArg (nat_Mul.r_l0 @bdI (callA C n) n) ih).trans (nat_Mul.r_l0_e n k)
noncomputable def nat_Mul.r (bd : B3) (call : FuncId → List V → Heap → Option R) (n : Nat) (v0 v1 : V) (H : Heap) : Option R :=
 (bd (lenSl v0) fun t12_1 =>
 (bd (lenSl v1) fun t14_2 =>
 (bd (arA .add t12_1 t14_2) fun t15_3 =>
 (bd (mkSl 1 4 ty_uint32 [(.int .u32 0)] t15_3 t15_3) fun o4 =>
 (bd (lenSl v0) fun t18_5 =>
 (nat_Mul.r_l0_lp bd call n n v1 (.slice ⟨some (H.n, 0), o4.2, 1, false⟩) v0 t18_5 (.int .i64 0) (H.push o4.1)))))))
theorem nat_Mul.r_e (n : Nat) (v0 v1 : V) (H : Heap) : nat_Mul.r @bdI (callA C n) n v0 v1 H = E C n 379 [] (argsA 0 [v0, v1]) H (kR C 379) := by
  unfold nat_Mul.r
  rewrite [nat_Mul.r_l0_lp_e]
  kernel_rfl
noncomputable def nat_Mul.rf (bd : B3) (call : FuncId → List V → Heap → Option R) (n : Nat) (a : List V) (H : Heap) : Option R := pureA a H fun a => (match a with | [v0, v1] => nat_Mul.r bd call n v0 v1 ⟨0, .nil⟩ | a => E C n 379 [] (argsA 0 a) ⟨0, .nil⟩ (kR C 379))
theorem nat_Mul.rf_b (n : Nat) (a : List V) (H : Heap) : (match a with | [v0, v1] => nat_Mul.r @bdI (callA C n) n v0 v1 H | a => E C n 379 [] (argsA 0 a) H (kR C 379)) = E C n 379 [] (argsA 0 a) H (kR C 379) := by
  split
  · exact nat_Mul.r_e n _ _ H
  · rfl
theorem nat_Mul.rf_e (n : Nat) (a : List V) (H : Heap) : nat_Mul.rf @bdI (callA C n) n a H = callA C (n + 1) 379 a H := by
  unfold nat_Mul.rf
  refine (congrArg (pureA a H) (funext fun a => nat_Mul.rf_b n a ⟨0, .nil⟩)).trans ?_
  kernel_rfl
noncomputable def nat_size.r (bd : B3) (call : FuncId → List V → Heap → Option R) (n : Nat) (v0 : V) (H : Heap) : Option R :=
 (bd (call 323 [v0] H) fun r1 =>
 (bd (lenSl r1.1) fun t6_2 =>
 (bd (arA .eql t6_2 (.int .i64 0)) fun t7_3 =>
 (bd (asB t7_3) fun b4 =>
 if b4 = true then
 (some ((.int .i64 0), r1.2))
 else
 (bd (lenSl r1.1) fun t9_5 =>
 (bd (arA .sub t9_5 (.int .i64 1)) fun t10_6 =>
 (bd (arA .mul (.int .i64 32) t10_6) fun t11_7 =>
 (bd (lenSl r1.1) fun t14_8 =>
 (bd (arA .sub t14_8 (.int .i64 1)) fun t15_9 =>
 (bd (idxS 1 r1.1 t15_9) fun t16_10 =>
 (bd (ld1 t16_10 r1.2) fun t17_11 =>
 (bd (call 159 [t17_11] r1.2) fun r12 =>
 (bd (arA .add t11_7 r12.1) fun t19_13 =>
 (some (t19_13, r12.2)))))))))))))))
theorem nat_size.r_e (n : Nat) (v0 : V) (H : Heap) : nat_size.r @bdI (callA C n) n v0 H = E C n 384 [] (argsA 0 [v0]) H (kR C 384) := by
  unfold nat_size.r
  kernel_rfl
noncomputable def nat_size.rf (bd : B3) (call : FuncId → List V → Heap → Option R) (n : Nat) (a : List V) (H : Heap) : Option R := pureA a H fun a => (match a with | [v0] => nat_size.r bd call n v0 ⟨0, .nil⟩ | a => E C n 384 [] (argsA 0 a) ⟨0, .nil⟩ (kR C 384))
theorem nat_size.rf_b (n : Nat) (a : List V) (H : Heap) : (match a with | [v0] => nat_size.r @bdI (callA C n) n v0 H | a => E C n 384 [] (argsA 0 a) H (kR C 384)) = E C n 384 [] (argsA 0 a) H (kR C 384) := by
  split
  · exact nat_size.r_e n _ H
  · rfl
theorem nat_size.rf_e (n : Nat) (a : List V) (H : Heap) : nat_size.rf @bdI (callA C n) n a H = callA C (n + 1) 384 a H := by
  unfold nat_size.rf
  refine (congrArg (pureA a H) (funext fun a => nat_size.rf_b n a ⟨0, .nil⟩)).trans ?_
  kernel_rfl
noncomputable def mesh_Mesh_face.r (bd : B3) (call : FuncId → List V → Heap → Option R) (n : Nat) (v0 v1 : V) (H : Heap) : Option R :=
 (bd (neqA P ty_p_mesh_Mesh v0 (.ptr none)) fun t6_1 =>
 (bd (asB t6_1) fun b2 =>
 if b2 = true then
 (bd (nilC v0) fun t9_3 =>
 (bd (faA 2 t9_3) fun t10_4 =>
 (bd (ld1 t10_4 H) fun t11_5 =>
 (bd (call 390 [t11_5, v1] H) fun r6 =>
 (some (r6.1, r6.2))))))
 else
 (some ((.bool false), H))))
theorem mesh_Mesh_face.r_e (n : Nat) (v0 v1 : V) (H : Heap) : mesh_Mesh_face.r @bdI (callA C n) n v0 v1 H = E C n 386 [] (argsA 0 [v0, v1]) H (kR C 386) := by
  unfold mesh_Mesh_face.r
  kernel_rfl
noncomputable def mesh_Mesh_face.rf (bd : B3) (call : FuncId → List V → Heap → Option R) (n : Nat) (a : List V) (H : Heap) : Option R := (match a with | [v0, v1] => mesh_Mesh_face.r bd call n v0 v1 H | a => E C n 386 [] (argsA 0 a) H (kR C 386))
theorem mesh_Mesh_face.rf_b (n : Nat) (a : List V) (H : Heap) : (match a with | [v0, v1] => mesh_Mesh_face.r @bdI (callA C n) n v0 v1 H | a => E C n 386 [] (argsA 0 a) H (kR C 386)) = E C n 386 [] (argsA 0 a) H (kR C 386) := by
  split
  · exact mesh_Mesh_face.r_e n _ _ H
  · rfl
theorem mesh_Mesh_face.rf_e (n : Nat) (a : List V) (H : Heap) : mesh_Mesh_face.rf @bdI (callA C n) n a H = callA C (n + 1) 386 a H := by
  unfold mesh_Mesh_face.rf
  refine (mesh_Mesh_face.rf_b n a H).trans ?_
  kernel_rfl
noncomputable def mesh_Mesh_place.r (bd : B3) (call : FuncId → List V → Heap → Option R) (n : Nat) (v0 v1 v2 : V) (H : Heap) : Option R :=
 (bd (boxA ty_api_Tri v1) fun o1 =>
 (bd (nilC v0) fun t9_2 =>
 (bd (faA 3 t9_2) fun t10_3 =>
 (bd (ld1 t10_3 (((H.push o1).push (.cells [(.int .i64 0), (.int .i64 0)] ty_api_Point false)).more 0)) fun t11_4 =>
 (bd (faA 0 (.ptr (some (H.n, 0)))) fun t13_5 =>
 (bd (idxP 3 1 t13_5 v2) fun t14_6 =>
 (bd (ld1 t14_6 (((H.push o1).push (.cells [(.int .i64 0), (.int .i64 0)] ty_api_Point false)).more 0)) fun t15_7 =>
 (bd (idxS 4 t11_4 t15_7) fun t16_8 =>
 (bd (faA 1 t16_8) fun t17_9 =>
 (bd (ldN 2 t17_9 (((H.push o1).push (.cells [(.int .i64 0), (.int .i64 0)] ty_api_Point false)).more 0)) fun t18_10 =>
 (bd (faA 3 (.ptr (some (H.n, 0)))) fun t20_11 =>
 (bd (idxP 3 2 t20_11 v2) fun t21_12 =>
 (bd (ldN 2 t21_12 (((H.push o1).push (.cells [(.int .i64 0), (.int .i64 0)] ty_api_Point false)).more 0)) fun t22_13 =>
 (bd (nilC v0) fun t24_14 =>
 (bd (faA 0 t24_14) fun t25_15 =>
 (bd (ld1 t25_15 (((H.push o1).push (.cells [(.int .i64 0), (.int .i64 0)] ty_api_Point false)).more 0)) fun t26_16 =>
 (bd (call 184 [t18_10, t22_13, t26_16] (((H.push o1).push (.cells [(.int .i64 0), (.int .i64 0)] ty_api_Point false)).more 0)) fun r17 =>
 (bd (extA r17.1 0) fun t28_18 =>
 (bd (extA r17.1 1) fun t29_19 =>
 (bd (stA 2 (.ptr (some ((H.push o1).n, 0))) t28_18 r17.2) fun H20 =>
 (bd (ldN 2 (.ptr (some ((H.push o1).n, 0))) H20) fun t21 =>
 (some (.tuple [t21, t29_19], H20)))))))))))))))))))))))
theorem mesh_Mesh_place.r_e (n : Nat) (v0 v1 v2 : V) (H : Heap) : mesh_Mesh_place.r @bdI (callA C n) n v0 v1 v2 H = E C n 387 [] (argsA 0 [v0, v1, v2]) H (kR C 387) := by
  unfold mesh_Mesh_place.r
  kernel_rfl
noncomputable def mesh_Mesh_place.rf (bd : B3) (call : FuncId → List V → Heap → Option R) (n : Nat) (a : List V) (H : Heap) : Option R := (match a with | [v0, v1, v2] => mesh_Mesh_place.r bd call n v0 v1 v2 H | a => E C n 387 [] (argsA 0 a) H (kR C 387))
theorem mesh_Mesh_place.rf_b (n : Nat) (a : List V) (H : Heap) : (match a with | [v0, v1, v2] => mesh_Mesh_place.r @bdI (callA C n) n v0 v1 v2 H | a => E C n 387 [] (argsA 0 a) H (kR C 387)) = E C n 387 [] (argsA 0 a) H (kR C 387) := by
  split
  · exact mesh_Mesh_place.r_e n _ _ _ H
  · rfl
theorem mesh_Mesh_place.rf_e (n : Nat) (a : List V) (H : Heap) : mesh_Mesh_place.rf @bdI (callA C n) n a H = callA C (n + 1) 387 a H := by
  unfold mesh_Mesh_place.rf
  refine (mesh_Mesh_place.rf_b n a H).trans ?_
  kernel_rfl
noncomputable def mesh_third.r (bd : B3) (call : FuncId → List V → Heap → Option R) (n : Nat) (v0 : V) (H : Heap) : Option R :=
 (bd (arA .rem v0 (.int .i64 3)) fun t4_1 =>
 (bd (arA .add t4_1 (.int .i64 3)) fun t5_2 =>
 (bd (arA .rem t5_2 (.int .i64 3)) fun t6_3 =>
 (some (t6_3, H)))))
theorem mesh_third.r_e (n : Nat) (v0 : V) (H : Heap) : mesh_third.r @bdI (callA C n) n v0 H = E C n 388 [] (argsA 0 [v0]) H (kR C 388) := by
  unfold mesh_third.r
  kernel_rfl
noncomputable def mesh_third.rf (bd : B3) (call : FuncId → List V → Heap → Option R) (n : Nat) (a : List V) (H : Heap) : Option R := pureA a H fun a => (match a with | [v0] => mesh_third.r bd call n v0 ⟨0, .nil⟩ | a => E C n 388 [] (argsA 0 a) ⟨0, .nil⟩ (kR C 388))
theorem mesh_third.rf_b (n : Nat) (a : List V) (H : Heap) : (match a with | [v0] => mesh_third.r @bdI (callA C n) n v0 H | a => E C n 388 [] (argsA 0 a) H (kR C 388)) = E C n 388 [] (argsA 0 a) H (kR C 388) := by
  split
  · exact mesh_third.r_e n _ H
  · rfl
theorem mesh_third.rf_e (n : Nat) (a : List V) (H : Heap) : mesh_third.rf @bdI (callA C n) n a H = callA C (n + 1) 388 a H := by
  unfold mesh_third.rf
  refine (congrArg (pureA a H) (funext fun a => mesh_third.rf_b n a ⟨0, .nil⟩)).trans ?_
  kernel_rfl
noncomputable def arena_Arena_Live.r (bd : B3) (call : FuncId → List V → Heap → Option R) (n : Nat) (v0 v1 : V) (H : Heap) : Option R :=
 (bd (call 237 [v0, v1] H) fun r1 =>
 (some (r1.1, r1.2)))
theorem arena_Arena_Live.r_e (n : Nat) (v0 v1 : V) (H : Heap) : arena_Arena_Live.r @bdI (callA C n) n v0 v1 H = E C n 390 [] (argsA 0 [v0, v1]) H (kR C 390) := by
  unfold arena_Arena_Live.r
  kernel_rfl
noncomputable def arena_Arena_Live.rf (bd : B3) (call : FuncId → List V → Heap → Option R) (n : Nat) (a : List V) (H : Heap) : Option R := (match a with | [v0, v1] => arena_Arena_Live.r bd call n v0 v1 H | a => E C n 390 [] (argsA 0 a) H (kR C 390))
theorem arena_Arena_Live.rf_b (n : Nat) (a : List V) (H : Heap) : (match a with | [v0, v1] => arena_Arena_Live.r @bdI (callA C n) n v0 v1 H | a => E C n 390 [] (argsA 0 a) H (kR C 390)) = E C n 390 [] (argsA 0 a) H (kR C 390) := by
  split
  · exact arena_Arena_Live.r_e n _ _ H
  · rfl
theorem arena_Arena_Live.rf_e (n : Nat) (a : List V) (H : Heap) : arena_Arena_Live.rf @bdI (callA C n) n a H = callA C (n + 1) 390 a H := by
  unfold arena_Arena_Live.rf
  refine (arena_Arena_Live.rf_b n a H).trans ?_
  kernel_rfl
@[irreducible] noncomputable def quad_Mul.l0 (n m0 : Nat) (v4 v5 v6 v7 v8 v9 v27 : V) (H : Heap) : Option R := Lp C n 407 [1, 1, 1, 1, 0, 1, 0, 0] m0 [(4, v4), (5, v5), (6, v6), (7, v7), (8, v8), (9, v9), (27, v27)] H (kB 0 (kC C n 407 [1, 1, 1, 1, 1] (kR C 407)))
@[irreducible] noncomputable def quad_Mul.l1 (n m0 m1 : Nat) (v4 v5 v6 v7 v8 v9 v10 v11 v27 v30 : V) (H : Heap) : Option R := Lp C n 407 [1, 1, 1, 1, 0, 1, 0, 0, 1, 1, 0, 0, 1, 1, 0, 1, 0, 0] m1 [(4, v4), (5, v5), (6, v6), (7, v7), (8, v8), (9, v9), (10, v10), (11, v11), (27, v27), (30, v30)] H (kB 2 (kC C n 407 [1, 1, 1, 1, 0, 1, 0, 0, 1, 1, 0, 0, 1, 1, 1] (kB 1 (kC C n 407 [1, 1, 1, 1, 0, 1, 0, 0, 1, 1, 1] (kL C n 407 [1, 1, 1, 1, 0, 1, 0, 0] m0 (kB 0 (kC C n 407 [1, 1, 1, 1, 1] (kR C 407))))))))
@[irreducible] noncomputable def quad_Mul.p2 (n : Nat) (v4 v6 v8 v9 : V) (H : Heap) : Option R := E C n 407 [1, 1, 1, 1, 1] [(4, v4), (6, v6), (8, v8), (9, v9)] H (kR C 407)
@[irreducible] noncomputable def quad_Mul.p3 (n m0 : Nat) (v4 v5 v6 v7 v8 v9 v10 v11 v27 : V) (H : Heap) : Option R := E C n 407 [1, 1, 1, 1, 0, 1, 0, 0, 1, 1, 0, 0, 1, 1, 1] [(4, v4), (5, v5), (6, v6), (7, v7), (8, v8), (9, v9), (10, v10), (11, v11), (27, v27)] H (kB 1 (kC C n 407 [1, 1, 1, 1, 0, 1, 0, 0, 1, 1, 1] (kL C n 407 [1, 1, 1, 1, 0, 1, 0, 0] m0 (kB 0 (kC C n 407 [1, 1, 1, 1, 1] (kR C 407))))))
noncomputable def quad_Mul.r_p3 (bd : B3) (call : FuncId → List V → Heap → Option R) (n : Nat) (s0 : V → V → V → V → V → V → V → Heap → Option R) (v4 v5 v6 v7 v8 v9 v10 v11 v27 : V) (H : Heap) : Option R :=
 (bd (arA .add v10 (.int .i64 2)) fun t78_1 =>
 (bd (idxP 4 1 v9 t78_1) fun t79_2 =>
 (bd (ld1 t79_2 H) fun t80_3 =>
 (bd (arA .add t80_3 v11) fun t82_4 =>
 (bd (idxP 4 1 v9 t78_1) fun t83_5 =>
 (bd (stA 1 t83_5 t82_4 H) fun H6 =>
 (bd (arA .add v27 (.int .i64 1)) fun t84_7 =>
 (s0 v4 v5 v6 v7 v8 v9 t84_7 H6))))))))
theorem quad_Mul.r_p3_e (n : Nat) (m0 : Nat) : quad_Mul.r_p3 @bdI (callA C n) n (quad_Mul.l0 n m0) = quad_Mul.p3 n m0 := by
  funext v4 v5 v6 v7 v8 v9 v10 v11 v27 H
  unfold quad_Mul.r_p3
  kernel_rfl
noncomputable def quad_Mul.r_l1 (bd : B3) (call : FuncId → List V → Heap → Option R) (n : Nat) (s0 : V → V → V → V → V → V → V → Heap → Option R) (s1 : V → V → V → V → V → V → V → V → V → V → Heap → Option R) (v4 v5 v6 v7 v8 v9 v10 v11 v27 v30 : V) (H : Heap) : Option R :=
 (bd (arA .lss v30 (.int .i64 2)) fun t31_1 =>
 (bd (asB t31_1) fun b2 =>
 if b2 = true then
 (bd (idxP 2 1 v5 v10) fun t35_3 =>
 (bd (ld1 t35_3 (H.more 0)) fun t36_4 =>
 (bd (idxP 2 1 v7 v30) fun t38_5 =>
 (bd (ld1 t38_5 (H.more 0)) fun t39_6 =>
 (bd (call 308 [t36_4, t39_6] (H.more 0)) fun r7 =>
 (bd (extA r7.1 0) fun t41_8 =>
 (bd (extA r7.1 1) fun t42_9 =>
 (bd (arA .add v10 v30) fun t46_10 =>
 (bd (arA .add v10 v30) fun t49_11 =>
 (bd (idxP 4 1 v9 t49_11) fun t50_12 =>
 (bd (ld1 t50_12 r7.2) fun t51_13 =>
 (bd (call 370 [t51_13, t42_9, (.int .u64 0)] r7.2) fun r14 =>
 (bd (extA r14.1 0) fun t54_15 =>
 (bd (extA r14.1 1) fun t55_16 =>
 (bd (idxP 4 1 v9 t46_10) fun t56_17 =>
 (bd (stA 1 t56_17 t54_15 r14.2) fun H18 =>
 (bd (arA .add v10 v30) fun t60_19 =>
 (bd (arA .add v10 v30) fun t63_20 =>
 (bd (idxP 4 1 v9 t63_20) fun t64_21 =>
 (bd (ld1 t64_21 H18) fun t65_22 =>
 (bd (call 370 [t65_22, v11, (.int .u64 0)] H18) fun r23 =>
 (bd (extA r23.1 0) fun t68_24 =>
 (bd (extA r23.1 1) fun t69_25 =>
 (bd (idxP 4 1 v9 t60_19) fun t70_26 =>
 (bd (stA 1 t70_26 t68_24 r23.2) fun H27 =>
 (bd (arA .add t41_8 t55_16) fun t73_28 =>
 (bd (arA .add t73_28 t69_25) fun t75_29 =>
 (bd (arA .add v30 (.int .i64 1)) fun t76_30 =>
 (s1 v4 v5 v6 v7 v8 v9 v10 t75_29 v27 t76_30 H27)))))))))))))))))))))))))))))
 else
 (quad_Mul.r_p3 bd call n s0 v4 v5 v6 v7 v8 v9 v10 v11 v27 H)))
theorem quad_Mul.r_l1_e (n m0 m1 : Nat) : quad_Mul.r_l1 @bdI (callA C n) n (quad_Mul.l0 n m0) (quad_Mul.l1 n m0 m1) = quad_Mul.l1 n m0 (m1 + 1) := by
  funext v4 v5 v6 v7 v8 v9 v10 v11 v27 v30 H
  unfold quad_Mul.r_l1
  rewrite [quad_Mul.r_p3_e]
  kernel_rfl
noncomputable def quad_Mul.r_l1_lp (bd : B3) (call : FuncId → List V → Heap → Option R) (n : Nat) (s0 : V → V → V → V → V → V → V → Heap → Option R) (m : Nat) : V → V → V → V → V → V → V → V → V → V → Heap → Option R := Nat.rec (motive := fun _ => V → V → V → V → V → V → V → V → V → V → Heap → Option R) (fun _ _ _ _ _ _ _ _ _ _ _ => none) (fun _ self => quad_Mul.r_l1 bd call n s0 self) m
theorem quad_Mul.r_l1_lp_e (n m0 : Nat) : quad_Mul.r_l1_lp @bdI (callA C n) n (quad_Mul.l0 n m0) = quad_Mul.l1 n m0 := by
  funext m
  induction m with
  | zero => funext v4 v5 v6 v7 v8 v9 v10 v11 v27 v30 H; kernel_rfl
  | succ k ih => exact (congrArg (quad_Mul.r_l1 @bdI (callA C n) n (quad_Mul.l0 n m0)) ih).trans (quad_Mul.r_l1_e n m0 k)
noncomputable def quad_Mul.r_p2 (bd : B3) (call : FuncId → List V → Heap → Option R) (n : Nat) (v4 v6 v8 v9 : V) (H : Heap) : Option R :=
 (bd (neqA P ty_bool v6 v8) fun t87_1 =>
 (bd (asB t87_1) fun b2 =>
 if b2 = true then
 (bd (flE 1 [(.int .u64 0), (.int .u64 0), (.int .u64 0), (.int .u64 0)] []) fun t88_3 =>
 (bd (ldN 4 v9 H) fun t89_4 =>
 (bd (call 419 [t88_3, t89_4] H) fun r5 =>
 (bd (stA 4 v4 r5.1 r5.2) fun H6 =>
 (bd (ldN 4 v4 H6) fun t7 =>
 (some (t7, H6)))))))
 else
 (bd (ldN 4 v9 H) fun t91_8 =>
 (bd (stA 4 v4 t91_8 H) fun H9 =>
 (bd (ldN 4 v4 H9) fun t10 =>
 (some (t10, H9)))))))
theorem quad_Mul.r_p2_e (n : Nat) : quad_Mul.r_p2 @bdI (callA C n) n = quad_Mul.p2 n := by
  funext v4 v6 v8 v9 H
  unfold quad_Mul.r_p2
  kernel_rfl
noncomputable def quad_Mul.r_l0 (bd : B3) (call : FuncId → List V → Heap → Option R) (n : Nat) (s0 : V → V → V → V → V → V → V → Heap → Option R) (v4 v5 v6 v7 v8 v9 v27 : V) (H : Heap) : Option R :=
 (bd (arA .lss v27 (.int .i64 2)) fun t28_1 =>
 (bd (asB t28_1) fun b2 =>
 if b2 = true then
 (quad_Mul.r_l1_lp bd call n s0 n v4 v5 v6 v7 v8 v9 v27 (.int .u64 0) v27 (.int .i64 0) H)
 else
 (quad_Mul.r_p2 bd call n v4 v6 v8 v9 H)))
theorem quad_Mul.r_l0_e (n m0 : Nat) : quad_Mul.r_l0 @bdI (callA C n) n (quad_Mul.l0 n m0) = quad_Mul.l0 n (m0 + 1) := by
  funext v4 v5 v6 v7 v8 v9 v27 H
  unfold quad_Mul.r_l0
  rewrite [quad_Mul.r_l1_lp_e]
  rewrite [quad_Mul.r_p2_e]
  kernel_rfl
noncomputable def quad_Mul.r_l0_lp (bd : B3) (call : FuncId → List V → Heap → Option R) (n : Nat) (m : Nat) : V → V → V → V → V → V → V → Heap → Option R := Nat.rec (motive := fun _ => V → V → V → V → V → V → V → Heap → Option R) (fun _ _ _ _ _ _ _ _ => none) (fun _ self => quad_Mul.r_l0 bd call n self) m
theorem quad_Mul.r_l0_lp_e (n : Nat) : quad_Mul.r_l0_lp @bdI (callA C n) n = quad_Mul.l0 n := by
  funext m
  induction m with
  | zero => funext v4 v5 v6 v7 v8 v9 v27 H; kernel_rfl
  | succ k ih => exact (congrArg (quad_Mul.r_l0 @bdI (callA C n) n) ih).trans (quad_Mul.r_l0_e n k)
noncomputable def quad_Mul.r (bd : B3) (call : FuncId → List V → Heap → Option R) (n : Nat) (v0 v1 : V) (H : Heap) : Option R :=
 (bd (boxA ty_api_Wide v0) fun o1 =>
 (bd (boxA ty_api_Wide v1) fun o2 =>
 (bd (ldN 2 (.ptr (some (H.n, 0))) (((H.push o1).push o2).push (.cells [(.int .u64 0), (.int .u64 0), (.int .u64 0), (.int .u64 0)] ty_api_Quad false))) fun t18_3 =>
 (bd (call 434 [t18_3] (((H.push o1).push o2).push (.cells [(.int .u64 0), (.int .u64 0), (.int .u64 0), (.int .u64 0)] ty_api_Quad false))) fun r4 =>
 (bd (extA r4.1 0) fun t20_5 =>
 (bd (extA r4.1 1) fun t21_6 =>
 (bd (stA 2 (.ptr (some (r4.2.n, 0))) t20_5 (r4.2.push (.cells [(.int .u64 0), (.int .u64 0)] ty_2_uint64 false))) fun H7 =>
 (bd (ldN 2 (.ptr (some ((H.push o1).n, 0))) H7) fun t23_8 =>
 (bd (call 434 [t23_8] H7) fun r9 =>
 (bd (extA r9.1 0) fun t25_10 =>
 (bd (extA r9.1 1) fun t26_11 =>
 (bd (stA 2 (.ptr (some (r9.2.n, 0))) t25_10 (r9.2.push (.cells [(.int .u64 0), (.int .u64 0)] ty_2_uint64 false))) fun H12 =>
 (quad_Mul.r_l0_lp bd call n n (.ptr (some (((H.push o1).push o2).n, 0))) (.ptr (some (r4.2.n, 0))) t21_6 (.ptr (some (r9.2.n, 0))) t26_11 (.ptr (some (H12.n, 0))) (.int .i64 0) (H12.push (.cells [(.int .u64 0), (.int .u64 0), (.int .u64 0), (.int .u64 0)] ty_api_Quad false)))))))))))))))
theorem quad_Mul.r_e (n : Nat) (v0 v1 : V) (H : Heap) : quad_Mul.r @bdI (callA C n) n v0 v1 H = E C n 407 [] (argsA 0 [v0, v1]) H (kR C 407) := by
  unfold quad_Mul.r
  rewrite [quad_Mul.r_l0_lp_e]
  kernel_rfl
noncomputable def quad_Mul.rf (bd : B3) (call : FuncId → List V → Heap → Option R) (n : Nat) (a : List V) (H : Heap) : Option R := pureA a H fun a => (match a with | [v0, v1] => quad_Mul.r bd call n v0 v1 ⟨0, .nil⟩ | a => E C n 407 [] (argsA 0 a) ⟨0, .nil⟩ (kR C 407))
theorem quad_Mul.rf_b (n : Nat) (a : List V) (H : Heap) : (match a with | [v0, v1] => quad_Mul.r @bdI (callA C n) n v0 v1 H | a => E C n 407 [] (argsA 0 a) H (kR C 407)) = E C n 407 [] (argsA 0 a) H (kR C 407) := by
  split
  · exact quad_Mul.r_e n _ _ H
  · rfl
theorem quad_Mul.rf_e (n : Nat) (a : List V) (H : Heap) : quad_Mul.rf @bdI (callA C n) n a H = callA C (n + 1) 407 a H := by
  unfold quad_Mul.rf
  refine (congrArg (pureA a H) (funext fun a => quad_Mul.rf_b n a ⟨0, .nil⟩)).trans ?_
  kernel_rfl
noncomputable def wide_Sign.r (bd : B3) (call : FuncId → List V → Heap → Option R) (n : Nat) (v0 : V) (H : Heap) : Option R :=
 (bd (boxA ty_api_Wide v0) fun o1 =>
 (bd (ldN 2 (.ptr (some (H.n, 0))) (H.push o1)) fun t3_2 =>
 (bd (call 436 [t3_2] (H.push o1)) fun r3 =>
 (some (r3.1, r3.2)))))
theorem wide_Sign.r_e (n : Nat) (v0 : V) (H : Heap) : wide_Sign.r @bdI (callA C n) n v0 H = E C n 415 [] (argsA 0 [v0]) H (kR C 415) := by
  unfold wide_Sign.r
  kernel_rfl
noncomputable def wide_Sign.rf (bd : B3) (call : FuncId → List V → Heap → Option R) (n : Nat) (a : List V) (H : Heap) : Option R := pureA a H fun a => (match a with | [v0] => wide_Sign.r bd call n v0 ⟨0, .nil⟩ | a => E C n 415 [] (argsA 0 a) ⟨0, .nil⟩ (kR C 415))
theorem wide_Sign.rf_b (n : Nat) (a : List V) (H : Heap) : (match a with | [v0] => wide_Sign.r @bdI (callA C n) n v0 H | a => E C n 415 [] (argsA 0 a) H (kR C 415)) = E C n 415 [] (argsA 0 a) H (kR C 415) := by
  split
  · exact wide_Sign.r_e n _ H
  · rfl
theorem wide_Sign.rf_e (n : Nat) (a : List V) (H : Heap) : wide_Sign.rf @bdI (callA C n) n a H = callA C (n + 1) 415 a H := by
  unfold wide_Sign.rf
  refine (congrArg (pureA a H) (funext fun a => wide_Sign.rf_b n a ⟨0, .nil⟩)).trans ?_
  kernel_rfl
noncomputable def quad_below.r (bd : B3) (call : FuncId → List V → Heap → Option R) (n : Nat) (v0 : V) (H : Heap) : Option R :=
 (bd (boxA ty_api_Quad v0) fun o1 =>
 (bd (idxP 4 1 (.ptr (some (H.n, 0))) (.int .i64 3)) fun t3_2 =>
 (bd (ld1 t3_2 (H.push o1)) fun t4_3 =>
 (bd (shA .shr t4_3 (.int .u64 63)) fun t5_4 =>
 (bd (arA .eql t5_4 (.int .u64 1)) fun t6_5 =>
 (some (t6_5, (H.push o1))))))))
theorem quad_below.r_e (n : Nat) (v0 : V) (H : Heap) : quad_below.r @bdI (callA C n) n v0 H = E C n 418 [] (argsA 0 [v0]) H (kR C 418) := by
  unfold quad_below.r
  kernel_rfl
noncomputable def quad_below.rf (bd : B3) (call : FuncId → List V → Heap → Option R) (n : Nat) (a : List V) (H : Heap) : Option R := pureA a H fun a => (match a with | [v0] => quad_below.r bd call n v0 ⟨0, .nil⟩ | a => E C n 418 [] (argsA 0 a) ⟨0, .nil⟩ (kR C 418))
theorem quad_below.rf_b (n : Nat) (a : List V) (H : Heap) : (match a with | [v0] => quad_below.r @bdI (callA C n) n v0 H | a => E C n 418 [] (argsA 0 a) H (kR C 418)) = E C n 418 [] (argsA 0 a) H (kR C 418) := by
  split
  · exact quad_below.r_e n _ H
  · rfl
theorem quad_below.rf_e (n : Nat) (a : List V) (H : Heap) : quad_below.rf @bdI (callA C n) n a H = callA C (n + 1) 418 a H := by
  unfold quad_below.rf
  refine (congrArg (pureA a H) (funext fun a => quad_below.rf_b n a ⟨0, .nil⟩)).trans ?_
  kernel_rfl
@[irreducible] noncomputable def quad_apart.p0 (n : Nat) (v1 v2 v4 : V) (H : Heap) : Option R := E C n 434 [1, 1, 1] [(1, v1), (2, v2), (4, v4)] H (kR C 434)
noncomputable def quad_apart.r_p0 (bd : B3) (call : FuncId → List V → Heap → Option R) (n : Nat) (v1 v2 v4 : V) (H : Heap) : Option R :=
 (bd (faA 1 v1) fun t11_1 =>
 (bd (ld1 t11_1 H) fun t12_2 =>
 (bd (faA 0 v1) fun t13_3 =>
 (bd (ld1 t13_3 H) fun t14_4 =>
 (bd (cvInt .u64 t14_4) fun t15_5 =>
 (bd (flE 1 [(.int .u64 0), (.int .u64 0)] [(0, t12_2), (1, t15_5)]) fun t16_6 =>
 (bd (stA 2 v2 t16_6 H) fun H7 =>
 (bd (ldN 2 v2 H7) fun t8 =>
 (some (.tuple [t8, v4], H7))))))))))
theorem quad_apart.r_p0_e (n : Nat) : quad_apart.r_p0 @bdI (callA C n) n = quad_apart.p0 n := by
  funext v1 v2 v4 H
  unfold quad_apart.r_p0
  kernel_rfl
noncomputable def quad_apart.r (bd : B3) (call : FuncId → List V → Heap → Option R) (n : Nat) (v0 : V) (H : Heap) : Option R :=
 (bd (boxA ty_api_Wide v0) fun o1 =>
 (bd (faA 0 (.ptr (some (H.n, 0)))) fun t5_2 =>
 (bd (ld1 t5_2 ((H.push o1).push (.cells [(.int .u64 0), (.int .u64 0)] ty_2_uint64 false))) fun t6_3 =>
 (bd (arA .lss t6_3 (.int .i64 0)) fun t7_4 =>
 (bd (asB t7_4) fun b5 =>
 if b5 = true then
 (bd (ldN 2 (.ptr (some (H.n, 0))) ((H.push o1).push (.cells [(.int .u64 0), (.int .u64 0)] ty_2_uint64 false))) fun t9_6 =>
 (bd (call 451 [t9_6] ((H.push o1).push (.cells [(.int .u64 0), (.int .u64 0)] ty_2_uint64 false))) fun r7 =>
 (bd (stA 2 (.ptr (some (H.n, 0))) r7.1 r7.2) fun H8 =>
 (quad_apart.r_p0 bd call n (.ptr (some (H.n, 0))) (.ptr (some ((H.push o1).n, 0))) t7_4 H8))))
 else
 (quad_apart.r_p0 bd call n (.ptr (some (H.n, 0))) (.ptr (some ((H.push o1).n, 0))) t7_4 ((H.push o1).push (.cells [(.int .u64 0), (.int .u64 0)] ty_2_uint64 false))))))))
theorem quad_apart.r_e (n : Nat) (v0 : V) (H : Heap) : quad_apart.r @bdI (callA C n) n v0 H = E C n 434 [] (argsA 0 [v0]) H (kR C 434) := by
  unfold quad_apart.r
  rewrite [quad_apart.r_p0_e]
  kernel_rfl
noncomputable def quad_apart.rf (bd : B3) (call : FuncId → List V → Heap → Option R) (n : Nat) (a : List V) (H : Heap) : Option R := pureA a H fun a => (match a with | [v0] => quad_apart.r bd call n v0 ⟨0, .nil⟩ | a => E C n 434 [] (argsA 0 a) ⟨0, .nil⟩ (kR C 434))
theorem quad_apart.rf_b (n : Nat) (a : List V) (H : Heap) : (match a with | [v0] => quad_apart.r @bdI (callA C n) n v0 H | a => E C n 434 [] (argsA 0 a) H (kR C 434)) = E C n 434 [] (argsA 0 a) H (kR C 434) := by
  split
  · exact quad_apart.r_e n _ H
  · rfl
theorem quad_apart.rf_e (n : Nat) (a : List V) (H : Heap) : quad_apart.rf @bdI (callA C n) n a H = callA C (n + 1) 434 a H := by
  unfold quad_apart.rf
  refine (congrArg (pureA a H) (funext fun a => quad_apart.rf_b n a ⟨0, .nil⟩)).trans ?_
  kernel_rfl
noncomputable def wide_sign.r (bd : B3) (call : FuncId → List V → Heap → Option R) (n : Nat) (v0 : V) (H : Heap) : Option R :=
 (bd (boxA ty_api_Wide v0) fun o1 =>
 (bd (faA 0 (.ptr (some (H.n, 0)))) fun t4_2 =>
 (bd (ld1 t4_2 (H.push o1)) fun t5_3 =>
 (bd (arA .lss t5_3 (.int .i64 0)) fun t6_4 =>
 (bd (asB t6_4) fun b5 =>
 if b5 = true then
 (some ((.int .i64 (-1)), (H.push o1)))
 else
 (bd (faA 0 (.ptr (some (H.n, 0)))) fun t8_6 =>
 (bd (ld1 t8_6 (H.push o1)) fun t9_7 =>
 (bd (arA .eql t9_7 (.int .i64 0)) fun t10_8 =>
 (bd (asB t10_8) fun b9 =>
 if b9 = true then
 (bd (faA 1 (.ptr (some (H.n, 0)))) fun t12_10 =>
 (bd (ld1 t12_10 (H.push o1)) fun t13_11 =>
 (bd (arA .eql t13_11 (.int .u64 0)) fun t14_12 =>
 (bd (asB t14_12) fun b13 =>
 if b13 = true then
 (some ((.int .i64 0), (H.push o1)))
 else
 (some ((.int .i64 1), (H.push o1)))))))
 else
 (some ((.int .i64 1), (H.push o1))))))))))))
theorem wide_sign.r_e (n : Nat) (v0 : V) (H : Heap) : wide_sign.r @bdI (callA C n) n v0 H = E C n 436 [] (argsA 0 [v0]) H (kR C 436) := by
  unfold wide_sign.r
  kernel_rfl
noncomputable def wide_sign.rf (bd : B3) (call : FuncId → List V → Heap → Option R) (n : Nat) (a : List V) (H : Heap) : Option R := pureA a H fun a => (match a with | [v0] => wide_sign.r bd call n v0 ⟨0, .nil⟩ | a => E C n 436 [] (argsA 0 a) ⟨0, .nil⟩ (kR C 436))
theorem wide_sign.rf_b (n : Nat) (a : List V) (H : Heap) : (match a with | [v0] => wide_sign.r @bdI (callA C n) n v0 H | a => E C n 436 [] (argsA 0 a) H (kR C 436)) = E C n 436 [] (argsA 0 a) H (kR C 436) := by
  split
  · exact wide_sign.r_e n _ H
  · rfl
theorem wide_sign.rf_e (n : Nat) (a : List V) (H : Heap) : wide_sign.rf @bdI (callA C n) n a H = callA C (n + 1) 436 a H := by
  unfold wide_sign.rf
  refine (congrArg (pureA a H) (funext fun a => wide_sign.rf_b n a ⟨0, .nil⟩)).trans ?_
  kernel_rfl
end Go.AM.L
end
section
set_option linter.unusedVariables false
set_option linter.unusedSimpArgs false
set_option maxRecDepth 1000000
namespace Go.AM.L
theorem fns1_0 : tabList0.all (fun p => okFun P p.1) = true := by kernel_rfl
theorem fns1_1 : tabList1.all (fun p => okFun P p.1) = true := by kernel_rfl
theorem fns1_2 : tabList2.all (fun p => okFun P p.1) = true := by kernel_rfl
theorem fns1_3 : tabList3.all (fun p => okFun P p.1) = true := by kernel_rfl
theorem fns1_4 : tabList4.all (fun p => okFun P p.1) = true := by kernel_rfl
theorem fns1_5 : tabList5.all (fun p => okFun P p.1) = true := by kernel_rfl
theorem fns1_6 : tabList6.all (fun p => okFun P p.1) = true := by kernel_rfl
theorem fns1_7 : tabList7.all (fun p => okFun P p.1) = true := by kernel_rfl
theorem fns1_8 : tabList8.all (fun p => okFun P p.1) = true := by kernel_rfl
theorem fns1_9 : tabList9.all (fun p => okFun P p.1) = true := by kernel_rfl
theorem fns1_10 : tabList10.all (fun p => okFun P p.1) = true := by kernel_rfl
theorem fns1_11 : tabList11.all (fun p => okFun P p.1) = true := by kernel_rfl
theorem fns1 : tabList.all (fun p => okFun P p.1) = true := by simp only [tabList, List.all_append, fns1_0, fns1_1, fns1_2, fns1_3, fns1_4, fns1_5, fns1_6, fns1_7, fns1_8, fns1_9, fns1_10, fns1_11, Bool.and_self]
theorem fns : ∀ f tab, C.tabs f = some tab → okFun C.P f = true := fun f tab h => List.all_eq_true.1 fns1 (f, tab) (look_mem h)
set_option maxHeartbeats 8000000 in
theorem exts : ∀ p ∈ extList, ExtSound C.P p.1 p.2 ∧ ExtFrame p.2 := by
  intro p hp
  simp only [extList, List.mem_cons, List.not_mem_nil, or_false] at hp
  rcases hp with rfl | rfl | rfl | rfl | rfl | rfl
  · exact ⟨xs_cnt (Go.Proofs.Tryz.func38) (by kernel_rfl) (by kernel_rfl) (by kernel_rfl) (by kernel_rfl), extCnt_frame⟩
  · exact ⟨xs_id (Go.Proofs.Tryz.func64) (by kernel_rfl) (by kernel_rfl) (by kernel_rfl) (by kernel_rfl), extId_frame⟩
  · exact ⟨xs_idx (Go.Proofs.Tryz.func77) (by kernel_rfl) (by kernel_rfl) (by kernel_rfl) (by kernel_rfl), extIdx_frame⟩
  · exact ⟨xs_mk (ps := #[3]) (t := 23) (e := 5) (Go.Proofs.Tryz.func81) (by kernel_rfl) (by kernel_rfl) (by kernel_rfl) (by kernel_rfl) (by kernel_rfl), extMk_frame _⟩
  · exact ⟨xs_sub64 (Go.Proofs.Tryz.func172) (by kernel_rfl) (by kernel_rfl) (by kernel_rfl) (by kernel_rfl), extSub64_frame⟩
  · exact ⟨xs_add64 (Go.Proofs.Tryz.func370) (by kernel_rfl) (by kernel_rfl) (by kernel_rfl) (by kernel_rfl), extAdd64_frame⟩
theorem mixed : C.P.follows .mixedOrders = true := (show P.follows .mixedOrders = true from seat_mixed)
theorem ext_mem {f : Nat} {g : List V → Heap → Option R} (h : C.ext f = some g) : (f, g) ∈ extList := look_mem (l := extList) (show extList.lookup f = some g from h)
theorem ok : C.Ok := { mixed := mixed, fns := fns, ext := fun f g h => exts (f, g) (ext_mem h), okc := fun _ _ h => h }
end Go.AM.L
end
