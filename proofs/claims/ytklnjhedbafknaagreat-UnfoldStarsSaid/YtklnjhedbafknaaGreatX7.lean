/- Merged by program from: UvLR9 UvLR10 UvLR11 UvLO. -/
import Derived.Test.YtklnjhedbafknaaGreatX6
section
set_option linter.unusedVariables false
set_option linter.unusedSimpArgs false
set_option maxRecDepth 1000000
set_option linter.unusedVariables false
namespace Go.AM.L
noncomputable def pred_square.r (bd : B3) (call : FuncId → List V → Heap → Option R) (n : Nat) (v0 : V) (H : Heap) : Option R :=
 (bd (boxA ty_api_Point v0) fun o1 =>
 (bd (faA 0 (.ptr (some (H.n, 0)))) fun t3_2 =>
 (bd (ld1 t3_2 (((H.push o1).push (.cells [(.int .i64 0), (.int .u64 0)] ty_api_Wide false)).more 0)) fun t4_3 =>
 (bd (faA 0 (.ptr (some (H.n, 0)))) fun t5_4 =>
 (bd (ld1 t5_4 (((H.push o1).push (.cells [(.int .i64 0), (.int .u64 0)] ty_api_Wide false)).more 0)) fun t6_5 =>
 (bd (call 29 [t4_3, t6_5] (((H.push o1).push (.cells [(.int .i64 0), (.int .u64 0)] ty_api_Wide false)).more 0)) fun r6 =>
 (bd (faA 1 (.ptr (some (H.n, 0)))) fun t8_7 =>
 (bd (ld1 t8_7 r6.2) fun t9_8 =>
 (bd (chk (ld1 t8_7 (((H.push o1).push (.cells [(.int .i64 0), (.int .u64 0)] ty_api_Wide false)).more 0)) t9_8) fun _ =>
 (bd (faA 1 (.ptr (some (H.n, 0)))) fun t10_9 =>
 (bd (ld1 t10_9 r6.2) fun t11_10 =>
 (bd (chk (ld1 t10_9 (((H.push o1).push (.cells [(.int .i64 0), (.int .u64 0)] ty_api_Wide false)).more 0)) t11_10) fun _ =>
 (bd (call 29 [t9_8, t11_10] r6.2) fun r11 =>
 (bd (call 55 [r6.1, r11.1] r11.2) fun r12 =>
 (bd (stA 2 (.ptr (some ((H.push o1).n, 0))) r12.1 r12.2) fun H13 =>
 (bd (ldN 2 (.ptr (some ((H.push o1).n, 0))) H13) fun t14 =>
 (some (t14, H13))))))))))))))))))
theorem pred_square.r_e (n : Nat) (v0 : V) (H : Heap) : pred_square.r @bdI (callA C n) n v0 H = E C n 156 [] (argsA 0 [v0]) H (kR C 156) := by
  unfold pred_square.r
  kernel_rfl
noncomputable def pred_square.rf (bd : B3) (call : FuncId → List V → Heap → Option R) (n : Nat) (a : List V) (H : Heap) : Option R := pureA a H fun a => (match a with | [v0] => pred_square.r bd call n v0 ⟨0, .nil⟩ | a => E C n 156 [] (argsA 0 a) ⟨0, .nil⟩ (kR C 156))
theorem pred_square.rf_b (n : Nat) (a : List V) (H : Heap) : (match a with | [v0] => pred_square.r @bdI (callA C n) n v0 H | a => E C n 156 [] (argsA 0 a) H (kR C 156)) = E C n 156 [] (argsA 0 a) H (kR C 156) := by
  split
  · exact pred_square.r_e n _ H
  · rfl
theorem pred_square.rf_e (n : Nat) (a : List V) (H : Heap) : pred_square.rf @bdI (callA C n) n a H = callA C (n + 1) 156 a H := by
  unfold pred_square.rf
  refine (congrArg (pureA a H) (funext fun a => pred_square.rf_b n a ⟨0, .nil⟩)).trans ?_
  kernel_rfl
noncomputable def quad_Add.r (bd : B3) (call : FuncId → List V → Heap → Option R) (n : Nat) (v0 v1 : V) (H : Heap) : Option R :=
 (bd (boxA ty_api_Quad v0) fun o1 =>
 (bd (boxA ty_api_Quad v1) fun o2 =>
 (bd (ldN 4 (.ptr (some (H.n, 0))) (((H.push o1).push o2).push (.cells [(.int .u64 0), (.int .u64 0), (.int .u64 0), (.int .u64 0)] ty_api_Quad false))) fun t5_3 =>
 (bd (ldN 4 (.ptr (some ((H.push o1).n, 0))) (((H.push o1).push o2).push (.cells [(.int .u64 0), (.int .u64 0), (.int .u64 0), (.int .u64 0)] ty_api_Quad false))) fun t6_4 =>
 (bd (call 201 [t5_3, t6_4] (((H.push o1).push o2).push (.cells [(.int .u64 0), (.int .u64 0), (.int .u64 0), (.int .u64 0)] ty_api_Quad false))) fun r5 =>
 (bd (stA 4 (.ptr (some (((H.push o1).push o2).n, 0))) r5.1 r5.2) fun H6 =>
 (bd (ldN 4 (.ptr (some (((H.push o1).push o2).n, 0))) H6) fun t7 =>
 (some (t7, H6)))))))))
theorem quad_Add.r_e (n : Nat) (v0 v1 : V) (H : Heap) : quad_Add.r @bdI (callA C n) n v0 v1 H = E C n 157 [] (argsA 0 [v0, v1]) H (kR C 157) := by
  unfold quad_Add.r
  kernel_rfl
noncomputable def quad_Add.rf (bd : B3) (call : FuncId → List V → Heap → Option R) (n : Nat) (a : List V) (H : Heap) : Option R := pureA a H fun a => (match a with | [v0, v1] => quad_Add.r bd call n v0 v1 ⟨0, .nil⟩ | a => E C n 157 [] (argsA 0 a) ⟨0, .nil⟩ (kR C 157))
theorem quad_Add.rf_b (n : Nat) (a : List V) (H : Heap) : (match a with | [v0, v1] => quad_Add.r @bdI (callA C n) n v0 v1 H | a => E C n 157 [] (argsA 0 a) H (kR C 157)) = E C n 157 [] (argsA 0 a) H (kR C 157) := by
  split
  · exact quad_Add.r_e n _ _ H
  · rfl
theorem quad_Add.rf_e (n : Nat) (a : List V) (H : Heap) : quad_Add.rf @bdI (callA C n) n a H = callA C (n + 1) 157 a H := by
  unfold quad_Add.rf
  refine (congrArg (pureA a H) (funext fun a => quad_Add.rf_b n a ⟨0, .nil⟩)).trans ?_
  kernel_rfl
noncomputable def quad_Sign.r (bd : B3) (call : FuncId → List V → Heap → Option R) (n : Nat) (v0 : V) (H : Heap) : Option R :=
 (bd (boxA ty_api_Quad v0) fun o1 =>
 (bd (ldN 4 (.ptr (some (H.n, 0))) (H.push o1)) fun t4_2 =>
 (bd (call 202 [t4_2] (H.push o1)) fun r3 =>
 (bd (asB r3.1) fun b4 =>
 if b4 = true then
 (some ((.int .i64 (-1)), r3.2))
 else
 (bd (ldN 4 (.ptr (some (H.n, 0))) r3.2) fun t7_5 =>
 (bd (flE 1 [(.int .u64 0), (.int .u64 0), (.int .u64 0), (.int .u64 0)] []) fun t8_6 =>
 (bd (eqlA P ty_api_Quad t7_5 t8_6) fun t9_7 =>
 (bd (asB t9_7) fun b8 =>
 if b8 = true then
 (some ((.int .i64 0), r3.2))
 else
 (some ((.int .i64 1), r3.2))))))))))
theorem quad_Sign.r_e (n : Nat) (v0 : V) (H : Heap) : quad_Sign.r @bdI (callA C n) n v0 H = E C n 158 [] (argsA 0 [v0]) H (kR C 158) := by
  unfold quad_Sign.r
  kernel_rfl
noncomputable def quad_Sign.rf (bd : B3) (call : FuncId → List V → Heap → Option R) (n : Nat) (a : List V) (H : Heap) : Option R := pureA a H fun a => (match a with | [v0] => quad_Sign.r bd call n v0 ⟨0, .nil⟩ | a => E C n 158 [] (argsA 0 a) ⟨0, .nil⟩ (kR C 158))
theorem quad_Sign.rf_b (n : Nat) (a : List V) (H : Heap) : (match a with | [v0] => quad_Sign.r @bdI (callA C n) n v0 H | a => E C n 158 [] (argsA 0 a) H (kR C 158)) = E C n 158 [] (argsA 0 a) H (kR C 158) := by
  split
  · exact quad_Sign.r_e n _ H
  · rfl
theorem quad_Sign.rf_e (n : Nat) (a : List V) (H : Heap) : quad_Sign.rf @bdI (callA C n) n a H = callA C (n + 1) 158 a H := by
  unfold quad_Sign.rf
  refine (congrArg (pureA a H) (funext fun a => quad_Sign.rf_b n a ⟨0, .nil⟩)).trans ?_
  kernel_rfl
noncomputable def lift_Cmp.r (bd : B3) (call : FuncId → List V → Heap → Option R) (n : Nat) (v0 v1 : V) (H : Heap) : Option R :=
 (bd (boxA ty_api_Point v0) fun o1 =>
 (bd (boxA ty_api_Point v1) fun o2 =>
 (bd (faA 0 (.ptr (some (H.n, 0)))) fun t5_3 =>
 (bd (ld1 t5_3 (((H.push o1).push o2).more 1)) fun t6_4 =>
 (bd (faA 0 (.ptr (some ((H.push o1).n, 0)))) fun t7_5 =>
 (bd (ld1 t7_5 (((H.push o1).push o2).more 1)) fun t8_6 =>
 (bd (call 203 [t6_4, t8_6] (((H.push o1).push o2).more 1)) fun r7 =>
 (bd (faA 1 (.ptr (some (H.n, 0)))) fun t10_8 =>
 (bd (ld1 t10_8 r7.2) fun t11_9 =>
 (bd (chk (ld1 t10_8 (((H.push o1).push o2).more 1)) t11_9) fun _ =>
 (bd (faA 1 (.ptr (some ((H.push o1).n, 0)))) fun t12_10 =>
 (bd (ld1 t12_10 r7.2) fun t13_11 =>
 (bd (chk (ld1 t12_10 (((H.push o1).push o2).more 1)) t13_11) fun _ =>
 (bd (call 203 [t11_9, t13_11] r7.2) fun r12 =>
 (bd (bSl 1 ty_int [(.int .i64 0)] 2 [(0, r7.1), (1, r12.1)]) fun o13 =>
 (bd (call 84 [(.slice ⟨some ((((H.push o1).push o2).n + 0), 0), 2, 1, false⟩)] (r12.2.set (((H.push o1).push o2).n + 0) o13)) fun r14 =>
 (some (r14.1, r14.2))))))))))))))))))
theorem lift_Cmp.r_e (n : Nat) (v0 v1 : V) (H : Heap) : lift_Cmp.r @bdI (callA C n) n v0 v1 H = E C n 159 [] (argsA 0 [v0, v1]) H (kR C 159) := by
  unfold lift_Cmp.r
  kernel_rfl
noncomputable def lift_Cmp.rf (bd : B3) (call : FuncId → List V → Heap → Option R) (n : Nat) (a : List V) (H : Heap) : Option R := pureA a H fun a => (match a with | [v0, v1] => lift_Cmp.r bd call n v0 v1 ⟨0, .nil⟩ | a => E C n 159 [] (argsA 0 a) ⟨0, .nil⟩ (kR C 159))
theorem lift_Cmp.rf_b (n : Nat) (a : List V) (H : Heap) : (match a with | [v0, v1] => lift_Cmp.r @bdI (callA C n) n v0 v1 H | a => E C n 159 [] (argsA 0 a) H (kR C 159)) = E C n 159 [] (argsA 0 a) H (kR C 159) := by
  split
  · exact lift_Cmp.r_e n _ _ H
  · rfl
theorem lift_Cmp.rf_e (n : Nat) (a : List V) (H : Heap) : lift_Cmp.rf @bdI (callA C n) n a H = callA C (n + 1) 159 a H := by
  unfold lift_Cmp.rf
  refine (congrArg (pureA a H) (funext fun a => lift_Cmp.rf_b n a ⟨0, .nil⟩)).trans ?_
  kernel_rfl
noncomputable def lift_Home.r (bd : B3) (call : FuncId → List V → Heap → Option R) (n : Nat) (v0 v1 : V) (H : Heap) : Option R :=
 (bd (boxA ty_api_Point v0) fun o1 =>
 (bd (call 150 [v1] (((H.push o1).push (.cells [(.int .i64 0), (.int .i64 0)] ty_api_Point false)).push (.cells [(.int .i64 0), (.int .i64 0)] ty_api_Off false))) fun r2 =>
 (bd (unA .not r2.1) fun t13_3 =>
 (bd (asB t13_3) fun b4 =>
 if b4 = true then
 (bd (flA [(0, 1), (1, 1)] [(.int .i64 0), (.int .i64 0)] []) fun t19_5 =>
 (bd (flA [(0, 1), (1, 1)] [(.int .i64 0), (.int .i64 0)] []) fun t20_6 =>
 (bd (stA 2 (.ptr (some ((H.push o1).n, 0))) t19_5 r2.2) fun H7 =>
 (bd (stA 2 (.ptr (some (((H.push o1).push (.cells [(.int .i64 0), (.int .i64 0)] ty_api_Point false)).n, 0))) t20_6 H7) fun H8 =>
 (bd (ldN 2 (.ptr (some ((H.push o1).n, 0))) H8) fun t9 =>
 (bd (ldN 2 (.ptr (some (((H.push o1).push (.cells [(.int .i64 0), (.int .i64 0)] ty_api_Point false)).n, 0))) H8) fun t10 =>
 (some (.tuple [t9, t10, (.bool false)], H8))))))))
 else
 (bd (ldN 2 (.ptr (some (H.n, 0))) r2.2) fun t15_11 =>
 (bd (call 124 [t15_11] r2.2) fun r12 =>
 (bd (unA .not r12.1) fun t17_13 =>
 (bd (asB t17_13) fun b14 =>
 if b14 = true then
 (bd (flA [(0, 1), (1, 1)] [(.int .i64 0), (.int .i64 0)] []) fun t19_15 =>
 (bd (flA [(0, 1), (1, 1)] [(.int .i64 0), (.int .i64 0)] []) fun t20_16 =>
 (bd (stA 2 (.ptr (some ((H.push o1).n, 0))) t19_15 r12.2) fun H17 =>
 (bd (stA 2 (.ptr (some (((H.push o1).push (.cells [(.int .i64 0), (.int .i64 0)] ty_api_Point false)).n, 0))) t20_16 H17) fun H18 =>
 (bd (ldN 2 (.ptr (some ((H.push o1).n, 0))) H18) fun t19 =>
 (bd (ldN 2 (.ptr (some (((H.push o1).push (.cells [(.int .i64 0), (.int .i64 0)] ty_api_Point false)).n, 0))) H18) fun t20 =>
 (some (.tuple [t19, t20, (.bool false)], H18))))))))
 else
 (bd (faA 0 (.ptr (some (H.n, 0)))) fun t22_21 =>
 (bd (ld1 t22_21 r12.2) fun t23_22 =>
 (bd (call 204 [t23_22, v1] r12.2) fun r23 =>
 (bd (extA r23.1 0) fun t26_24 =>
 (bd (extA r23.1 1) fun t27_25 =>
 (bd (faA 1 (.ptr (some (H.n, 0)))) fun t29_26 =>
 (bd (ld1 t29_26 r23.2) fun t30_27 =>
 (bd (call 204 [t30_27, v1] r23.2) fun r28 =>
 (bd (extA r28.1 0) fun t33_29 =>
 (bd (extA r28.1 1) fun t34_30 =>
 (bd (flA [(0, 1), (1, 1)] [(.int .i64 0), (.int .i64 0)] [(0, t26_24), (1, t33_29)]) fun t37_31 =>
 (bd (flA [(0, 1), (1, 1)] [(.int .i64 0), (.int .i64 0)] [(0, t27_25), (1, t34_30)]) fun t40_32 =>
 (bd (stA 2 (.ptr (some ((H.push o1).n, 0))) t37_31 r28.2) fun H33 =>
 (bd (stA 2 (.ptr (some (((H.push o1).push (.cells [(.int .i64 0), (.int .i64 0)] ty_api_Point false)).n, 0))) t40_32 H33) fun H34 =>
 (bd (ldN 2 (.ptr (some ((H.push o1).n, 0))) H34) fun t35 =>
 (bd (ldN 2 (.ptr (some (((H.push o1).push (.cells [(.int .i64 0), (.int .i64 0)] ty_api_Point false)).n, 0))) H34) fun t36 =>
 (some (.tuple [t35, t36, (.bool true)], H34))))))))))))))))))))))))))
theorem lift_Home.r_e (n : Nat) (v0 v1 : V) (H : Heap) : lift_Home.r @bdI (callA C n) n v0 v1 H = E C n 161 [] (argsA 0 [v0, v1]) H (kR C 161) := by
  unfold lift_Home.r
  kernel_rfl
noncomputable def lift_Home.rf (bd : B3) (call : FuncId → List V → Heap → Option R) (n : Nat) (a : List V) (H : Heap) : Option R := pureA a H fun a => (match a with | [v0, v1] => lift_Home.r bd call n v0 v1 ⟨0, .nil⟩ | a => E C n 161 [] (argsA 0 a) ⟨0, .nil⟩ (kR C 161))
theorem lift_Home.rf_b (n : Nat) (a : List V) (H : Heap) : (match a with | [v0, v1] => lift_Home.r @bdI (callA C n) n v0 v1 H | a => E C n 161 [] (argsA 0 a) H (kR C 161)) = E C n 161 [] (argsA 0 a) H (kR C 161) := by
  split
  · exact lift_Home.r_e n _ _ H
  · rfl
theorem lift_Home.rf_e (n : Nat) (a : List V) (H : Heap) : lift_Home.rf @bdI (callA C n) n a H = callA C (n + 1) 161 a H := by
  unfold lift_Home.rf
  refine (congrArg (pureA a H) (funext fun a => lift_Home.rf_b n a ⟨0, .nil⟩)).trans ?_
  kernel_rfl
noncomputable def mesh_Mesh_Corner.r (bd : B3) (call : FuncId → List V → Heap → Option R) (n : Nat) (v0 v1 v2 : V) (H : Heap) : Option R :=
 (bd (call 205 [v0, v1] (H.push (.cells [(.int .i64 0), (.int .i64 0)] ty_api_Point false))) fun r1 =>
 (bd (unA .not r1.1) fun t11_2 =>
 (bd (asB t11_2) fun b3 =>
 if b3 = true then
 (bd (flA [(0, 1), (1, 1)] [(.int .i64 0), (.int .i64 0)] []) fun t12_4 =>
 (bd (stA 2 (.ptr (some (H.n, 0))) t12_4 r1.2) fun H5 =>
 (bd (ldN 2 (.ptr (some (H.n, 0))) H5) fun t6 =>
 (some (.tuple [t6, (.bool false)], H5)))))
 else
 (bd (call 207 [v2] (r1.2.more 0)) fun r7 =>
 (bd (nilC v0) fun t15_8 =>
 (bd (faA 4 t15_8) fun t16_9 =>
 (bd (ld1 t16_9 r7.2) fun t17_10 =>
 (bd (chk (ld1 t16_9 (r1.2.more 0)) t17_10) fun _ =>
 (bd (idxS 9 t17_10 v1) fun t19_11 =>
 (bd (ldN 9 t19_11 r7.2) fun t20_12 =>
 (bd (chk (ldN 9 t19_11 (r1.2.more 0)) t20_12) fun _ =>
 (bd (call 206 [v0, t20_12, r7.1] r7.2) fun r13 =>
 (bd (extA r13.1 0) fun t24_14 =>
 (bd (extA r13.1 1) fun t25_15 =>
 (bd (stA 2 (.ptr (some (H.n, 0))) t24_14 r13.2) fun H16 =>
 (bd (ldN 2 (.ptr (some (H.n, 0))) H16) fun t17 =>
 (some (.tuple [t17, t25_15], H16))))))))))))))))))
theorem mesh_Mesh_Corner.r_e (n : Nat) (v0 v1 v2 : V) (H : Heap) : mesh_Mesh_Corner.r @bdI (callA C n) n v0 v1 v2 H = E C n 162 [] (argsA 0 [v0, v1, v2]) H (kR C 162) := by
  unfold mesh_Mesh_Corner.r
  kernel_rfl
noncomputable def mesh_Mesh_Corner.rf (bd : B3) (call : FuncId → List V → Heap → Option R) (n : Nat) (a : List V) (H : Heap) : Option R := (match a with | [v0, v1, v2] => mesh_Mesh_Corner.r bd call n v0 v1 v2 H | a => E C n 162 [] (argsA 0 a) H (kR C 162))
theorem mesh_Mesh_Corner.rf_b (n : Nat) (a : List V) (H : Heap) : (match a with | [v0, v1, v2] => mesh_Mesh_Corner.r @bdI (callA C n) n v0 v1 v2 H | a => E C n 162 [] (argsA 0 a) H (kR C 162)) = E C n 162 [] (argsA 0 a) H (kR C 162) := by
  split
  · exact mesh_Mesh_Corner.r_e n _ _ _ H
  · rfl
theorem mesh_Mesh_Corner.rf_e (n : Nat) (a : List V) (H : Heap) : mesh_Mesh_Corner.rf @bdI (callA C n) n a H = callA C (n + 1) 162 a H := by
  unfold mesh_Mesh_Corner.rf
  refine (mesh_Mesh_Corner.rf_b n a H).trans ?_
  kernel_rfl
noncomputable def mesh_Mesh_vert.r (bd : B3) (call : FuncId → List V → Heap → Option R) (n : Nat) (v0 v1 : V) (H : Heap) : Option R :=
 (bd (neqA P ty_p_mesh_Mesh v0 (.ptr none)) fun t6_1 =>
 (bd (asB t6_1) fun b2 =>
 if b2 = true then
 (bd (nilC v0) fun t9_3 =>
 (bd (faA 1 t9_3) fun t10_4 =>
 (bd (ld1 t10_4 H) fun t11_5 =>
 (bd (call 211 [t11_5, v1] H) fun r6 =>
 (some (r6.1, r6.2))))))
 else
 (some ((.bool false), H))))
theorem mesh_Mesh_vert.r_e (n : Nat) (v0 v1 : V) (H : Heap) : mesh_Mesh_vert.r @bdI (callA C n) n v0 v1 H = E C n 164 [] (argsA 0 [v0, v1]) H (kR C 164) := by
  unfold mesh_Mesh_vert.r
  kernel_rfl
noncomputable def mesh_Mesh_vert.rf (bd : B3) (call : FuncId → List V → Heap → Option R) (n : Nat) (a : List V) (H : Heap) : Option R := (match a with | [v0, v1] => mesh_Mesh_vert.r bd call n v0 v1 H | a => E C n 164 [] (argsA 0 a) H (kR C 164))
theorem mesh_Mesh_vert.rf_b (n : Nat) (a : List V) (H : Heap) : (match a with | [v0, v1] => mesh_Mesh_vert.r @bdI (callA C n) n v0 v1 H | a => E C n 164 [] (argsA 0 a) H (kR C 164)) = E C n 164 [] (argsA 0 a) H (kR C 164) := by
  split
  · exact mesh_Mesh_vert.r_e n _ _ H
  · rfl
theorem mesh_Mesh_vert.rf_e (n : Nat) (a : List V) (H : Heap) : mesh_Mesh_vert.rf @bdI (callA C n) n a H = callA C (n + 1) 164 a H := by
  unfold mesh_Mesh_vert.rf
  refine (mesh_Mesh_vert.rf_b n a H).trans ?_
  kernel_rfl
noncomputable def circum_circle.r (bd : B3) (call : FuncId → List V → Heap → Option R) (n : Nat) (v0 v1 v2 : V) (H : Heap) : Option R :=
 (bd (boxA ty_api_Point v0) fun o1 =>
 (bd (boxA ty_api_Point v1) fun o2 =>
 (bd (boxA ty_api_Point v2) fun o3 =>
 (bd (ldN 2 (.ptr (some (H.n, 0))) (((H.push o1).push o2).push o3)) fun t7_4 =>
 (bd (ldN 2 (.ptr (some ((H.push o1).n, 0))) (((H.push o1).push o2).push o3)) fun t8_5 =>
 (bd (ldN 2 (.ptr (some (((H.push o1).push o2).n, 0))) (((H.push o1).push o2).push o3)) fun t9_6 =>
 (bd (call 54 [t7_4, t8_5, t9_6] (((H.push o1).push o2).push o3)) fun r7 =>
 (bd (arA .neq r7.1 (.int .i64 0)) fun t11_8 =>
 (some (t11_8, r7.2))))))))))
theorem circum_circle.r_e (n : Nat) (v0 v1 v2 : V) (H : Heap) : circum_circle.r @bdI (callA C n) n v0 v1 v2 H = E C n 165 [] (argsA 0 [v0, v1, v2]) H (kR C 165) := by
  unfold circum_circle.r
  kernel_rfl
noncomputable def circum_circle.rf (bd : B3) (call : FuncId → List V → Heap → Option R) (n : Nat) (a : List V) (H : Heap) : Option R := pureA a H fun a => (match a with | [v0, v1, v2] => circum_circle.r bd call n v0 v1 v2 ⟨0, .nil⟩ | a => E C n 165 [] (argsA 0 a) ⟨0, .nil⟩ (kR C 165))
theorem circum_circle.rf_b (n : Nat) (a : List V) (H : Heap) : (match a with | [v0, v1, v2] => circum_circle.r @bdI (callA C n) n v0 v1 v2 H | a => E C n 165 [] (argsA 0 a) H (kR C 165)) = E C n 165 [] (argsA 0 a) H (kR C 165) := by
  split
  · exact circum_circle.r_e n _ _ _ H
  · rfl
theorem circum_circle.rf_e (n : Nat) (a : List V) (H : Heap) : circum_circle.rf @bdI (callA C n) n a H = callA C (n + 1) 165 a H := by
  unfold circum_circle.rf
  refine (congrArg (pureA a H) (funext fun a => circum_circle.rf_b n a ⟨0, .nil⟩)).trans ?_
  kernel_rfl
noncomputable def whole_Mul.r (bd : B3) (call : FuncId → List V → Heap → Option R) (n : Nat) (v0 v1 : V) (H : Heap) : Option R :=
 (bd (boxA ty_api_Int v0) fun o1 =>
 (bd (boxA ty_api_Int v1) fun o2 =>
 (bd (faA 1 (.ptr (some (H.n, 0)))) fun t10_3 =>
 (bd (ld1 t10_3 ((((H.push o1).push o2).push (.cells [(.bool false), (.slice ⟨none, 0, 0, false⟩)] ty_api_Int false)).more 0)) fun t11_4 =>
 (bd (faA 1 (.ptr (some ((H.push o1).n, 0)))) fun t12_5 =>
 (bd (ld1 t12_5 ((((H.push o1).push o2).push (.cells [(.bool false), (.slice ⟨none, 0, 0, false⟩)] ty_api_Int false)).more 0)) fun t13_6 =>
 (bd (call 213 [t11_4, t13_6] ((((H.push o1).push o2).push (.cells [(.bool false), (.slice ⟨none, 0, 0, false⟩)] ty_api_Int false)).more 0)) fun r7 =>
 (bd (faA 0 (.ptr (some (H.n, 0)))) fun t5_8 =>
 (bd (ld1 t5_8 r7.2) fun t6_9 =>
 (bd (chk (ld1 t5_8 ((((H.push o1).push o2).push (.cells [(.bool false), (.slice ⟨none, 0, 0, false⟩)] ty_api_Int false)).more 0)) t6_9) fun _ =>
 (bd (faA 0 (.ptr (some ((H.push o1).n, 0)))) fun t7_10 =>
 (bd (ld1 t7_10 r7.2) fun t8_11 =>
 (bd (chk (ld1 t7_10 ((((H.push o1).push o2).push (.cells [(.bool false), (.slice ⟨none, 0, 0, false⟩)] ty_api_Int false)).more 0)) t8_11) fun _ =>
 (bd (neqA P ty_bool t6_9 t8_11) fun t9_12 =>
 (bd (call 212 [t9_12, r7.1] r7.2) fun r13 =>
 (bd (stA 2 (.ptr (some (((H.push o1).push o2).n, 0))) r13.1 r13.2) fun H14 =>
 (bd (ldN 2 (.ptr (some (((H.push o1).push o2).n, 0))) H14) fun t15 =>
 (frzR t15 H14))))))))))))))))))
theorem whole_Mul.r_e (n : Nat) (v0 v1 : V) (H : Heap) : whole_Mul.r @bdI (callA C n) n v0 v1 H = E C n 166 [] (argsA 0 [v0, v1]) H (kR C 166) := by
  unfold whole_Mul.r
  kernel_rfl
noncomputable def whole_Mul.rf (bd : B3) (call : FuncId → List V → Heap → Option R) (n : Nat) (a : List V) (H : Heap) : Option R := pureA a H fun a => (match a with | [v0, v1] => whole_Mul.r bd call n v0 v1 ⟨0, .nil⟩ | a => E C n 166 [] (argsA 0 a) ⟨0, .nil⟩ (kR C 166))
theorem whole_Mul.rf_b (n : Nat) (a : List V) (H : Heap) : (match a with | [v0, v1] => whole_Mul.r @bdI (callA C n) n v0 v1 H | a => E C n 166 [] (argsA 0 a) H (kR C 166)) = E C n 166 [] (argsA 0 a) H (kR C 166) := by
  split
  · exact whole_Mul.r_e n _ _ H
  · rfl
theorem whole_Mul.rf_e (n : Nat) (a : List V) (H : Heap) : whole_Mul.rf @bdI (callA C n) n a H = callA C (n + 1) 166 a H := by
  unfold whole_Mul.rf
  refine (congrArg (pureA a H) (funext fun a => whole_Mul.rf_b n a ⟨0, .nil⟩)).trans ?_
  kernel_rfl
noncomputable def whole_Of.r (bd : B3) (call : FuncId → List V → Heap → Option R) (n : Nat) (v0 : V) (H : Heap) : Option R :=
 (bd (arA .lss v0 (.int .i64 0)) fun t4_1 =>
 (bd (asB t4_1) fun b2 =>
 if b2 = true then
 (bd (cvInt .u64 v0) fun t6_3 =>
 (bd (unA .neg t6_3) fun t7_4 =>
 (bd (call 214 [t7_4] (H.push (.cells [(.bool false), (.slice ⟨none, 0, 0, false⟩)] ty_api_Int false))) fun r5 =>
 (bd (call 212 [(.bool true), r5.1] r5.2) fun r6 =>
 (bd (stA 2 (.ptr (some (H.n, 0))) r6.1 r6.2) fun H7 =>
 (bd (ldN 2 (.ptr (some (H.n, 0))) H7) fun t8 =>
 (frzR t8 H7)))))))
 else
 (bd (cvInt .u64 v0) fun t11_9 =>
 (bd (call 214 [t11_9] (H.push (.cells [(.bool false), (.slice ⟨none, 0, 0, false⟩)] ty_api_Int false))) fun r10 =>
 (bd (call 212 [(.bool false), r10.1] r10.2) fun r11 =>
 (bd (stA 2 (.ptr (some (H.n, 0))) r11.1 r11.2) fun H12 =>
 (bd (ldN 2 (.ptr (some (H.n, 0))) H12) fun t13 =>
 (frzR t13 H12))))))))
theorem whole_Of.r_e (n : Nat) (v0 : V) (H : Heap) : whole_Of.r @bdI (callA C n) n v0 H = E C n 167 [] (argsA 0 [v0]) H (kR C 167) := by
  unfold whole_Of.r
  kernel_rfl
noncomputable def whole_Of.rf (bd : B3) (call : FuncId → List V → Heap → Option R) (n : Nat) (a : List V) (H : Heap) : Option R := pureA a H fun a => (match a with | [v0] => whole_Of.r bd call n v0 ⟨0, .nil⟩ | a => E C n 167 [] (argsA 0 a) ⟨0, .nil⟩ (kR C 167))
theorem whole_Of.rf_b (n : Nat) (a : List V) (H : Heap) : (match a with | [v0] => whole_Of.r @bdI (callA C n) n v0 H | a => E C n 167 [] (argsA 0 a) H (kR C 167)) = E C n 167 [] (argsA 0 a) H (kR C 167) := by
  split
  · exact whole_Of.r_e n _ H
  · rfl
theorem whole_Of.rf_e (n : Nat) (a : List V) (H : Heap) : whole_Of.rf @bdI (callA C n) n a H = callA C (n + 1) 167 a H := by
  unfold whole_Of.rf
  refine (congrArg (pureA a H) (funext fun a => whole_Of.rf_b n a ⟨0, .nil⟩)).trans ?_
  kernel_rfl
noncomputable def circum_sides.r (bd : B3) (call : FuncId → List V → Heap → Option R) (n : Nat) (v0 v1 v2 : V) (H : Heap) : Option R :=
 (bd (boxA ty_api_Point v0) fun o1 =>
 (bd (boxA ty_api_Point v1) fun o2 =>
 (bd (boxA ty_api_Point v2) fun o3 =>
 (bd (ldN 2 (.ptr (some (H.n, 0))) (((((H.push o1).push o2).push o3).push (.cells [(.bool false), (.slice ⟨none, 0, 0, false⟩)] ty_api_Int false)).more 0)) fun t7_4 =>
 (bd (ldN 2 (.ptr (some ((H.push o1).n, 0))) (((((H.push o1).push o2).push o3).push (.cells [(.bool false), (.slice ⟨none, 0, 0, false⟩)] ty_api_Int false)).more 0)) fun t8_5 =>
 (bd (call 215 [t7_4, t8_5] (((((H.push o1).push o2).push o3).push (.cells [(.bool false), (.slice ⟨none, 0, 0, false⟩)] ty_api_Int false)).more 0)) fun r6 =>
 (bd (call 170 [r6.1] r6.2) fun r7 =>
 (bd (ldN 2 (.ptr (some ((H.push o1).n, 0))) r7.2) fun t11_8 =>
 (bd (chk (ldN 2 (.ptr (some ((H.push o1).n, 0))) r6.2) t11_8) fun _ =>
 (bd (chk (ldN 2 (.ptr (some ((H.push o1).n, 0))) (((((H.push o1).push o2).push o3).push (.cells [(.bool false), (.slice ⟨none, 0, 0, false⟩)] ty_api_Int false)).more 0)) t11_8) fun _ =>
 (bd (ldN 2 (.ptr (some (((H.push o1).push o2).n, 0))) r7.2) fun t12_9 =>
 (bd (chk (ldN 2 (.ptr (some (((H.push o1).push o2).n, 0))) r6.2) t12_9) fun _ =>
 (bd (chk (ldN 2 (.ptr (some (((H.push o1).push o2).n, 0))) (((((H.push o1).push o2).push o3).push (.cells [(.bool false), (.slice ⟨none, 0, 0, false⟩)] ty_api_Int false)).more 0)) t12_9) fun _ =>
 (bd (call 215 [t11_8, t12_9] r7.2) fun r10 =>
 (bd (call 170 [r10.1] r10.2) fun r11 =>
 (bd (call 166 [r7.1, r11.1] r11.2) fun r12 =>
 (bd (ldN 2 (.ptr (some (((H.push o1).push o2).n, 0))) r12.2) fun t16_13 =>
 (bd (chk (ldN 2 (.ptr (some (((H.push o1).push o2).n, 0))) r11.2) t16_13) fun _ =>
 (bd (chk (ldN 2 (.ptr (some (((H.push o1).push o2).n, 0))) r10.2) t16_13) fun _ =>
 (bd (chk (ldN 2 (.ptr (some (((H.push o1).push o2).n, 0))) r7.2) t16_13) fun _ =>
 (bd (chk (ldN 2 (.ptr (some (((H.push o1).push o2).n, 0))) r6.2) t16_13) fun _ =>
 (bd (chk (ldN 2 (.ptr (some (((H.push o1).push o2).n, 0))) (((((H.push o1).push o2).push o3).push (.cells [(.bool false), (.slice ⟨none, 0, 0, false⟩)] ty_api_Int false)).more 0)) t16_13) fun _ =>
 (bd (ldN 2 (.ptr (some (H.n, 0))) r12.2) fun t17_14 =>
 (bd (chk (ldN 2 (.ptr (some (H.n, 0))) r11.2) t17_14) fun _ =>
 (bd (chk (ldN 2 (.ptr (some (H.n, 0))) r10.2) t17_14) fun _ =>
 (bd (chk (ldN 2 (.ptr (some (H.n, 0))) r7.2) t17_14) fun _ =>
 (bd (chk (ldN 2 (.ptr (some (H.n, 0))) r6.2) t17_14) fun _ =>
 (bd (chk (ldN 2 (.ptr (some (H.n, 0))) (((((H.push o1).push o2).push o3).push (.cells [(.bool false), (.slice ⟨none, 0, 0, false⟩)] ty_api_Int false)).more 0)) t17_14) fun _ =>
 (bd (call 215 [t16_13, t17_14] r12.2) fun r15 =>
 (bd (call 170 [r15.1] r15.2) fun r16 =>
 (bd (call 166 [r12.1, r16.1] r16.2) fun r17 =>
 (bd (stA 2 (.ptr (some ((((H.push o1).push o2).push o3).n, 0))) r17.1 r17.2) fun H18 =>
 (bd (ldN 2 (.ptr (some ((((H.push o1).push o2).push o3).n, 0))) H18) fun t19 =>
 (frzR t19 H18))))))))))))))))))))))))))))))))))
theorem circum_sides.r_e (n : Nat) (v0 v1 v2 : V) (H : Heap) : circum_sides.r @bdI (callA C n) n v0 v1 v2 H = E C n 168 [] (argsA 0 [v0, v1, v2]) H (kR C 168) := by
  unfold circum_sides.r
  kernel_rfl
noncomputable def circum_sides.rf (bd : B3) (call : FuncId → List V → Heap → Option R) (n : Nat) (a : List V) (H : Heap) : Option R := pureA a H fun a => (match a with | [v0, v1, v2] => circum_sides.r bd call n v0 v1 v2 ⟨0, .nil⟩ | a => E C n 168 [] (argsA 0 a) ⟨0, .nil⟩ (kR C 168))
theorem circum_sides.rf_b (n : Nat) (a : List V) (H : Heap) : (match a with | [v0, v1, v2] => circum_sides.r @bdI (callA C n) n v0 v1 v2 H | a => E C n 168 [] (argsA 0 a) H (kR C 168)) = E C n 168 [] (argsA 0 a) H (kR C 168) := by
  split
  · exact circum_sides.r_e n _ _ _ H
  · rfl
theorem circum_sides.rf_e (n : Nat) (a : List V) (H : Heap) : circum_sides.rf @bdI (callA C n) n a H = callA C (n + 1) 168 a H := by
  unfold circum_sides.rf
  refine (congrArg (pureA a H) (funext fun a => circum_sides.rf_b n a ⟨0, .nil⟩)).trans ?_
  kernel_rfl
noncomputable def whole_Cmp.r (bd : B3) (call : FuncId → List V → Heap → Option R) (n : Nat) (v0 v1 : V) (H : Heap) : Option R :=
 (bd (boxA ty_api_Int v0) fun o1 =>
 (bd (boxA ty_api_Int v1) fun o2 =>
 (bd (ldN 2 (.ptr (some (H.n, 0))) (((H.push o1).push o2).more 0)) fun t7_3 =>
 (bd (call 216 [t7_3] (((H.push o1).push o2).more 0)) fun r4 =>
 (bd (ldN 2 (.ptr (some ((H.push o1).n, 0))) r4.2) fun t9_5 =>
 (bd (chk (ldN 2 (.ptr (some ((H.push o1).n, 0))) (((H.push o1).push o2).more 0)) t9_5) fun _ =>
 (bd (call 216 [t9_5] r4.2) fun r6 =>
 (bd (arA .lss r4.1 r6.1) fun t14_7 =>
 (bd (asB t14_7) fun b8 =>
 if b8 = true then
 (some ((.int .i64 (-1)), r6.2))
 else
 (bd (arA .gtr r4.1 r6.1) fun t18_9 =>
 (bd (asB t18_9) fun b10 =>
 if b10 = true then
 (some ((.int .i64 1), r6.2))
 else
 (bd (arA .lss r4.1 (.int .i64 0)) fun t21_11 =>
 (bd (asB t21_11) fun b12 =>
 if b12 = true then
 (bd (faA 1 (.ptr (some ((H.push o1).n, 0)))) fun t22_13 =>
 (bd (ld1 t22_13 r6.2) fun t23_14 =>
 (bd (faA 1 (.ptr (some (H.n, 0)))) fun t24_15 =>
 (bd (ld1 t24_15 r6.2) fun t25_16 =>
 (bd (call 217 [t23_14, t25_16] r6.2) fun r17 =>
 (some (r17.1, r17.2)))))))
 else
 (bd (faA 1 (.ptr (some (H.n, 0)))) fun t27_18 =>
 (bd (ld1 t27_18 r6.2) fun t28_19 =>
 (bd (faA 1 (.ptr (some ((H.push o1).n, 0)))) fun t29_20 =>
 (bd (ld1 t29_20 r6.2) fun t30_21 =>
 (bd (call 217 [t28_19, t30_21] r6.2) fun r22 =>
 (some (r22.1, r22.2))))))))))))))))))))
theorem whole_Cmp.r_e (n : Nat) (v0 v1 : V) (H : Heap) : whole_Cmp.r @bdI (callA C n) n v0 v1 H = E C n 169 [] (argsA 0 [v0, v1]) H (kR C 169) := by
  unfold whole_Cmp.r
  kernel_rfl
noncomputable def whole_Cmp.rf (bd : B3) (call : FuncId → List V → Heap → Option R) (n : Nat) (a : List V) (H : Heap) : Option R := pureA a H fun a => (match a with | [v0, v1] => whole_Cmp.r bd call n v0 v1 ⟨0, .nil⟩ | a => E C n 169 [] (argsA 0 a) ⟨0, .nil⟩ (kR C 169))
theorem whole_Cmp.rf_b (n : Nat) (a : List V) (H : Heap) : (match a with | [v0, v1] => whole_Cmp.r @bdI (callA C n) n v0 v1 H | a => E C n 169 [] (argsA 0 a) H (kR C 169)) = E C n 169 [] (argsA 0 a) H (kR C 169) := by
  split
  · exact whole_Cmp.r_e n _ _ H
  · rfl
theorem whole_Cmp.rf_e (n : Nat) (a : List V) (H : Heap) : whole_Cmp.rf @bdI (callA C n) n a H = callA C (n + 1) 169 a H := by
  unfold whole_Cmp.rf
  refine (congrArg (pureA a H) (funext fun a => whole_Cmp.rf_b n a ⟨0, .nil⟩)).trans ?_
  kernel_rfl
noncomputable def circum_long.r (bd : B3) (call : FuncId → List V → Heap → Option R) (n : Nat) (v0 : V) (H : Heap) : Option R :=
 (bd (boxA ty_api_Wide v0) fun o1 =>
 (bd (ldN 2 (.ptr (some (H.n, 0))) ((H.push o1).push (.cells [(.bool false), (.slice ⟨none, 0, 0, false⟩)] ty_api_Int false))) fun t3_2 =>
 (bd (call 219 [t3_2] ((H.push o1).push (.cells [(.bool false), (.slice ⟨none, 0, 0, false⟩)] ty_api_Int false))) fun r3 =>
 (bd (call 218 [r3.1] r3.2) fun r4 =>
 (bd (stA 2 (.ptr (some ((H.push o1).n, 0))) r4.1 r4.2) fun H5 =>
 (bd (ldN 2 (.ptr (some ((H.push o1).n, 0))) H5) fun t6 =>
 (frzR t6 H5)))))))
theorem circum_long.r_e (n : Nat) (v0 : V) (H : Heap) : circum_long.r @bdI (callA C n) n v0 H = E C n 170 [] (argsA 0 [v0]) H (kR C 170) := by
  unfold circum_long.r
  kernel_rfl
noncomputable def circum_long.rf (bd : B3) (call : FuncId → List V → Heap → Option R) (n : Nat) (a : List V) (H : Heap) : Option R := pureA a H fun a => (match a with | [v0] => circum_long.r bd call n v0 ⟨0, .nil⟩ | a => E C n 170 [] (argsA 0 a) ⟨0, .nil⟩ (kR C 170))
theorem circum_long.rf_b (n : Nat) (a : List V) (H : Heap) : (match a with | [v0] => circum_long.r @bdI (callA C n) n v0 H | a => E C n 170 [] (argsA 0 a) H (kR C 170)) = E C n 170 [] (argsA 0 a) H (kR C 170) := by
  split
  · exact circum_long.r_e n _ H
  · rfl
theorem circum_long.rf_e (n : Nat) (a : List V) (H : Heap) : circum_long.rf @bdI (callA C n) n a H = callA C (n + 1) 170 a H := by
  unfold circum_long.rf
  refine (congrArg (pureA a H) (funext fun a => circum_long.rf_b n a ⟨0, .nil⟩)).trans ?_
  kernel_rfl
noncomputable def circum_square.r (bd : B3) (call : FuncId → List V → Heap → Option R) (n : Nat) (v0 v1 v2 : V) (H : Heap) : Option R :=
 (bd (boxA ty_api_Point v0) fun o1 =>
 (bd (boxA ty_api_Point v1) fun o2 =>
 (bd (boxA ty_api_Point v2) fun o3 =>
 (bd (ldN 2 (.ptr (some (H.n, 0))) ((((H.push o1).push o2).push o3).push (.cells [(.bool false), (.slice ⟨none, 0, 0, false⟩)] ty_api_Int false))) fun t8_4 =>
 (bd (ldN 2 (.ptr (some ((H.push o1).n, 0))) ((((H.push o1).push o2).push o3).push (.cells [(.bool false), (.slice ⟨none, 0, 0, false⟩)] ty_api_Int false))) fun t9_5 =>
 (bd (ldN 2 (.ptr (some (((H.push o1).push o2).n, 0))) ((((H.push o1).push o2).push o3).push (.cells [(.bool false), (.slice ⟨none, 0, 0, false⟩)] ty_api_Int false))) fun t10_6 =>
 (bd (call 56 [t8_4, t9_5, t10_6] ((((H.push o1).push o2).push o3).push (.cells [(.bool false), (.slice ⟨none, 0, 0, false⟩)] ty_api_Int false))) fun r7 =>
 (bd (stA 2 (.ptr (some (r7.2.n, 0))) r7.1 (r7.2.push (.cells [(.int .i64 0), (.int .u64 0)] ty_api_Wide false))) fun H8 =>
 (bd (ldN 2 (.ptr (some (r7.2.n, 0))) H8) fun t12_9 =>
 (bd (ldN 2 (.ptr (some (r7.2.n, 0))) H8) fun t13_10 =>
 (bd (call 155 [t12_9, t13_10] H8) fun r11 =>
 (bd (call 218 [r11.1] r11.2) fun r12 =>
 (bd (stA 2 (.ptr (some ((((H.push o1).push o2).push o3).n, 0))) r12.1 r12.2) fun H13 =>
 (bd (ldN 2 (.ptr (some ((((H.push o1).push o2).push o3).n, 0))) H13) fun t14 =>
 (frzR t14 H13)))))))))))))))
theorem circum_square.r_e (n : Nat) (v0 v1 v2 : V) (H : Heap) : circum_square.r @bdI (callA C n) n v0 v1 v2 H = E C n 171 [] (argsA 0 [v0, v1, v2]) H (kR C 171) := by
  unfold circum_square.r
  kernel_rfl
noncomputable def circum_square.rf (bd : B3) (call : FuncId → List V → Heap → Option R) (n : Nat) (a : List V) (H : Heap) : Option R := pureA a H fun a => (match a with | [v0, v1, v2] => circum_square.r bd call n v0 v1 v2 ⟨0, .nil⟩ | a => E C n 171 [] (argsA 0 a) ⟨0, .nil⟩ (kR C 171))
theorem circum_square.rf_b (n : Nat) (a : List V) (H : Heap) : (match a with | [v0, v1, v2] => circum_square.r @bdI (callA C n) n v0 v1 v2 H | a => E C n 171 [] (argsA 0 a) H (kR C 171)) = E C n 171 [] (argsA 0 a) H (kR C 171) := by
  split
  · exact circum_square.r_e n _ _ _ H
  · rfl
theorem circum_square.rf_e (n : Nat) (a : List V) (H : Heap) : circum_square.rf @bdI (callA C n) n a H = callA C (n + 1) 171 a H := by
  unfold circum_square.rf
  refine (congrArg (pureA a H) (funext fun a => circum_square.rf_b n a ⟨0, .nil⟩)).trans ?_
  kernel_rfl
noncomputable def arena_Arena_Take.r (bd : B3) (call : FuncId → List V → Heap → Option R) (n : Nat) (v0 : V) (H : Heap) : Option R :=
 (bd (eqlA P ty_p_arena_Arena v0 (.ptr none)) fun t5_1 =>
 (bd (asB t5_1) fun b2 =>
 if b2 = true then
 (some ((.int .i64 (-1)), H))
 else
 (bd (nilC v0) fun t7_3 =>
 (bd (faA 2 t7_3) fun t8_4 =>
 (bd (ld1 t8_4 H) fun t9_5 =>
 (bd (arA .add t9_5 (.int .i64 1)) fun t10_6 =>
 (bd (nilC v0) fun t11_7 =>
 (bd (faA 2 t11_7) fun t12_8 =>
 (bd (stA 1 t12_8 t10_6 H) fun H9 =>
 (bd (nilC v0) fun t14_10 =>
 (bd (faA 1 t14_10) fun t15_11 =>
 (bd (ld1 t15_11 H9) fun t16_12 =>
 (bd (arA .eql t16_12 (.int .i64 (-1))) fun t18_13 =>
 (bd (asB t18_13) fun b14 =>
 if b14 = true then
 (bd (nilC v0) fun t21_15 =>
 (bd (faA 0 t21_15) fun t22_16 =>
 (bd (ld1 t22_16 H9) fun t23_17 =>
 (bd (bSl 1 ty_interface [.nilIface] 1 [(0, (.iface ty_int (.int .i64 (-2))))]) fun o18 =>
 (bd (appA 1 16 ty_interface t23_17 (.slice ⟨some (H9.n, 0), 1, 1, false⟩) (H9.push o18)) fun p19 =>
 (bd (nilC v0) fun t27_20 =>
 (bd (faA 0 t27_20) fun t28_21 =>
 (bd (stA 1 t28_21 p19.1 p19.2) fun H22 =>
 (bd (nilC v0) fun t30_23 =>
 (bd (faA 0 t30_23) fun t31_24 =>
 (bd (ld1 t31_24 H22) fun t32_25 =>
 (bd (lenSl t32_25) fun t33_26 =>
 (bd (arA .sub t33_26 (.int .i64 1)) fun t34_27 =>
 (some (t34_27, H22)))))))))))))))
 else
 (bd (call 220 [v0, t16_12] H9) fun r28 =>
 (bd (nilC v0) fun t39_29 =>
 (bd (faA 1 t39_29) fun t40_30 =>
 (bd (stA 1 t40_30 r28.1 r28.2) fun H31 =>
 (bd (nilC v0) fun t42_32 =>
 (bd (faA 0 t42_32) fun t43_33 =>
 (bd (ld1 t43_33 H31) fun t44_34 =>
 (bd (idxS 1 t44_34 t16_12) fun t47_35 =>
 (bd (stA 1 t47_35 (.iface ty_int (.int .i64 (-2))) H31) fun H36 =>
 (some (t16_12, H36)))))))))))))))))))))))))
theorem arena_Arena_Take.r_e (n : Nat) (v0 : V) (H : Heap) : arena_Arena_Take.r @bdI (callA C n) n v0 H = E C n 172 [] (argsA 0 [v0]) H (kR C 172) := by
  unfold arena_Arena_Take.r
  kernel_rfl
noncomputable def arena_Arena_Take.rf (bd : B3) (call : FuncId → List V → Heap → Option R) (n : Nat) (a : List V) (H : Heap) : Option R := (match a with | [v0] => arena_Arena_Take.r bd call n v0 H | a => E C n 172 [] (argsA 0 a) H (kR C 172))
theorem arena_Arena_Take.rf_b (n : Nat) (a : List V) (H : Heap) : (match a with | [v0] => arena_Arena_Take.r @bdI (callA C n) n v0 H | a => E C n 172 [] (argsA 0 a) H (kR C 172)) = E C n 172 [] (argsA 0 a) H (kR C 172) := by
  split
  · exact arena_Arena_Take.r_e n _ H
  · rfl
theorem arena_Arena_Take.rf_e (n : Nat) (a : List V) (H : Heap) : arena_Arena_Take.rf @bdI (callA C n) n a H = callA C (n + 1) 172 a H := by
  unfold arena_Arena_Take.rf
  refine (arena_Arena_Take.rf_b n a H).trans ?_
  kernel_rfl
noncomputable def mesh_put_api_Vert.r (bd : B3) (call : FuncId → List V → Heap → Option R) (n : Nat) (v0 v1 v2 : V) (H : Heap) : Option R :=
 (bd (boxA ty_api_Vert v2) fun o1 =>
 (bd (lenSl v0) fun t9_2 =>
 (bd (arA .eql v1 t9_2) fun t10_3 =>
 (bd (asB t10_3) fun b4 =>
 if b4 = true then
 (bd (ldN 4 (.ptr (some (H.n, 0))) (H.push o1)) fun t12_5 =>
 (bd (bSl 4 ty_api_Vert [(.int .i64 0), (.int .i64 0), (.int .i64 0), (.int .i64 0)] 1 [(0, t12_5)]) fun o6 =>
 (bd (appA 4 32 ty_api_Vert v0 (.slice ⟨some ((H.push o1).n, 0), 1, 4, false⟩) ((H.push o1).push o6)) fun p7 =>
 (some (p7.1, p7.2)))))
 else
 (bd (ldN 4 (.ptr (some (H.n, 0))) (H.push o1)) fun t17_8 =>
 (bd (idxS 4 v0 v1) fun t18_9 =>
 (bd (stA 4 t18_9 t17_8 (H.push o1)) fun H10 =>
 (some (v0, H10)))))))))
theorem mesh_put_api_Vert.r_e (n : Nat) (v0 v1 v2 : V) (H : Heap) : mesh_put_api_Vert.r @bdI (callA C n) n v0 v1 v2 H = E C n 173 [] (argsA 0 [v0, v1, v2]) H (kR C 173) := by
  unfold mesh_put_api_Vert.r
  kernel_rfl
noncomputable def mesh_put_api_Vert.rf (bd : B3) (call : FuncId → List V → Heap → Option R) (n : Nat) (a : List V) (H : Heap) : Option R := (match a with | [v0, v1, v2] => mesh_put_api_Vert.r bd call n v0 v1 v2 H | a => E C n 173 [] (argsA 0 a) H (kR C 173))
theorem mesh_put_api_Vert.rf_b (n : Nat) (a : List V) (H : Heap) : (match a with | [v0, v1, v2] => mesh_put_api_Vert.r @bdI (callA C n) n v0 v1 v2 H | a => E C n 173 [] (argsA 0 a) H (kR C 173)) = E C n 173 [] (argsA 0 a) H (kR C 173) := by
  split
  · exact mesh_put_api_Vert.r_e n _ _ _ H
  · rfl
theorem mesh_put_api_Vert.rf_e (n : Nat) (a : List V) (H : Heap) : mesh_put_api_Vert.rf @bdI (callA C n) n a H = callA C (n + 1) 173 a H := by
  unfold mesh_put_api_Vert.rf
  refine (mesh_put_api_Vert.rf_b n a H).trans ?_
  kernel_rfl
noncomputable def cover_part.r (bd : B3) (call : FuncId → List V → Heap → Option R) (n : Nat) (v0 : V) (H : Heap) : Option R :=
 (bd (arA .quo v0 (.int .i64 3)) fun t7_1 =>
 (bd (arA .rem v0 (.int .i64 3)) fun t9_2 =>
 (bd (arA .lss t9_2 (.int .i64 0)) fun t11_3 =>
 (bd (asB t11_3) fun b4 =>
 if b4 = true then
 (bd (arA .sub t7_1 (.int .i64 1)) fun t13_5 =>
 (bd (arA .add t9_2 (.int .i64 3)) fun t15_6 =>
 (some (.tuple [t15_6, t13_5], H))))
 else
 (some (.tuple [t9_2, t7_1], H))))))
theorem cover_part.r_e (n : Nat) (v0 : V) (H : Heap) : cover_part.r @bdI (callA C n) n v0 H = E C n 174 [] (argsA 0 [v0]) H (kR C 174) := by
  unfold cover_part.r
  kernel_rfl
noncomputable def cover_part.rf (bd : B3) (call : FuncId → List V → Heap → Option R) (n : Nat) (a : List V) (H : Heap) : Option R := pureA a H fun a => (match a with | [v0] => cover_part.r bd call n v0 ⟨0, .nil⟩ | a => E C n 174 [] (argsA 0 a) ⟨0, .nil⟩ (kR C 174))
theorem cover_part.rf_b (n : Nat) (a : List V) (H : Heap) : (match a with | [v0] => cover_part.r @bdI (callA C n) n v0 H | a => E C n 174 [] (argsA 0 a) H (kR C 174)) = E C n 174 [] (argsA 0 a) H (kR C 174) := by
  split
  · exact cover_part.r_e n _ H
  · rfl
theorem cover_part.rf_e (n : Nat) (a : List V) (H : Heap) : cover_part.rf @bdI (callA C n) n a H = callA C (n + 1) 174 a H := by
  unfold cover_part.rf
  refine (congrArg (pureA a H) (funext fun a => cover_part.rf_b n a ⟨0, .nil⟩)).trans ?_
  kernel_rfl
end Go.AM.L
end
section
set_option linter.unusedVariables false
set_option linter.unusedSimpArgs false
set_option maxRecDepth 1000000
set_option linter.unusedVariables false
namespace Go.AM.L
noncomputable def mesh_Mesh_turns.r (bd : B3) (call : FuncId → List V → Heap → Option R) (n : Nat) (v0 v1 : V) (H : Heap) : Option R :=
 (bd (boxA ty_api_Tri v1) fun o1 =>
 (bd (ldN 9 (.ptr (some (H.n, 0))) (H.push o1)) fun t13_2 =>
 (bd (call 206 [v0, t13_2, (.int .i64 0)] (H.push o1)) fun r3 =>
 (bd (extA r3.1 0) fun t15_4 =>
 (bd (extA r3.1 1) fun t16_5 =>
 (bd (stA 2 (.ptr (some (r3.2.n, 0))) t15_4 (r3.2.push (.cells [(.int .i64 0), (.int .i64 0)] ty_api_Point false))) fun H6 =>
 (bd (ldN 9 (.ptr (some (H.n, 0))) H6) fun t19_7 =>
 (bd (call 206 [v0, t19_7, (.int .i64 1)] H6) fun r8 =>
 (bd (extA r8.1 0) fun t21_9 =>
 (bd (extA r8.1 1) fun t22_10 =>
 (bd (stA 2 (.ptr (some (r8.2.n, 0))) t21_9 (r8.2.push (.cells [(.int .i64 0), (.int .i64 0)] ty_api_Point false))) fun H11 =>
 (bd (ldN 9 (.ptr (some (H.n, 0))) H11) fun t25_12 =>
 (bd (call 206 [v0, t25_12, (.int .i64 2)] H11) fun r13 =>
 (bd (extA r13.1 0) fun t27_14 =>
 (bd (extA r13.1 1) fun t28_15 =>
 (bd (stA 2 (.ptr (some (r13.2.n, 0))) t27_14 (r13.2.push (.cells [(.int .i64 0), (.int .i64 0)] ty_api_Point false))) fun H16 =>
 (bd (asB t16_5) fun b17 =>
 if b17 = true then
 (bd (asB t22_10) fun b18 =>
 if b18 = true then
 (bd (asB t28_15) fun b19 =>
 if b19 = true then
 (bd (ldN 2 (.ptr (some (r3.2.n, 0))) H16) fun t37_20 =>
 (bd (ldN 2 (.ptr (some (r8.2.n, 0))) H16) fun t38_21 =>
 (bd (ldN 2 (.ptr (some (r13.2.n, 0))) H16) fun t39_22 =>
 (bd (call 54 [t37_20, t38_21, t39_22] H16) fun r23 =>
 (bd (arA .eql r23.1 (.int .i64 1)) fun t41_24 =>
 (some (t41_24, r23.2)))))))
 else
 (some ((.bool false), H16)))
 else
 (some ((.bool false), H16)))
 else
 (some ((.bool false), H16)))))))))))))))))))
theorem mesh_Mesh_turns.r_e (n : Nat) (v0 v1 : V) (H : Heap) : mesh_Mesh_turns.r @bdI (callA C n) n v0 v1 H = E C n 175 [] (argsA 0 [v0, v1]) H (kR C 175) := by
  unfold mesh_Mesh_turns.r
  kernel_rfl
noncomputable def mesh_Mesh_turns.rf (bd : B3) (call : FuncId → List V → Heap → Option R) (n : Nat) (a : List V) (H : Heap) : Option R := (match a with | [v0, v1] => mesh_Mesh_turns.r bd call n v0 v1 H | a => E C n 175 [] (argsA 0 a) H (kR C 175))
theorem mesh_Mesh_turns.rf_b (n : Nat) (a : List V) (H : Heap) : (match a with | [v0, v1] => mesh_Mesh_turns.r @bdI (callA C n) n v0 v1 H | a => E C n 175 [] (argsA 0 a) H (kR C 175)) = E C n 175 [] (argsA 0 a) H (kR C 175) := by
  split
  · exact mesh_Mesh_turns.r_e n _ _ H
  · rfl
theorem mesh_Mesh_turns.rf_e (n : Nat) (a : List V) (H : Heap) : mesh_Mesh_turns.rf @bdI (callA C n) n a H = callA C (n + 1) 175 a H := by
  unfold mesh_Mesh_turns.rf
  refine (mesh_Mesh_turns.rf_b n a H).trans ?_
  kernel_rfl
noncomputable def mesh_side.r (bd : B3) (call : FuncId → List V → Heap → Option R) (n : Nat) (v0 v1 : V) (H : Heap) : Option R :=
 (bd (boxA ty_api_Tri v0) fun o1 =>
 (bd (arA .add v1 (.int .i64 1)) fun t7_2 =>
 (bd (call 207 [t7_2] ((H.push o1).push (.cells [(.int .i64 0), (.int .i64 0), (.int .i64 0), (.int .i64 0)] ty_mesh_edge false))) fun r3 =>
 (bd (faA 3 (.ptr (some (H.n, 0)))) fun t18_4 =>
 (bd (idxP 3 2 t18_4 r3.1) fun t19_5 =>
 (bd (ldN 2 t19_5 (r3.2.more 0)) fun t20_6 =>
 (bd (faA 3 (.ptr (some (H.n, 0)))) fun t22_7 =>
 (bd (idxP 3 2 t22_7 v1) fun t23_8 =>
 (bd (ldN 2 t23_8 (r3.2.more 0)) fun t24_9 =>
 (bd (call 58 [t20_6, t24_9] (r3.2.more 0)) fun r10 =>
 (bd (faA 0 (.ptr (some (H.n, 0)))) fun t10_11 =>
 (bd (idxP 3 1 t10_11 v1) fun t11_12 =>
 (bd (ld1 t11_12 r10.2) fun t12_13 =>
 (bd (chk (ld1 t11_12 (r3.2.more 0)) t12_13) fun _ =>
 (bd (faA 0 (.ptr (some (H.n, 0)))) fun t14_14 =>
 (bd (idxP 3 1 t14_14 r3.1) fun t15_15 =>
 (bd (ld1 t15_15 r10.2) fun t16_16 =>
 (bd (chk (ld1 t15_15 (r3.2.more 0)) t16_16) fun _ =>
 (bd (flA [(0, 1), (1, 1), (2, 2)] [(.int .i64 0), (.int .i64 0), (.int .i64 0), (.int .i64 0)] [(0, t12_13), (1, t16_16), (2, r10.1)]) fun t26_17 =>
 (bd (stA 4 (.ptr (some ((H.push o1).n, 0))) t26_17 r10.2) fun H18 =>
 (bd (ldN 4 (.ptr (some ((H.push o1).n, 0))) H18) fun t19 =>
 (some (t19, H18)))))))))))))))))))))))
theorem mesh_side.r_e (n : Nat) (v0 v1 : V) (H : Heap) : mesh_side.r @bdI (callA C n) n v0 v1 H = E C n 176 [] (argsA 0 [v0, v1]) H (kR C 176) := by
  unfold mesh_side.r
  kernel_rfl
noncomputable def mesh_side.rf (bd : B3) (call : FuncId → List V → Heap → Option R) (n : Nat) (a : List V) (H : Heap) : Option R := pureA a H fun a => (match a with | [v0, v1] => mesh_side.r bd call n v0 v1 ⟨0, .nil⟩ | a => E C n 176 [] (argsA 0 a) ⟨0, .nil⟩ (kR C 176))
theorem mesh_side.rf_b (n : Nat) (a : List V) (H : Heap) : (match a with | [v0, v1] => mesh_side.r @bdI (callA C n) n v0 v1 H | a => E C n 176 [] (argsA 0 a) H (kR C 176)) = E C n 176 [] (argsA 0 a) H (kR C 176) := by
  split
  · exact mesh_side.r_e n _ _ H
  · rfl
theorem mesh_side.rf_e (n : Nat) (a : List V) (H : Heap) : mesh_side.rf @bdI (callA C n) n a H = callA C (n + 1) 176 a H := by
  unfold mesh_side.rf
  refine (congrArg (pureA a H) (funext fun a => mesh_side.rf_b n a ⟨0, .nil⟩)).trans ?_
  kernel_rfl
noncomputable def mesh_put_api_Tri.r (bd : B3) (call : FuncId → List V → Heap → Option R) (n : Nat) (v0 v1 v2 : V) (H : Heap) : Option R :=
 (bd (boxA ty_api_Tri v2) fun o1 =>
 (bd (lenSl v0) fun t9_2 =>
 (bd (arA .eql v1 t9_2) fun t10_3 =>
 (bd (asB t10_3) fun b4 =>
 if b4 = true then
 (bd (ldN 9 (.ptr (some (H.n, 0))) (H.push o1)) fun t12_5 =>
 (bd (bSl 9 ty_api_Tri [(.int .i64 0), (.int .i64 0), (.int .i64 0), (.int .i64 0), (.int .i64 0), (.int .i64 0), (.int .i64 0), (.int .i64 0), (.int .i64 0)] 1 [(0, t12_5)]) fun o6 =>
 (bd (appA 9 72 ty_api_Tri v0 (.slice ⟨some ((H.push o1).n, 0), 1, 9, false⟩) ((H.push o1).push o6)) fun p7 =>
 (some (p7.1, p7.2)))))
 else
 (bd (ldN 9 (.ptr (some (H.n, 0))) (H.push o1)) fun t17_8 =>
 (bd (idxS 9 v0 v1) fun t18_9 =>
 (bd (stA 9 t18_9 t17_8 (H.push o1)) fun H10 =>
 (some (v0, H10)))))))))
theorem mesh_put_api_Tri.r_e (n : Nat) (v0 v1 v2 : V) (H : Heap) : mesh_put_api_Tri.r @bdI (callA C n) n v0 v1 v2 H = E C n 177 [] (argsA 0 [v0, v1, v2]) H (kR C 177) := by
  unfold mesh_put_api_Tri.r
  kernel_rfl
noncomputable def mesh_put_api_Tri.rf (bd : B3) (call : FuncId → List V → Heap → Option R) (n : Nat) (a : List V) (H : Heap) : Option R := (match a with | [v0, v1, v2] => mesh_put_api_Tri.r bd call n v0 v1 v2 H | a => E C n 177 [] (argsA 0 a) H (kR C 177))
theorem mesh_put_api_Tri.rf_b (n : Nat) (a : List V) (H : Heap) : (match a with | [v0, v1, v2] => mesh_put_api_Tri.r @bdI (callA C n) n v0 v1 v2 H | a => E C n 177 [] (argsA 0 a) H (kR C 177)) = E C n 177 [] (argsA 0 a) H (kR C 177) := by
  split
  · exact mesh_put_api_Tri.r_e n _ _ _ H
  · rfl
theorem mesh_put_api_Tri.rf_e (n : Nat) (a : List V) (H : Heap) : mesh_put_api_Tri.rf @bdI (callA C n) n a H = callA C (n + 1) 177 a H := by
  unfold mesh_put_api_Tri.rf
  refine (mesh_put_api_Tri.rf_b n a H).trans ?_
  kernel_rfl
noncomputable def slices_Contains_int_int.r (bd : B3) (call : FuncId → List V → Heap → Option R) (n : Nat) (v0 v1 : V) (H : Heap) : Option R :=
 (bd (call 182 [v0, v1] H) fun r1 =>
 (bd (arA .geq r1.1 (.int .i64 0)) fun t8_2 =>
 (some (t8_2, r1.2))))
theorem slices_Contains_int_int.r_e (n : Nat) (v0 v1 : V) (H : Heap) : slices_Contains_int_int.r @bdI (callA C n) n v0 v1 H = E C n 178 [] (argsA 0 [v0, v1]) H (kR C 178) := by
  unfold slices_Contains_int_int.r
  kernel_rfl
noncomputable def slices_Contains_int_int.rf (bd : B3) (call : FuncId → List V → Heap → Option R) (n : Nat) (a : List V) (H : Heap) : Option R := (match a with | [v0, v1] => slices_Contains_int_int.r bd call n v0 v1 H | a => E C n 178 [] (argsA 0 a) H (kR C 178))
theorem slices_Contains_int_int.rf_b (n : Nat) (a : List V) (H : Heap) : (match a with | [v0, v1] => slices_Contains_int_int.r @bdI (callA C n) n v0 v1 H | a => E C n 178 [] (argsA 0 a) H (kR C 178)) = E C n 178 [] (argsA 0 a) H (kR C 178) := by
  split
  · exact slices_Contains_int_int.r_e n _ _ H
  · rfl
theorem slices_Contains_int_int.rf_e (n : Nat) (a : List V) (H : Heap) : slices_Contains_int_int.rf @bdI (callA C n) n a H = callA C (n + 1) 178 a H := by
  unfold slices_Contains_int_int.rf
  refine (slices_Contains_int_int.rf_b n a H).trans ?_
  kernel_rfl
@[irreducible] noncomputable def slices_Index_int_int.l0 (n m0 : Nat) (v0 v1 v7 v8 : V) (H : Heap) : Option R := Lp C n 182 [1, 0, 1, 0, 0] m0 [(0, v0), (1, v1), (7, v7), (8, v8)] H (kB 0 (kC C n 182 [1, 1] (kR C 182)))
noncomputable def slices_Index_int_int.r_l0 (bd : B3) (call : FuncId → List V → Heap → Option R) (n : Nat) (s0 : V → V → V → V → Heap → Option R) (v0 v1 v7 v8 : V) (H : Heap) : Option R :=
 (bd (arA .lss v8 v7) fun t9_1 =>
 (bd (asB t9_1) fun b2 =>
 if b2 = true then
 (bd (idxS 1 v0 v8) fun t14_3 =>
 (bd (ld1 t14_3 H) fun t15_4 =>
 (bd (arA .eql v1 t15_4) fun t16_5 =>
 (bd (asB t16_5) fun b6 =>
 if b6 = true then
 (some (v8, H))
 else
 (bd (arA .add v8 (.int .i64 1)) fun t18_7 =>
 (s0 v0 v1 v7 t18_7 H))))))
 else
 (some ((.int .i64 (-1)), H))))
theorem slices_Index_int_int.r_l0_e (n m0 : Nat) : slices_Index_int_int.r_l0 @bdI (callA C n) n (slices_Index_int_int.l0 n m0) = slices_Index_int_int.l0 n (m0 + 1) := by
  funext v0 v1 v7 v8 H
  unfold slices_Index_int_int.r_l0
  kernel_rfl
noncomputable def slices_Index_int_int.r_l0_lp (bd : B3) (call : FuncId → List V → Heap → Option R) (n : Nat) (m : Nat) : V → V → V → V → Heap → Option R := Nat.rec (motive := fun _ => V → V → V → V → Heap → Option R) (fun _ _ _ _ _ => none) (fun _ self => slices_Index_int_int.r_l0 bd call n self) m
theorem slices_Index_int_int.r_l0_lp_e (n : Nat) : slices_Index_int_int.r_l0_lp @bdI (callA C n) n = slices_Index_int_int.l0 n := by
  funext m
  induction m with
  | zero => funext v0 v1 v7 v8 H; kernel_rfl
  | succ k ih => exact (congrArg (slices_Index_int_int.r_l0 @bdI (callA C n) n) ih).trans (slices_Index_int_int.r_l0_e n k)
noncomputable def slices_Index_int_int.r (bd : B3) (call : FuncId → List V → Heap → Option R) (n : Nat) (v0 v1 : V) (H : Heap) : Option R :=
 (bd (lenSl v0) fun t7_1 =>
 (slices_Index_int_int.r_l0_lp bd call n n v0 v1 t7_1 (.int .i64 0) H))
theorem slices_Index_int_int.r_e (n : Nat) (v0 v1 : V) (H : Heap) : slices_Index_int_int.r @bdI (callA C n) n v0 v1 H = E C n 182 [] (argsA 0 [v0, v1]) H (kR C 182) := by
  unfold slices_Index_int_int.r
  rewrite [slices_Index_int_int.r_l0_lp_e]
  kernel_rfl
noncomputable def slices_Index_int_int.rf (bd : B3) (call : FuncId → List V → Heap → Option R) (n : Nat) (a : List V) (H : Heap) : Option R := (match a with | [v0, v1] => slices_Index_int_int.r bd call n v0 v1 H | a => E C n 182 [] (argsA 0 a) H (kR C 182))
theorem slices_Index_int_int.rf_b (n : Nat) (a : List V) (H : Heap) : (match a with | [v0, v1] => slices_Index_int_int.r @bdI (callA C n) n v0 v1 H | a => E C n 182 [] (argsA 0 a) H (kR C 182)) = E C n 182 [] (argsA 0 a) H (kR C 182) := by
  split
  · exact slices_Index_int_int.r_e n _ _ H
  · rfl
theorem slices_Index_int_int.rf_e (n : Nat) (a : List V) (H : Heap) : slices_Index_int_int.rf @bdI (callA C n) n a H = callA C (n + 1) 182 a H := by
  unfold slices_Index_int_int.rf
  refine (slices_Index_int_int.rf_b n a H).trans ?_
  kernel_rfl
@[irreducible] noncomputable def quad_apart.p0 (n : Nat) (v1 v2 v4 : V) (H : Heap) : Option R := E C n 199 [1, 1, 1] [(1, v1), (2, v2), (4, v4)] H (kR C 199)
noncomputable def quad_apart.r_p0 (bd : B3) (call : FuncId → List V → Heap → Option R) (n : Nat) (v1 v2 v4 : V) (H : Heap) : Option R :=
 (bd (faA 1 v1) fun t11_1 =>
 (bd (ld1 t11_1 H) fun t12_2 =>
 (bd (faA 0 v1) fun t13_3 =>
 (bd (ld1 t13_3 H) fun t14_4 =>
 (bd (cvInt .u64 t14_4) fun t15_5 =>
 (bd (flE 1 [(.int .u64 0), (.int .u64 0)] [(0, t12_2), (1, t15_5)]) fun t16_6 =>
 (bd (stA 2 v2 t16_6 H) fun H7 =>
 (bd (ldN 2 v2 H7) fun t8 =>
 (some (.tuple [t8, v4], H7))))))))))
theorem quad_apart.r_p0_e (n : Nat) : quad_apart.r_p0 @bdI (callA C n) n = quad_apart.p0 n := by
  funext v1 v2 v4 H
  unfold quad_apart.r_p0
  kernel_rfl
noncomputable def quad_apart.r (bd : B3) (call : FuncId → List V → Heap → Option R) (n : Nat) (v0 : V) (H : Heap) : Option R :=
 (bd (boxA ty_api_Wide v0) fun o1 =>
 (bd (faA 0 (.ptr (some (H.n, 0)))) fun t5_2 =>
 (bd (ld1 t5_2 ((H.push o1).push (.cells [(.int .u64 0), (.int .u64 0)] ty_2_uint64 false))) fun t6_3 =>
 (bd (arA .lss t6_3 (.int .i64 0)) fun t7_4 =>
 (bd (asB t7_4) fun b5 =>
 if b5 = true then
 (bd (ldN 2 (.ptr (some (H.n, 0))) ((H.push o1).push (.cells [(.int .u64 0), (.int .u64 0)] ty_2_uint64 false))) fun t9_6 =>
 (bd (call 237 [t9_6] ((H.push o1).push (.cells [(.int .u64 0), (.int .u64 0)] ty_2_uint64 false))) fun r7 =>
 (bd (stA 2 (.ptr (some (H.n, 0))) r7.1 r7.2) fun H8 =>
 (quad_apart.r_p0 bd call n (.ptr (some (H.n, 0))) (.ptr (some ((H.push o1).n, 0))) t7_4 H8))))
 else
 (quad_apart.r_p0 bd call n (.ptr (some (H.n, 0))) (.ptr (some ((H.push o1).n, 0))) t7_4 ((H.push o1).push (.cells [(.int .u64 0), (.int .u64 0)] ty_2_uint64 false))))))))
theorem quad_apart.r_e (n : Nat) (v0 : V) (H : Heap) : quad_apart.r @bdI (callA C n) n v0 H = E C n 199 [] (argsA 0 [v0]) H (kR C 199) := by
  unfold quad_apart.r
  rewrite [quad_apart.r_p0_e]
  kernel_rfl
noncomputable def quad_apart.rf (bd : B3) (call : FuncId → List V → Heap → Option R) (n : Nat) (a : List V) (H : Heap) : Option R := pureA a H fun a => (match a with | [v0] => quad_apart.r bd call n v0 ⟨0, .nil⟩ | a => E C n 199 [] (argsA 0 a) ⟨0, .nil⟩ (kR C 199))
theorem quad_apart.rf_b (n : Nat) (a : List V) (H : Heap) : (match a with | [v0] => quad_apart.r @bdI (callA C n) n v0 H | a => E C n 199 [] (argsA 0 a) H (kR C 199)) = E C n 199 [] (argsA 0 a) H (kR C 199) := by
  split
  · exact quad_apart.r_e n _ H
  · rfl
theorem quad_apart.rf_e (n : Nat) (a : List V) (H : Heap) : quad_apart.rf @bdI (callA C n) n a H = callA C (n + 1) 199 a H := by
  unfold quad_apart.rf
  refine (congrArg (pureA a H) (funext fun a => quad_apart.rf_b n a ⟨0, .nil⟩)).trans ?_
  kernel_rfl
@[irreducible] noncomputable def quad_sub.l0 (n m0 : Nat) (v2 v3 v4 v5 v7 : V) (H : Heap) : Option R := Lp C n 200 [1, 1, 0, 1, 0, 0] m0 [(2, v2), (3, v3), (4, v4), (5, v5), (7, v7)] H (kB 0 (kC C n 200 [1, 1, 1] (kR C 200)))
noncomputable def quad_sub.r_l0 (bd : B3) (call : FuncId → List V → Heap → Option R) (n : Nat) (s0 : V → V → V → V → V → Heap → Option R) (v2 v3 v4 v5 v7 : V) (H : Heap) : Option R :=
 (bd (arA .lss v7 (.int .i64 4)) fun t8_1 =>
 (bd (asB t8_1) fun b2 =>
 if b2 = true then
 (bd (idxP 4 1 v2 v7) fun t13_3 =>
 (bd (ld1 t13_3 (H.more 0)) fun t14_4 =>
 (bd (idxP 4 1 v3 v7) fun t16_5 =>
 (bd (ld1 t16_5 (H.more 0)) fun t17_6 =>
 (bd (call 198 [t14_4, t17_6, v5] (H.more 0)) fun r7 =>
 (bd (extA r7.1 0) fun t20_8 =>
 (bd (idxP 4 1 v4 v7) fun t22_9 =>
 (bd (stA 1 t22_9 t20_8 r7.2) fun H10 =>
 (bd (extA r7.1 1) fun t21_11 =>
 (bd (arA .add v7 (.int .i64 1)) fun t23_12 =>
 (s0 v2 v3 v4 t21_11 t23_12 H10)))))))))))
 else
 (bd (ldN 4 v4 H) fun t24_13 =>
 (bd (stA 4 v4 t24_13 H) fun H14 =>
 (bd (ldN 4 v4 H14) fun t15 =>
 (some (t15, H14)))))))
theorem quad_sub.r_l0_e (n m0 : Nat) : quad_sub.r_l0 @bdI (callA C n) n (quad_sub.l0 n m0) = quad_sub.l0 n (m0 + 1) := by
  funext v2 v3 v4 v5 v7 H
  unfold quad_sub.r_l0
  kernel_rfl
noncomputable def quad_sub.r_l0_lp (bd : B3) (call : FuncId → List V → Heap → Option R) (n : Nat) (m : Nat) : V → V → V → V → V → Heap → Option R := Nat.rec (motive := fun _ => V → V → V → V → V → Heap → Option R) (fun _ _ _ _ _ _ => none) (fun _ self => quad_sub.r_l0 bd call n self) m
theorem quad_sub.r_l0_lp_e (n : Nat) : quad_sub.r_l0_lp @bdI (callA C n) n = quad_sub.l0 n := by
  funext m
  induction m with
  | zero => funext v2 v3 v4 v5 v7 H; kernel_rfl
  | succ k ih => exact (congrArg (quad_sub.r_l0 @bdI (callA C n) n) ih).trans (quad_sub.r_l0_e n k)
noncomputable def quad_sub.r (bd : B3) (call : FuncId → List V → Heap → Option R) (n : Nat) (v0 v1 : V) (H : Heap) : Option R :=
 (bd (boxA ty_api_Quad v0) fun o1 =>
 (bd (boxA ty_api_Quad v1) fun o2 =>
 (quad_sub.r_l0_lp bd call n n (.ptr (some (H.n, 0))) (.ptr (some ((H.push o1).n, 0))) (.ptr (some (((H.push o1).push o2).n, 0))) (.int .u64 0) (.int .i64 0) (((H.push o1).push o2).push (.cells [(.int .u64 0), (.int .u64 0), (.int .u64 0), (.int .u64 0)] ty_api_Quad false)))))
theorem quad_sub.r_e (n : Nat) (v0 v1 : V) (H : Heap) : quad_sub.r @bdI (callA C n) n v0 v1 H = E C n 200 [] (argsA 0 [v0, v1]) H (kR C 200) := by
  unfold quad_sub.r
  rewrite [quad_sub.r_l0_lp_e]
  kernel_rfl
noncomputable def quad_sub.rf (bd : B3) (call : FuncId → List V → Heap → Option R) (n : Nat) (a : List V) (H : Heap) : Option R := pureA a H fun a => (match a with | [v0, v1] => quad_sub.r bd call n v0 v1 ⟨0, .nil⟩ | a => E C n 200 [] (argsA 0 a) ⟨0, .nil⟩ (kR C 200))
theorem quad_sub.rf_b (n : Nat) (a : List V) (H : Heap) : (match a with | [v0, v1] => quad_sub.r @bdI (callA C n) n v0 v1 H | a => E C n 200 [] (argsA 0 a) H (kR C 200)) = E C n 200 [] (argsA 0 a) H (kR C 200) := by
  split
  · exact quad_sub.r_e n _ _ H
  · rfl
theorem quad_sub.rf_e (n : Nat) (a : List V) (H : Heap) : quad_sub.rf @bdI (callA C n) n a H = callA C (n + 1) 200 a H := by
  unfold quad_sub.rf
  refine (congrArg (pureA a H) (funext fun a => quad_sub.rf_b n a ⟨0, .nil⟩)).trans ?_
  kernel_rfl
@[irreducible] noncomputable def quad_add.l0 (n m0 : Nat) (v2 v3 v4 v5 v7 : V) (H : Heap) : Option R := Lp C n 201 [1, 1, 0, 1, 0, 0] m0 [(2, v2), (3, v3), (4, v4), (5, v5), (7, v7)] H (kB 0 (kC C n 201 [1, 1, 1] (kR C 201)))
noncomputable def quad_add.r_l0 (bd : B3) (call : FuncId → List V → Heap → Option R) (n : Nat) (s0 : V → V → V → V → V → Heap → Option R) (v2 v3 v4 v5 v7 : V) (H : Heap) : Option R :=
 (bd (arA .lss v7 (.int .i64 4)) fun t8_1 =>
 (bd (asB t8_1) fun b2 =>
 if b2 = true then
 (bd (idxP 4 1 v2 v7) fun t13_3 =>
 (bd (ld1 t13_3 (H.more 0)) fun t14_4 =>
 (bd (idxP 4 1 v3 v7) fun t16_5 =>
 (bd (ld1 t16_5 (H.more 0)) fun t17_6 =>
 (bd (call 122 [t14_4, t17_6, v5] (H.more 0)) fun r7 =>
 (bd (extA r7.1 0) fun t20_8 =>
 (bd (idxP 4 1 v4 v7) fun t22_9 =>
 (bd (stA 1 t22_9 t20_8 r7.2) fun H10 =>
 (bd (extA r7.1 1) fun t21_11 =>
 (bd (arA .add v7 (.int .i64 1)) fun t23_12 =>
 (s0 v2 v3 v4 t21_11 t23_12 H10)))))))))))
 else
 (bd (ldN 4 v4 H) fun t24_13 =>
 (bd (stA 4 v4 t24_13 H) fun H14 =>
 (bd (ldN 4 v4 H14) fun t15 =>
 (some (t15, H14)))))))
theorem quad_add.r_l0_e (n m0 : Nat) : quad_add.r_l0 @bdI (callA C n) n (quad_add.l0 n m0) = quad_add.l0 n (m0 + 1) := by
  funext v2 v3 v4 v5 v7 H
  unfold quad_add.r_l0
  kernel_rfl
noncomputable def quad_add.r_l0_lp (bd : B3) (call : FuncId → List V → Heap → Option R) (n : Nat) (m : Nat) : V → V → V → V → V → Heap → Option R := Nat.rec (motive := fun _ => V → V → V → V → V → Heap → Option R) (fun _ _ _ _ _ _ => none) (fun _ self => quad_add.r_l0 bd call n self) m
theorem quad_add.r_l0_lp_e (n : Nat) : quad_add.r_l0_lp @bdI (callA C n) n = quad_add.l0 n := by
  funext m
  induction m with
  | zero => funext v2 v3 v4 v5 v7 H; kernel_rfl
  | succ k ih => exact (congrArg (quad_add.r_l0 @bdI (callA C n) n) ih).trans (quad_add.r_l0_e n k)
noncomputable def quad_add.r (bd : B3) (call : FuncId → List V → Heap → Option R) (n : Nat) (v0 v1 : V) (H : Heap) : Option R :=
 (bd (boxA ty_api_Quad v0) fun o1 =>
 (bd (boxA ty_api_Quad v1) fun o2 =>
 (quad_add.r_l0_lp bd call n n (.ptr (some (H.n, 0))) (.ptr (some ((H.push o1).n, 0))) (.ptr (some (((H.push o1).push o2).n, 0))) (.int .u64 0) (.int .i64 0) (((H.push o1).push o2).push (.cells [(.int .u64 0), (.int .u64 0), (.int .u64 0), (.int .u64 0)] ty_api_Quad false)))))
theorem quad_add.r_e (n : Nat) (v0 v1 : V) (H : Heap) : quad_add.r @bdI (callA C n) n v0 v1 H = E C n 201 [] (argsA 0 [v0, v1]) H (kR C 201) := by
  unfold quad_add.r
  rewrite [quad_add.r_l0_lp_e]
  kernel_rfl
noncomputable def quad_add.rf (bd : B3) (call : FuncId → List V → Heap → Option R) (n : Nat) (a : List V) (H : Heap) : Option R := pureA a H fun a => (match a with | [v0, v1] => quad_add.r bd call n v0 v1 ⟨0, .nil⟩ | a => E C n 201 [] (argsA 0 a) ⟨0, .nil⟩ (kR C 201))
theorem quad_add.rf_b (n : Nat) (a : List V) (H : Heap) : (match a with | [v0, v1] => quad_add.r @bdI (callA C n) n v0 v1 H | a => E C n 201 [] (argsA 0 a) H (kR C 201)) = E C n 201 [] (argsA 0 a) H (kR C 201) := by
  split
  · exact quad_add.r_e n _ _ H
  · rfl
theorem quad_add.rf_e (n : Nat) (a : List V) (H : Heap) : quad_add.rf @bdI (callA C n) n a H = callA C (n + 1) 201 a H := by
  unfold quad_add.rf
  refine (congrArg (pureA a H) (funext fun a => quad_add.rf_b n a ⟨0, .nil⟩)).trans ?_
  kernel_rfl
noncomputable def quad_below.r (bd : B3) (call : FuncId → List V → Heap → Option R) (n : Nat) (v0 : V) (H : Heap) : Option R :=
 (bd (boxA ty_api_Quad v0) fun o1 =>
 (bd (idxP 4 1 (.ptr (some (H.n, 0))) (.int .i64 3)) fun t3_2 =>
 (bd (ld1 t3_2 (H.push o1)) fun t4_3 =>
 (bd (shA .shr t4_3 (.int .u64 63)) fun t5_4 =>
 (bd (arA .eql t5_4 (.int .u64 1)) fun t6_5 =>
 (some (t6_5, (H.push o1))))))))
theorem quad_below.r_e (n : Nat) (v0 : V) (H : Heap) : quad_below.r @bdI (callA C n) n v0 H = E C n 202 [] (argsA 0 [v0]) H (kR C 202) := by
  unfold quad_below.r
  kernel_rfl
noncomputable def quad_below.rf (bd : B3) (call : FuncId → List V → Heap → Option R) (n : Nat) (a : List V) (H : Heap) : Option R := pureA a H fun a => (match a with | [v0] => quad_below.r bd call n v0 ⟨0, .nil⟩ | a => E C n 202 [] (argsA 0 a) ⟨0, .nil⟩ (kR C 202))
theorem quad_below.rf_b (n : Nat) (a : List V) (H : Heap) : (match a with | [v0] => quad_below.r @bdI (callA C n) n v0 H | a => E C n 202 [] (argsA 0 a) H (kR C 202)) = E C n 202 [] (argsA 0 a) H (kR C 202) := by
  split
  · exact quad_below.r_e n _ H
  · rfl
theorem quad_below.rf_e (n : Nat) (a : List V) (H : Heap) : quad_below.rf @bdI (callA C n) n a H = callA C (n + 1) 202 a H := by
  unfold quad_below.rf
  refine (congrArg (pureA a H) (funext fun a => quad_below.rf_b n a ⟨0, .nil⟩)).trans ?_
  kernel_rfl
noncomputable def cmp_Compare_int64.r (bd : B3) (call : FuncId → List V → Heap → Option R) (n : Nat) (v0 v1 : V) (H : Heap) : Option R :=
 (bd (call 238 [v0] H) fun r1 =>
 (bd (call 238 [v1] r1.2) fun r2 =>
 (bd (asB r1.1) fun b3 =>
 if b3 = true then
 (bd (asB r2.1) fun b4 =>
 if b4 = true then
 (some ((.int .i64 0), r2.2))
 else
 (some ((.int .i64 (-1)), r2.2)))
 else
 (bd (asB r2.1) fun b5 =>
 if b5 = true then
 (some ((.int .i64 1), r2.2))
 else
 (bd (arA .lss v0 v1) fun t16_6 =>
 (bd (asB t16_6) fun b7 =>
 if b7 = true then
 (some ((.int .i64 (-1)), r2.2))
 else
 (bd (arA .gtr v0 v1) fun t19_8 =>
 (bd (asB t19_8) fun b9 =>
 if b9 = true then
 (some ((.int .i64 1), r2.2))
 else
 (some ((.int .i64 0), r2.2))))))))))
theorem cmp_Compare_int64.r_e (n : Nat) (v0 v1 : V) (H : Heap) : cmp_Compare_int64.r @bdI (callA C n) n v0 v1 H = E C n 203 [] (argsA 0 [v0, v1]) H (kR C 203) := by
  unfold cmp_Compare_int64.r
  kernel_rfl
noncomputable def cmp_Compare_int64.rf (bd : B3) (call : FuncId → List V → Heap → Option R) (n : Nat) (a : List V) (H : Heap) : Option R := (match a with | [v0, v1] => cmp_Compare_int64.r bd call n v0 v1 H | a => E C n 203 [] (argsA 0 a) H (kR C 203))
theorem cmp_Compare_int64.rf_b (n : Nat) (a : List V) (H : Heap) : (match a with | [v0, v1] => cmp_Compare_int64.r @bdI (callA C n) n v0 v1 H | a => E C n 203 [] (argsA 0 a) H (kR C 203)) = E C n 203 [] (argsA 0 a) H (kR C 203) := by
  split
  · exact cmp_Compare_int64.r_e n _ _ H
  · rfl
theorem cmp_Compare_int64.rf_e (n : Nat) (a : List V) (H : Heap) : cmp_Compare_int64.rf @bdI (callA C n) n a H = callA C (n + 1) 203 a H := by
  unfold cmp_Compare_int64.rf
  refine (cmp_Compare_int64.rf_b n a H).trans ?_
  kernel_rfl
noncomputable def lift_part.r (bd : B3) (call : FuncId → List V → Heap → Option R) (n : Nat) (v0 v1 : V) (H : Heap) : Option R :=
 (bd (arA .quo v0 v1) fun t10_1 =>
 (bd (arA .rem v0 v1) fun t13_2 =>
 (bd (arA .lss t13_2 (.int .i64 0)) fun t15_3 =>
 (bd (asB t15_3) fun b4 =>
 if b4 = true then
 (bd (arA .sub t10_1 (.int .i64 1)) fun t17_5 =>
 (bd (arA .add t13_2 v1) fun t20_6 =>
 (some (.tuple [t20_6, t17_5], (H.more 0)))))
 else
 (some (.tuple [t13_2, t10_1], (H.more 0)))))))
theorem lift_part.r_e (n : Nat) (v0 v1 : V) (H : Heap) : lift_part.r @bdI (callA C n) n v0 v1 H = E C n 204 [] (argsA 0 [v0, v1]) H (kR C 204) := by
  unfold lift_part.r
  kernel_rfl
noncomputable def lift_part.rf (bd : B3) (call : FuncId → List V → Heap → Option R) (n : Nat) (a : List V) (H : Heap) : Option R := pureA a H fun a => (match a with | [v0, v1] => lift_part.r bd call n v0 v1 ⟨0, .nil⟩ | a => E C n 204 [] (argsA 0 a) ⟨0, .nil⟩ (kR C 204))
theorem lift_part.rf_b (n : Nat) (a : List V) (H : Heap) : (match a with | [v0, v1] => lift_part.r @bdI (callA C n) n v0 v1 H | a => E C n 204 [] (argsA 0 a) H (kR C 204)) = E C n 204 [] (argsA 0 a) H (kR C 204) := by
  split
  · exact lift_part.r_e n _ _ H
  · rfl
theorem lift_part.rf_e (n : Nat) (a : List V) (H : Heap) : lift_part.rf @bdI (callA C n) n a H = callA C (n + 1) 204 a H := by
  unfold lift_part.rf
  refine (congrArg (pureA a H) (funext fun a => lift_part.rf_b n a ⟨0, .nil⟩)).trans ?_
  kernel_rfl
noncomputable def mesh_Mesh_face.r (bd : B3) (call : FuncId → List V → Heap → Option R) (n : Nat) (v0 v1 : V) (H : Heap) : Option R :=
 (bd (neqA P ty_p_mesh_Mesh v0 (.ptr none)) fun t6_1 =>
 (bd (asB t6_1) fun b2 =>
 if b2 = true then
 (bd (nilC v0) fun t9_3 =>
 (bd (faA 2 t9_3) fun t10_4 =>
 (bd (ld1 t10_4 H) fun t11_5 =>
 (bd (call 211 [t11_5, v1] H) fun r6 =>
 (some (r6.1, r6.2))))))
 else
 (some ((.bool false), H))))
theorem mesh_Mesh_face.r_e (n : Nat) (v0 v1 : V) (H : Heap) : mesh_Mesh_face.r @bdI (callA C n) n v0 v1 H = E C n 205 [] (argsA 0 [v0, v1]) H (kR C 205) := by
  unfold mesh_Mesh_face.r
  kernel_rfl
noncomputable def mesh_Mesh_face.rf (bd : B3) (call : FuncId → List V → Heap → Option R) (n : Nat) (a : List V) (H : Heap) : Option R := (match a with | [v0, v1] => mesh_Mesh_face.r bd call n v0 v1 H | a => E C n 205 [] (argsA 0 a) H (kR C 205))
theorem mesh_Mesh_face.rf_b (n : Nat) (a : List V) (H : Heap) : (match a with | [v0, v1] => mesh_Mesh_face.r @bdI (callA C n) n v0 v1 H | a => E C n 205 [] (argsA 0 a) H (kR C 205)) = E C n 205 [] (argsA 0 a) H (kR C 205) := by
  split
  · exact mesh_Mesh_face.r_e n _ _ H
  · rfl
theorem mesh_Mesh_face.rf_e (n : Nat) (a : List V) (H : Heap) : mesh_Mesh_face.rf @bdI (callA C n) n a H = callA C (n + 1) 205 a H := by
  unfold mesh_Mesh_face.rf
  refine (mesh_Mesh_face.rf_b n a H).trans ?_
  kernel_rfl
noncomputable def mesh_Mesh_place.r (bd : B3) (call : FuncId → List V → Heap → Option R) (n : Nat) (v0 v1 v2 : V) (H : Heap) : Option R :=
 (bd (boxA ty_api_Tri v1) fun o1 =>
 (bd (nilC v0) fun t9_2 =>
 (bd (faA 3 t9_2) fun t10_3 =>
 (bd (ld1 t10_3 (((H.push o1).push (.cells [(.int .i64 0), (.int .i64 0)] ty_api_Point false)).more 0)) fun t11_4 =>
 (bd (faA 0 (.ptr (some (H.n, 0)))) fun t13_5 =>
 (bd (idxP 3 1 t13_5 v2) fun t14_6 =>
 (bd (ld1 t14_6 (((H.push o1).push (.cells [(.int .i64 0), (.int .i64 0)] ty_api_Point false)).more 0)) fun t15_7 =>
 (bd (idxS 4 t11_4 t15_7) fun t16_8 =>
 (bd (faA 1 t16_8) fun t17_9 =>
 (bd (ldN 2 t17_9 (((H.push o1).push (.cells [(.int .i64 0), (.int .i64 0)] ty_api_Point false)).more 0)) fun t18_10 =>
 (bd (faA 3 (.ptr (some (H.n, 0)))) fun t20_11 =>
 (bd (idxP 3 2 t20_11 v2) fun t21_12 =>
 (bd (ldN 2 t21_12 (((H.push o1).push (.cells [(.int .i64 0), (.int .i64 0)] ty_api_Point false)).more 0)) fun t22_13 =>
 (bd (nilC v0) fun t24_14 =>
 (bd (faA 0 t24_14) fun t25_15 =>
 (bd (ld1 t25_15 (((H.push o1).push (.cells [(.int .i64 0), (.int .i64 0)] ty_api_Point false)).more 0)) fun t26_16 =>
 (bd (call 87 [t18_10, t22_13, t26_16] (((H.push o1).push (.cells [(.int .i64 0), (.int .i64 0)] ty_api_Point false)).more 0)) fun r17 =>
 (bd (extA r17.1 0) fun t28_18 =>
 (bd (extA r17.1 1) fun t29_19 =>
 (bd (stA 2 (.ptr (some ((H.push o1).n, 0))) t28_18 r17.2) fun H20 =>
 (bd (ldN 2 (.ptr (some ((H.push o1).n, 0))) H20) fun t21 =>
 (some (.tuple [t21, t29_19], H20)))))))))))))))))))))))
theorem mesh_Mesh_place.r_e (n : Nat) (v0 v1 v2 : V) (H : Heap) : mesh_Mesh_place.r @bdI (callA C n) n v0 v1 v2 H = E C n 206 [] (argsA 0 [v0, v1, v2]) H (kR C 206) := by
  unfold mesh_Mesh_place.r
  kernel_rfl
noncomputable def mesh_Mesh_place.rf (bd : B3) (call : FuncId → List V → Heap → Option R) (n : Nat) (a : List V) (H : Heap) : Option R := (match a with | [v0, v1, v2] => mesh_Mesh_place.r bd call n v0 v1 v2 H | a => E C n 206 [] (argsA 0 a) H (kR C 206))
theorem mesh_Mesh_place.rf_b (n : Nat) (a : List V) (H : Heap) : (match a with | [v0, v1, v2] => mesh_Mesh_place.r @bdI (callA C n) n v0 v1 v2 H | a => E C n 206 [] (argsA 0 a) H (kR C 206)) = E C n 206 [] (argsA 0 a) H (kR C 206) := by
  split
  · exact mesh_Mesh_place.r_e n _ _ _ H
  · rfl
theorem mesh_Mesh_place.rf_e (n : Nat) (a : List V) (H : Heap) : mesh_Mesh_place.rf @bdI (callA C n) n a H = callA C (n + 1) 206 a H := by
  unfold mesh_Mesh_place.rf
  refine (mesh_Mesh_place.rf_b n a H).trans ?_
  kernel_rfl
noncomputable def mesh_third.r (bd : B3) (call : FuncId → List V → Heap → Option R) (n : Nat) (v0 : V) (H : Heap) : Option R :=
 (bd (arA .rem v0 (.int .i64 3)) fun t4_1 =>
 (bd (arA .add t4_1 (.int .i64 3)) fun t5_2 =>
 (bd (arA .rem t5_2 (.int .i64 3)) fun t6_3 =>
 (some (t6_3, H)))))
theorem mesh_third.r_e (n : Nat) (v0 : V) (H : Heap) : mesh_third.r @bdI (callA C n) n v0 H = E C n 207 [] (argsA 0 [v0]) H (kR C 207) := by
  unfold mesh_third.r
  kernel_rfl
noncomputable def mesh_third.rf (bd : B3) (call : FuncId → List V → Heap → Option R) (n : Nat) (a : List V) (H : Heap) : Option R := pureA a H fun a => (match a with | [v0] => mesh_third.r bd call n v0 ⟨0, .nil⟩ | a => E C n 207 [] (argsA 0 a) ⟨0, .nil⟩ (kR C 207))
theorem mesh_third.rf_b (n : Nat) (a : List V) (H : Heap) : (match a with | [v0] => mesh_third.r @bdI (callA C n) n v0 H | a => E C n 207 [] (argsA 0 a) H (kR C 207)) = E C n 207 [] (argsA 0 a) H (kR C 207) := by
  split
  · exact mesh_third.r_e n _ H
  · rfl
theorem mesh_third.rf_e (n : Nat) (a : List V) (H : Heap) : mesh_third.rf @bdI (callA C n) n a H = callA C (n + 1) 207 a H := by
  unfold mesh_third.rf
  refine (congrArg (pureA a H) (funext fun a => mesh_third.rf_b n a ⟨0, .nil⟩)).trans ?_
  kernel_rfl
noncomputable def arena_Arena_Live.r (bd : B3) (call : FuncId → List V → Heap → Option R) (n : Nat) (v0 v1 : V) (H : Heap) : Option R :=
 (bd (call 86 [v0, v1] H) fun r1 =>
 (some (r1.1, r1.2)))
theorem arena_Arena_Live.r_e (n : Nat) (v0 v1 : V) (H : Heap) : arena_Arena_Live.r @bdI (callA C n) n v0 v1 H = E C n 211 [] (argsA 0 [v0, v1]) H (kR C 211) := by
  unfold arena_Arena_Live.r
  kernel_rfl
noncomputable def arena_Arena_Live.rf (bd : B3) (call : FuncId → List V → Heap → Option R) (n : Nat) (a : List V) (H : Heap) : Option R := (match a with | [v0, v1] => arena_Arena_Live.r bd call n v0 v1 H | a => E C n 211 [] (argsA 0 a) H (kR C 211))
theorem arena_Arena_Live.rf_b (n : Nat) (a : List V) (H : Heap) : (match a with | [v0, v1] => arena_Arena_Live.r @bdI (callA C n) n v0 v1 H | a => E C n 211 [] (argsA 0 a) H (kR C 211)) = E C n 211 [] (argsA 0 a) H (kR C 211) := by
  split
  · exact arena_Arena_Live.r_e n _ _ H
  · rfl
theorem arena_Arena_Live.rf_e (n : Nat) (a : List V) (H : Heap) : arena_Arena_Live.rf @bdI (callA C n) n a H = callA C (n + 1) 211 a H := by
  unfold arena_Arena_Live.rf
  refine (arena_Arena_Live.rf_b n a H).trans ?_
  kernel_rfl
noncomputable def whole_norm.r (bd : B3) (call : FuncId → List V → Heap → Option R) (n : Nat) (v0 v1 : V) (H : Heap) : Option R :=
 (bd (call 243 [v1] (H.push (.cells [(.bool false), (.slice ⟨none, 0, 0, false⟩)] ty_api_Int false))) fun r1 =>
 (bd (asB v0) fun b2 =>
 if b2 = true then
 (bd (lenSl r1.1) fun t10_3 =>
 (bd (arA .gtr t10_3 (.int .i64 0)) fun t11_4 =>
 (bd (flA [(0, 1), (1, 1)] [(.bool false), (.slice ⟨none, 0, 0, false⟩)] [(0, t11_4), (1, r1.1)]) fun t14_5 =>
 (bd (stA 2 (.ptr (some (H.n, 0))) t14_5 r1.2) fun H6 =>
 (bd (ldN 2 (.ptr (some (H.n, 0))) H6) fun t7 =>
 (frzR t7 H6))))))
 else
 (bd (flA [(0, 1), (1, 1)] [(.bool false), (.slice ⟨none, 0, 0, false⟩)] [(0, (.bool false)), (1, r1.1)]) fun t14_8 =>
 (bd (stA 2 (.ptr (some (H.n, 0))) t14_8 r1.2) fun H9 =>
 (bd (ldN 2 (.ptr (some (H.n, 0))) H9) fun t10 =>
 (frzR t10 H9))))))
theorem whole_norm.r_e (n : Nat) (v0 v1 : V) (H : Heap) : whole_norm.r @bdI (callA C n) n v0 v1 H = E C n 212 [] (argsA 0 [v0, v1]) H (kR C 212) := by
  unfold whole_norm.r
  kernel_rfl
noncomputable def whole_norm.rf (bd : B3) (call : FuncId → List V → Heap → Option R) (n : Nat) (a : List V) (H : Heap) : Option R := pureA a H fun a => (match a with | [v0, v1] => whole_norm.r bd call n v0 v1 ⟨0, .nil⟩ | a => E C n 212 [] (argsA 0 a) ⟨0, .nil⟩ (kR C 212))
theorem whole_norm.rf_b (n : Nat) (a : List V) (H : Heap) : (match a with | [v0, v1] => whole_norm.r @bdI (callA C n) n v0 v1 H | a => E C n 212 [] (argsA 0 a) H (kR C 212)) = E C n 212 [] (argsA 0 a) H (kR C 212) := by
  split
  · exact whole_norm.r_e n _ _ H
  · rfl
theorem whole_norm.rf_e (n : Nat) (a : List V) (H : Heap) : whole_norm.rf @bdI (callA C n) n a H = callA C (n + 1) 212 a H := by
  unfold whole_norm.rf
  refine (congrArg (pureA a H) (funext fun a => whole_norm.rf_b n a ⟨0, .nil⟩)).trans ?_
  kernel_rfl
@[irreducible] noncomputable def nat_Mul.l0 (n m0 : Nat) (v1 v5 v17 v18 v19 : V) (H : Heap) : Option R := Lp C n 213 [1, 1, 0, 1, 0, 0] m0 [(1, v1), (5, v5), (17, v17), (18, v18), (19, v19)] H (kB 0 (kC C n 213 [1, 1, 1] (kR C 213)))
@[irreducible] noncomputable def nat_Mul.l1 (n m0 m1 : Nat) (v1 v5 v6 v7 v8 v17 v18 v19 v24 v25 v26 : V) (H : Heap) : Option R := Lp C n 213 [1, 1, 0, 1, 0, 0, 1, 1, 0, 0, 1, 1, 0, 1, 0, 0] m1 [(1, v1), (5, v5), (6, v6), (7, v7), (8, v8), (17, v17), (18, v18), (19, v19), (24, v24), (25, v25), (26, v26)] H (kB 2 (kC C n 213 [1, 1, 0, 1, 0, 0, 1, 1, 0, 0, 1, 1, 1] (kB 1 (kC C n 213 [1, 1, 0, 1, 0, 0, 1, 1, 1] (kL C n 213 [1, 1, 0, 1, 0, 0] m0 (kB 0 (kC C n 213 [1, 1, 1] (kR C 213))))))))
@[irreducible] noncomputable def nat_Mul.p2 (n m0 : Nat) (v1 v5 v6 v8 v17 v18 v19 : V) (H : Heap) : Option R := E C n 213 [1, 1, 0, 1, 0, 0, 1, 1, 0, 0, 1, 1, 1] [(1, v1), (5, v5), (6, v6), (8, v8), (17, v17), (18, v18), (19, v19)] H (kB 1 (kC C n 213 [1, 1, 0, 1, 0, 0, 1, 1, 1] (kL C n 213 [1, 1, 0, 1, 0, 0] m0 (kB 0 (kC C n 213 [1, 1, 1] (kR C 213))))))
noncomputable def nat_Mul.r_p2 (bd : B3) (call : FuncId → List V → Heap → Option R) (n : Nat) (s0 : V → V → V → V → V → Heap → Option R) (v1 v5 v6 v8 v17 v18 v19 : V) (H : Heap) : Option R :=
 (bd (lenSl v1) fun t59_1 =>
 (bd (arA .add v6 t59_1) fun t60_2 =>
 (bd (cvInt .u32 v8) fun t62_3 =>
 (bd (idxS 1 v5 t60_2) fun t63_4 =>
 (bd (stA 1 t63_4 t62_3 H) fun H5 =>
 (bd (arA .add v19 (.int .i64 1)) fun t64_6 =>
 (s0 v1 v5 v17 v18 t64_6 H5)))))))
theorem nat_Mul.r_p2_e (n : Nat) (m0 : Nat) : nat_Mul.r_p2 @bdI (callA C n) n (nat_Mul.l0 n m0) = nat_Mul.p2 n m0 := by
  funext v1 v5 v6 v8 v17 v18 v19 H
  unfold nat_Mul.r_p2
  kernel_rfl
noncomputable def nat_Mul.r_l1 (bd : B3) (call : FuncId → List V → Heap → Option R) (n : Nat) (s0 : V → V → V → V → V → Heap → Option R) (s1 : V → V → V → V → V → V → V → V → V → V → V → Heap → Option R) (v1 v5 v6 v7 v8 v17 v18 v19 v24 v25 v26 : V) (H : Heap) : Option R :=
 (bd (arA .lss v26 v25) fun t27_1 =>
 (bd (asB t27_1) fun b2 =>
 if b2 = true then
 (bd (idxS 1 v24 v26) fun t29_3 =>
 (bd (ld1 t29_3 H) fun t30_4 =>
 (bd (arA .add v6 v26) fun t35_5 =>
 (bd (idxS 1 v5 t35_5) fun t36_6 =>
 (bd (ld1 t36_6 H) fun t37_7 =>
 (bd (cvInt .u64 t37_7) fun t38_8 =>
 (bd (cvInt .u64 v7) fun t40_9 =>
 (bd (cvInt .u64 t30_4) fun t42_10 =>
 (bd (arA .mul t40_9 t42_10) fun t43_11 =>
 (bd (arA .add t38_8 t43_11) fun t44_12 =>
 (bd (arA .add v8 t44_12) fun t45_13 =>
 (bd (arA .add v6 v26) fun t49_14 =>
 (bd (cvInt .u32 t45_13) fun t51_15 =>
 (bd (idxS 1 v5 t49_14) fun t52_16 =>
 (bd (stA 1 t52_16 t51_15 H) fun H17 =>
 (bd (shA .shr t45_13 (.int .u64 32)) fun t54_18 =>
 (bd (arA .add v26 (.int .i64 1)) fun t55_19 =>
 (s1 v1 v5 v6 v7 t54_18 v17 v18 v19 v24 v25 t55_19 H17))))))))))))))))))
 else
 (nat_Mul.r_p2 bd call n s0 v1 v5 v6 v8 v17 v18 v19 H)))
theorem nat_Mul.r_l1_e (n m0 m1 : Nat) : nat_Mul.r_l1 @bdI (callA C n) n (nat_Mul.l0 n m0) (nat_Mul.l1 n m0 m1) = nat_Mul.l1 n m0 (m1 + 1) := by
  funext v1 v5 v6 v7 v8 v17 v18 v19 v24 v25 v26 H
  unfold nat_Mul.r_l1
  rewrite [nat_Mul.r_p2_e]
  kernel_rfl
noncomputable def nat_Mul.r_l1_lp (bd : B3) (call : FuncId → List V → Heap → Option R) (n : Nat) (s0 : V → V → V → V → V → Heap → Option R) (m : Nat) : V → V → V → V → V → V → V → V → V → V → V → Heap → Option R := Nat.rec (motive := fun _ => V → V → V → V → V → V → V → V → V → V → V → Heap → Option R) (fun _ _ _ _ _ _ _ _ _ _ _ _ => none) (fun _ self => nat_Mul.r_l1 bd call n s0 self) m
theorem nat_Mul.r_l1_lp_e (n m0 : Nat) : nat_Mul.r_l1_lp @bdI (callA C n) n (nat_Mul.l0 n m0) = nat_Mul.l1 n m0 := by
  funext m
  induction m with
  | zero => funext v1 v5 v6 v7 v8 v17 v18 v19 v24 v25 v26 H; kernel_rfl
  | succ k ih => exact (congrArg (nat_Mul.r_l1 @bdI (callA C n) n (nat_Mul.l0 n m0)) ih).trans (nat_Mul.r_l1_e n m0 k)
noncomputable def nat_Mul.r_l0 (bd : B3) (call : FuncId → List V → Heap → Option R) (n : Nat) (s0 : V → V → V → V → V → Heap → Option R) (v1 v5 v17 v18 v19 : V) (H : Heap) : Option R :=
 (bd (arA .lss v19 v18) fun t20_1 =>
 (bd (asB t20_1) fun b2 =>
 if b2 = true then
 (bd (idxS 1 v17 v19) fun t22_3 =>
 (bd (ld1 t22_3 H) fun t23_4 =>
 (bd (lenSl v1) fun t25_5 =>
 (nat_Mul.r_l1_lp bd call n s0 n v1 v5 v19 t23_4 (.int .u64 0) v17 v18 v19 v1 t25_5 (.int .i64 0) H))))
 else
 (bd (call 244 [v5] H) fun r6 =>
 (frzR r6.1 r6.2))))
theorem nat_Mul.r_l0_e (n m0 : Nat) : nat_Mul.r_l0 @bdI (callA C n) n (nat_Mul.l0 n m0) = nat_Mul.l0 n (m0 + 1) := by
  funext v1 v5 v17 v18 v19 H
  unfold nat_Mul.r_l0
  rewrite [nat_Mul.r_l1_lp_e]
  kernel_rfl
noncomputable def nat_Mul.r_l0_lp (bd : B3) (call : FuncId → List V → Heap → Option R) (n : Nat) (m : Nat) : V → V → V → V → V → Heap → Option R := Nat.rec (motive := fun _ => V → V → V → V → V → Heap → Option R) (fun _ _ _ _ _ _ => none) (fun _ self => nat_Mul.r_l0 bd call n self) m
theorem nat_Mul.r_l0_lp_e (n : Nat) : nat_Mul.r_l0_lp @bdI (callA C n) n = nat_Mul.l0 n := by
  funext m
  induction m with
  | zero => funext v1 v5 v17 v18 v19 H; kernel_rfl
  | succ k ih => exact (congrArg (nat_Mul.r_l0 @bdI (callA C n) n) ih).trans (nat_Mul.r_l0_e n k)
noncomputable def nat_Mul.r (bd : B3) (call : FuncId → List V → Heap → Option R) (n : Nat) (v0 v1 : V) (H : Heap) : Option R :=
 (bd (lenSl v0) fun t12_1 =>
 (bd (lenSl v1) fun t14_2 =>
 (bd (arA .add t12_1 t14_2) fun t15_3 =>
 (bd (mkSl 1 4 ty_uint32 [(.int .u32 0)] t15_3 t15_3) fun o4 =>
 (bd (lenSl v0) fun t18_5 =>
 (nat_Mul.r_l0_lp bd call n n v1 (.slice ⟨some (H.n, 0), o4.2, 1, false⟩) v0 t18_5 (.int .i64 0) (H.push o4.1)))))))
theorem nat_Mul.r_e (n : Nat) (v0 v1 : V) (H : Heap) : nat_Mul.r @bdI (callA C n) n v0 v1 H = E C n 213 [] (argsA 0 [v0, v1]) H (kR C 213) := by
  unfold nat_Mul.r
  rewrite [nat_Mul.r_l0_lp_e]
  kernel_rfl
noncomputable def nat_Mul.rf (bd : B3) (call : FuncId → List V → Heap → Option R) (n : Nat) (a : List V) (H : Heap) : Option R := pureA a H fun a => (match a with | [v0, v1] => nat_Mul.r bd call n v0 v1 ⟨0, .nil⟩ | a => E C n 213 [] (argsA 0 a) ⟨0, .nil⟩ (kR C 213))
theorem nat_Mul.rf_b (n : Nat) (a : List V) (H : Heap) : (match a with | [v0, v1] => nat_Mul.r @bdI (callA C n) n v0 v1 H | a => E C n 213 [] (argsA 0 a) H (kR C 213)) = E C n 213 [] (argsA 0 a) H (kR C 213) := by
  split
  · exact nat_Mul.r_e n _ _ H
  · rfl
theorem nat_Mul.rf_e (n : Nat) (a : List V) (H : Heap) : nat_Mul.rf @bdI (callA C n) n a H = callA C (n + 1) 213 a H := by
  unfold nat_Mul.rf
  refine (congrArg (pureA a H) (funext fun a => nat_Mul.rf_b n a ⟨0, .nil⟩)).trans ?_
  kernel_rfl
end Go.AM.L
end
section
set_option linter.unusedVariables false
set_option linter.unusedSimpArgs false
set_option maxRecDepth 1000000
set_option linter.unusedVariables false
namespace Go.AM.L
noncomputable def nat_Of.r (bd : B3) (call : FuncId → List V → Heap → Option R) (n : Nat) (v0 : V) (H : Heap) : Option R :=
 (bd (cvInt .u32 v0) fun t4_1 =>
 (bd (shA .shr v0 (.int .u64 32)) fun t6_2 =>
 (bd (cvInt .u32 t6_2) fun t7_3 =>
 (bd (bSl 1 ty_uint32 [(.int .u32 0)] 2 [(0, t4_1), (1, t7_3)]) fun o4 =>
 (bd (call 244 [(.slice ⟨some (H.n, 0), 2, 1, false⟩)] (H.push o4)) fun r5 =>
 (bd (call 245 [r5.1] r5.2) fun r6 =>
 (frzR r6.1 r6.2)))))))
theorem nat_Of.r_e (n : Nat) (v0 : V) (H : Heap) : nat_Of.r @bdI (callA C n) n v0 H = E C n 214 [] (argsA 0 [v0]) H (kR C 214) := by
  unfold nat_Of.r
  kernel_rfl
noncomputable def nat_Of.rf (bd : B3) (call : FuncId → List V → Heap → Option R) (n : Nat) (a : List V) (H : Heap) : Option R := pureA a H fun a => (match a with | [v0] => nat_Of.r bd call n v0 ⟨0, .nil⟩ | a => E C n 214 [] (argsA 0 a) ⟨0, .nil⟩ (kR C 214))
theorem nat_Of.rf_b (n : Nat) (a : List V) (H : Heap) : (match a with | [v0] => nat_Of.r @bdI (callA C n) n v0 H | a => E C n 214 [] (argsA 0 a) H (kR C 214)) = E C n 214 [] (argsA 0 a) H (kR C 214) := by
  split
  · exact nat_Of.r_e n _ H
  · rfl
theorem nat_Of.rf_e (n : Nat) (a : List V) (H : Heap) : nat_Of.rf @bdI (callA C n) n a H = callA C (n + 1) 214 a H := by
  unfold nat_Of.rf
  refine (congrArg (pureA a H) (funext fun a => nat_Of.rf_b n a ⟨0, .nil⟩)).trans ?_
  kernel_rfl
noncomputable def pred_Dist2.r (bd : B3) (call : FuncId → List V → Heap → Option R) (n : Nat) (v0 v1 : V) (H : Heap) : Option R :=
 (bd (boxA ty_api_Point v0) fun o1 =>
 (bd (boxA ty_api_Point v1) fun o2 =>
 (bd (ldN 2 (.ptr (some (H.n, 0))) (((H.push o1).push o2).push (.cells [(.int .i64 0), (.int .u64 0)] ty_api_Wide false))) fun t5_3 =>
 (bd (ldN 2 (.ptr (some ((H.push o1).n, 0))) (((H.push o1).push o2).push (.cells [(.int .i64 0), (.int .u64 0)] ty_api_Wide false))) fun t6_4 =>
 (bd (bSl 2 ty_api_Point [(.int .i64 0), (.int .i64 0)] 2 [(0, t5_3), (1, t6_4)]) fun o5 =>
 (bd (call 88 [(.slice ⟨some ((((H.push o1).push o2).push (.cells [(.int .i64 0), (.int .u64 0)] ty_api_Wide false)).n, 0), 2, 2, false⟩)] ((((H.push o1).push o2).push (.cells [(.int .i64 0), (.int .u64 0)] ty_api_Wide false)).push o5)) fun r6 =>
 (bd (unA .not r6.1) fun t9_7 =>
 (bd (asB t9_7) fun b8 =>
 if b8 = true then
 (bd (flA [(0, 1), (1, 1)] [(.int .i64 0), (.int .u64 0)] []) fun t10_9 =>
 (bd (stA 2 (.ptr (some (((H.push o1).push o2).n, 0))) t10_9 r6.2) fun H10 =>
 (bd (ldN 2 (.ptr (some (((H.push o1).push o2).n, 0))) H10) fun t11 =>
 (some (t11, H10)))))
 else
 (bd (ldN 2 (.ptr (some (H.n, 0))) r6.2) fun t11_12 =>
 (bd (ldN 2 (.ptr (some ((H.push o1).n, 0))) r6.2) fun t12_13 =>
 (bd (call 92 [t11_12, t12_13] r6.2) fun r14 =>
 (bd (call 156 [r14.1] r14.2) fun r15 =>
 (bd (stA 2 (.ptr (some (((H.push o1).push o2).n, 0))) r15.1 r15.2) fun H16 =>
 (bd (ldN 2 (.ptr (some (((H.push o1).push o2).n, 0))) H16) fun t17 =>
 (some (t17, H16))))))))))))))))
theorem pred_Dist2.r_e (n : Nat) (v0 v1 : V) (H : Heap) : pred_Dist2.r @bdI (callA C n) n v0 v1 H = E C n 215 [] (argsA 0 [v0, v1]) H (kR C 215) := by
  unfold pred_Dist2.r
  kernel_rfl
noncomputable def pred_Dist2.rf (bd : B3) (call : FuncId → List V → Heap → Option R) (n : Nat) (a : List V) (H : Heap) : Option R := pureA a H fun a => (match a with | [v0, v1] => pred_Dist2.r bd call n v0 v1 ⟨0, .nil⟩ | a => E C n 215 [] (argsA 0 a) ⟨0, .nil⟩ (kR C 215))
theorem pred_Dist2.rf_b (n : Nat) (a : List V) (H : Heap) : (match a with | [v0, v1] => pred_Dist2.r @bdI (callA C n) n v0 v1 H | a => E C n 215 [] (argsA 0 a) H (kR C 215)) = E C n 215 [] (argsA 0 a) H (kR C 215) := by
  split
  · exact pred_Dist2.r_e n _ _ H
  · rfl
theorem pred_Dist2.rf_e (n : Nat) (a : List V) (H : Heap) : pred_Dist2.rf @bdI (callA C n) n a H = callA C (n + 1) 215 a H := by
  unfold pred_Dist2.rf
  refine (congrArg (pureA a H) (funext fun a => pred_Dist2.rf_b n a ⟨0, .nil⟩)).trans ?_
  kernel_rfl
noncomputable def whole_sign.r (bd : B3) (call : FuncId → List V → Heap → Option R) (n : Nat) (v0 : V) (H : Heap) : Option R :=
 (bd (boxA ty_api_Int v0) fun o1 =>
 (bd (faA 1 (.ptr (some (H.n, 0)))) fun t4_2 =>
 (bd (ld1 t4_2 (H.push o1)) fun t5_3 =>
 (bd (call 246 [t5_3] (H.push o1)) fun r4 =>
 (bd (arA .eql r4.1 (.int .i64 0)) fun t7_5 =>
 (bd (asB t7_5) fun b6 =>
 if b6 = true then
 (some ((.int .i64 0), r4.2))
 else
 (bd (faA 0 (.ptr (some (H.n, 0)))) fun t9_7 =>
 (bd (ld1 t9_7 r4.2) fun t10_8 =>
 (bd (asB t10_8) fun b9 =>
 if b9 = true then
 (some ((.int .i64 (-1)), r4.2))
 else
 (some ((.int .i64 1), r4.2)))))))))))
theorem whole_sign.r_e (n : Nat) (v0 : V) (H : Heap) : whole_sign.r @bdI (callA C n) n v0 H = E C n 216 [] (argsA 0 [v0]) H (kR C 216) := by
  unfold whole_sign.r
  kernel_rfl
noncomputable def whole_sign.rf (bd : B3) (call : FuncId → List V → Heap → Option R) (n : Nat) (a : List V) (H : Heap) : Option R := pureA a H fun a => (match a with | [v0] => whole_sign.r bd call n v0 ⟨0, .nil⟩ | a => E C n 216 [] (argsA 0 a) ⟨0, .nil⟩ (kR C 216))
theorem whole_sign.rf_b (n : Nat) (a : List V) (H : Heap) : (match a with | [v0] => whole_sign.r @bdI (callA C n) n v0 H | a => E C n 216 [] (argsA 0 a) H (kR C 216)) = E C n 216 [] (argsA 0 a) H (kR C 216) := by
  split
  · exact whole_sign.r_e n _ H
  · rfl
theorem whole_sign.rf_e (n : Nat) (a : List V) (H : Heap) : whole_sign.rf @bdI (callA C n) n a H = callA C (n + 1) 216 a H := by
  unfold whole_sign.rf
  refine (congrArg (pureA a H) (funext fun a => whole_sign.rf_b n a ⟨0, .nil⟩)).trans ?_
  kernel_rfl
noncomputable def nat_Cmp.r (bd : B3) (call : FuncId → List V → Heap → Option R) (n : Nat) (v0 v1 : V) (H : Heap) : Option R :=
 (bd (call 247 [v0, v1] H) fun r1 =>
 (some (r1.1, r1.2)))
theorem nat_Cmp.r_e (n : Nat) (v0 v1 : V) (H : Heap) : nat_Cmp.r @bdI (callA C n) n v0 v1 H = E C n 217 [] (argsA 0 [v0, v1]) H (kR C 217) := by
  unfold nat_Cmp.r
  kernel_rfl
noncomputable def nat_Cmp.rf (bd : B3) (call : FuncId → List V → Heap → Option R) (n : Nat) (a : List V) (H : Heap) : Option R := pureA a H fun a => (match a with | [v0, v1] => nat_Cmp.r bd call n v0 v1 ⟨0, .nil⟩ | a => E C n 217 [] (argsA 0 a) ⟨0, .nil⟩ (kR C 217))
theorem nat_Cmp.rf_b (n : Nat) (a : List V) (H : Heap) : (match a with | [v0, v1] => nat_Cmp.r @bdI (callA C n) n v0 v1 H | a => E C n 217 [] (argsA 0 a) H (kR C 217)) = E C n 217 [] (argsA 0 a) H (kR C 217) := by
  split
  · exact nat_Cmp.r_e n _ _ H
  · rfl
theorem nat_Cmp.rf_e (n : Nat) (a : List V) (H : Heap) : nat_Cmp.rf @bdI (callA C n) n a H = callA C (n + 1) 217 a H := by
  unfold nat_Cmp.rf
  refine (congrArg (pureA a H) (funext fun a => nat_Cmp.rf_b n a ⟨0, .nil⟩)).trans ?_
  kernel_rfl
@[irreducible] noncomputable def whole_OfQuad.p0 (n : Nat) (v1 v2 v3 : V) (H : Heap) : Option R := E C n 218 [1, 1, 1] [(1, v1), (2, v2), (3, v3)] H (kR C 218)
@[irreducible] noncomputable def whole_OfQuad.l1 (n m0 : Nat) (v2 v3 v4 v13 v14 : V) (H : Heap) : Option R := Lp C n 218 [1, 1, 1, 1, 0, 1, 0, 0] m0 [(2, v2), (3, v3), (4, v4), (13, v13), (14, v14)] H (kB 0 (kC C n 218 [1, 1, 1, 1, 1] (kR C 218)))
@[irreducible] noncomputable def whole_OfQuad.p2 (n : Nat) (v2 v3 v4 : V) (H : Heap) : Option R := E C n 218 [1, 1, 1, 1, 1] [(2, v2), (3, v3), (4, v4)] H (kR C 218)
noncomputable def whole_OfQuad.r_p2 (bd : B3) (call : FuncId → List V → Heap → Option R) (n : Nat) (v2 v3 v4 : V) (H : Heap) : Option R :=
 (bd (call 212 [v3, v4] H) fun r1 =>
 (bd (stA 2 v2 r1.1 r1.2) fun H2 =>
 (bd (ldN 2 v2 H2) fun t3 =>
 (frzR t3 H2))))
theorem whole_OfQuad.r_p2_e (n : Nat) : whole_OfQuad.r_p2 @bdI (callA C n) n = whole_OfQuad.p2 n := by
  funext v2 v3 v4 H
  unfold whole_OfQuad.r_p2
  kernel_rfl
noncomputable def whole_OfQuad.r_l1 (bd : B3) (call : FuncId → List V → Heap → Option R) (n : Nat) (s0 : V → V → V → V → V → Heap → Option R) (v2 v3 v4 v13 v14 : V) (H : Heap) : Option R :=
 (bd (arA .lss v14 (.int .i64 4)) fun t15_1 =>
 (bd (asB t15_1) fun b2 =>
 if b2 = true then
 (bd (ix1 4 v13 v14) fun t16_3 =>
 (bd (cvInt .u32 t16_3) fun t19_4 =>
 (bd (shA .shr t16_3 (.int .u64 32)) fun t21_5 =>
 (bd (cvInt .u32 t21_5) fun t22_6 =>
 (bd (bSl 1 ty_uint32 [(.int .u32 0)] 2 [(0, t19_4), (1, t22_6)]) fun o7 =>
 (bd (appA 1 4 ty_uint32 v4 (.slice ⟨some (H.n, 0), 2, 1, false⟩) (H.push o7)) fun p8 =>
 (bd (arA .add v14 (.int .i64 1)) fun t25_9 =>
 (s0 v2 v3 p8.1 v13 t25_9 p8.2))))))))
 else
 (whole_OfQuad.r_p2 bd call n v2 v3 v4 H)))
theorem whole_OfQuad.r_l1_e (n m0 : Nat) : whole_OfQuad.r_l1 @bdI (callA C n) n (whole_OfQuad.l1 n m0) = whole_OfQuad.l1 n (m0 + 1) := by
  funext v2 v3 v4 v13 v14 H
  unfold whole_OfQuad.r_l1
  rewrite [whole_OfQuad.r_p2_e]
  kernel_rfl
noncomputable def whole_OfQuad.r_l1_lp (bd : B3) (call : FuncId → List V → Heap → Option R) (n : Nat) (m : Nat) : V → V → V → V → V → Heap → Option R := Nat.rec (motive := fun _ => V → V → V → V → V → Heap → Option R) (fun _ _ _ _ _ _ => none) (fun _ self => whole_OfQuad.r_l1 bd call n self) m
theorem whole_OfQuad.r_l1_lp_e (n : Nat) : whole_OfQuad.r_l1_lp @bdI (callA C n) n = whole_OfQuad.l1 n := by
  funext m
  induction m with
  | zero => funext v2 v3 v4 v13 v14 H; kernel_rfl
  | succ k ih => exact (congrArg (whole_OfQuad.r_l1 @bdI (callA C n) n) ih).trans (whole_OfQuad.r_l1_e n k)
noncomputable def whole_OfQuad.r_p0 (bd : B3) (call : FuncId → List V → Heap → Option R) (n : Nat) (v1 v2 v3 : V) (H : Heap) : Option R :=
 (bd (ldN 4 v1 H) fun t13_1 =>
 (whole_OfQuad.r_l1_lp bd call n n v2 v3 (.slice ⟨none, 0, 0, false⟩) t13_1 (.int .i64 0) H))
theorem whole_OfQuad.r_p0_e (n : Nat) : whole_OfQuad.r_p0 @bdI (callA C n) n = whole_OfQuad.p0 n := by
  funext v1 v2 v3 H
  unfold whole_OfQuad.r_p0
  rewrite [whole_OfQuad.r_l1_lp_e]
  kernel_rfl
noncomputable def whole_OfQuad.r (bd : B3) (call : FuncId → List V → Heap → Option R) (n : Nat) (v0 : V) (H : Heap) : Option R :=
 (bd (boxA ty_api_Quad v0) fun o1 =>
 (bd (ldN 4 (.ptr (some (H.n, 0))) ((H.push o1).push (.cells [(.bool false), (.slice ⟨none, 0, 0, false⟩)] ty_api_Int false))) fun t7_2 =>
 (bd (call 158 [t7_2] ((H.push o1).push (.cells [(.bool false), (.slice ⟨none, 0, 0, false⟩)] ty_api_Int false))) fun r3 =>
 (bd (arA .lss r3.1 (.int .i64 0)) fun t9_4 =>
 (bd (asB t9_4) fun b5 =>
 if b5 = true then
 (bd (ldN 4 (.ptr (some (H.n, 0))) r3.2) fun t11_6 =>
 (bd (call 248 [t11_6] r3.2) fun r7 =>
 (bd (stA 4 (.ptr (some (H.n, 0))) r7.1 r7.2) fun H8 =>
 (whole_OfQuad.r_p0 bd call n (.ptr (some (H.n, 0))) (.ptr (some ((H.push o1).n, 0))) t9_4 H8))))
 else
 (whole_OfQuad.r_p0 bd call n (.ptr (some (H.n, 0))) (.ptr (some ((H.push o1).n, 0))) t9_4 r3.2))))))
theorem whole_OfQuad.r_e (n : Nat) (v0 : V) (H : Heap) : whole_OfQuad.r @bdI (callA C n) n v0 H = E C n 218 [] (argsA 0 [v0]) H (kR C 218) := by
  unfold whole_OfQuad.r
  rewrite [whole_OfQuad.r_p0_e]
  kernel_rfl
noncomputable def whole_OfQuad.rf (bd : B3) (call : FuncId → List V → Heap → Option R) (n : Nat) (a : List V) (H : Heap) : Option R := pureA a H fun a => (match a with | [v0] => whole_OfQuad.r bd call n v0 ⟨0, .nil⟩ | a => E C n 218 [] (argsA 0 a) ⟨0, .nil⟩ (kR C 218))
theorem whole_OfQuad.rf_b (n : Nat) (a : List V) (H : Heap) : (match a with | [v0] => whole_OfQuad.r @bdI (callA C n) n v0 H | a => E C n 218 [] (argsA 0 a) H (kR C 218)) = E C n 218 [] (argsA 0 a) H (kR C 218) := by
  split
  · exact whole_OfQuad.r_e n _ H
  · rfl
theorem whole_OfQuad.rf_e (n : Nat) (a : List V) (H : Heap) : whole_OfQuad.rf @bdI (callA C n) n a H = callA C (n + 1) 218 a H := by
  unfold whole_OfQuad.rf
  refine (congrArg (pureA a H) (funext fun a => whole_OfQuad.rf_b n a ⟨0, .nil⟩)).trans ?_
  kernel_rfl
noncomputable def quad_Of.r (bd : B3) (call : FuncId → List V → Heap → Option R) (n : Nat) (v0 : V) (H : Heap) : Option R :=
 (bd (boxA ty_api_Wide v0) fun o1 =>
 (bd (ldN 2 (.ptr (some (H.n, 0))) ((H.push o1).push (.cells [(.int .u64 0), (.int .u64 0), (.int .u64 0), (.int .u64 0)] ty_api_Quad false))) fun t3_2 =>
 (bd (call 249 [t3_2] ((H.push o1).push (.cells [(.int .u64 0), (.int .u64 0), (.int .u64 0), (.int .u64 0)] ty_api_Quad false))) fun r3 =>
 (bd (stA 4 (.ptr (some ((H.push o1).n, 0))) r3.1 r3.2) fun H4 =>
 (bd (ldN 4 (.ptr (some ((H.push o1).n, 0))) H4) fun t5 =>
 (some (t5, H4)))))))
theorem quad_Of.r_e (n : Nat) (v0 : V) (H : Heap) : quad_Of.r @bdI (callA C n) n v0 H = E C n 219 [] (argsA 0 [v0]) H (kR C 219) := by
  unfold quad_Of.r
  kernel_rfl
noncomputable def quad_Of.rf (bd : B3) (call : FuncId → List V → Heap → Option R) (n : Nat) (a : List V) (H : Heap) : Option R := pureA a H fun a => (match a with | [v0] => quad_Of.r bd call n v0 ⟨0, .nil⟩ | a => E C n 219 [] (argsA 0 a) ⟨0, .nil⟩ (kR C 219))
theorem quad_Of.rf_b (n : Nat) (a : List V) (H : Heap) : (match a with | [v0] => quad_Of.r @bdI (callA C n) n v0 H | a => E C n 219 [] (argsA 0 a) H (kR C 219)) = E C n 219 [] (argsA 0 a) H (kR C 219) := by
  split
  · exact quad_Of.r_e n _ H
  · rfl
theorem quad_Of.rf_e (n : Nat) (a : List V) (H : Heap) : quad_Of.rf @bdI (callA C n) n a H = callA C (n + 1) 219 a H := by
  unfold quad_Of.rf
  refine (congrArg (pureA a H) (funext fun a => quad_Of.rf_b n a ⟨0, .nil⟩)).trans ?_
  kernel_rfl
noncomputable def wide_Neg.r (bd : B3) (call : FuncId → List V → Heap → Option R) (n : Nat) (v0 : V) (H : Heap) : Option R :=
 (bd (boxA ty_api_Wide v0) fun o1 =>
 (bd (flA [(0, 1), (1, 1)] [(.int .i64 0), (.int .u64 0)] []) fun t3_2 =>
 (bd (ldN 2 (.ptr (some (H.n, 0))) ((H.push o1).push (.cells [(.int .i64 0), (.int .u64 0)] ty_api_Wide false))) fun t4_3 =>
 (bd (call 153 [t3_2, t4_3] ((H.push o1).push (.cells [(.int .i64 0), (.int .u64 0)] ty_api_Wide false))) fun r4 =>
 (bd (stA 2 (.ptr (some ((H.push o1).n, 0))) r4.1 r4.2) fun H5 =>
 (bd (ldN 2 (.ptr (some ((H.push o1).n, 0))) H5) fun t6 =>
 (some (t6, H5))))))))
theorem wide_Neg.r_e (n : Nat) (v0 : V) (H : Heap) : wide_Neg.r @bdI (callA C n) n v0 H = E C n 237 [] (argsA 0 [v0]) H (kR C 237) := by
  unfold wide_Neg.r
  kernel_rfl
noncomputable def wide_Neg.rf (bd : B3) (call : FuncId → List V → Heap → Option R) (n : Nat) (a : List V) (H : Heap) : Option R := pureA a H fun a => (match a with | [v0] => wide_Neg.r bd call n v0 ⟨0, .nil⟩ | a => E C n 237 [] (argsA 0 a) ⟨0, .nil⟩ (kR C 237))
theorem wide_Neg.rf_b (n : Nat) (a : List V) (H : Heap) : (match a with | [v0] => wide_Neg.r @bdI (callA C n) n v0 H | a => E C n 237 [] (argsA 0 a) H (kR C 237)) = E C n 237 [] (argsA 0 a) H (kR C 237) := by
  split
  · exact wide_Neg.r_e n _ H
  · rfl
theorem wide_Neg.rf_e (n : Nat) (a : List V) (H : Heap) : wide_Neg.rf @bdI (callA C n) n a H = callA C (n + 1) 237 a H := by
  unfold wide_Neg.rf
  refine (congrArg (pureA a H) (funext fun a => wide_Neg.rf_b n a ⟨0, .nil⟩)).trans ?_
  kernel_rfl
noncomputable def cmp_isNaN_int64.r (bd : B3) (call : FuncId → List V → Heap → Option R) (n : Nat) (v0 : V) (H : Heap) : Option R :=
 (bd (arA .neq v0 v0) fun t5_1 =>
 (some (t5_1, H)))
theorem cmp_isNaN_int64.r_e (n : Nat) (v0 : V) (H : Heap) : cmp_isNaN_int64.r @bdI (callA C n) n v0 H = E C n 238 [] (argsA 0 [v0]) H (kR C 238) := by
  unfold cmp_isNaN_int64.r
  kernel_rfl
noncomputable def cmp_isNaN_int64.rf (bd : B3) (call : FuncId → List V → Heap → Option R) (n : Nat) (a : List V) (H : Heap) : Option R := (match a with | [v0] => cmp_isNaN_int64.r bd call n v0 H | a => E C n 238 [] (argsA 0 a) H (kR C 238))
theorem cmp_isNaN_int64.rf_b (n : Nat) (a : List V) (H : Heap) : (match a with | [v0] => cmp_isNaN_int64.r @bdI (callA C n) n v0 H | a => E C n 238 [] (argsA 0 a) H (kR C 238)) = E C n 238 [] (argsA 0 a) H (kR C 238) := by
  split
  · exact cmp_isNaN_int64.r_e n _ H
  · rfl
theorem cmp_isNaN_int64.rf_e (n : Nat) (a : List V) (H : Heap) : cmp_isNaN_int64.rf @bdI (callA C n) n a H = callA C (n + 1) 238 a H := by
  unfold cmp_isNaN_int64.rf
  refine (cmp_isNaN_int64.rf_b n a H).trans ?_
  kernel_rfl
noncomputable def nat_Trim.r (bd : B3) (call : FuncId → List V → Heap → Option R) (n : Nat) (v0 : V) (H : Heap) : Option R :=
 (bd (call 244 [v0] H) fun r1 =>
 (bd (call 245 [r1.1] r1.2) fun r2 =>
 (frzR r2.1 r2.2)))
theorem nat_Trim.r_e (n : Nat) (v0 : V) (H : Heap) : nat_Trim.r @bdI (callA C n) n v0 H = E C n 243 [] (argsA 0 [v0]) H (kR C 243) := by
  unfold nat_Trim.r
  kernel_rfl
noncomputable def nat_Trim.rf (bd : B3) (call : FuncId → List V → Heap → Option R) (n : Nat) (a : List V) (H : Heap) : Option R := pureA a H fun a => (match a with | [v0] => nat_Trim.r bd call n v0 ⟨0, .nil⟩ | a => E C n 243 [] (argsA 0 a) ⟨0, .nil⟩ (kR C 243))
theorem nat_Trim.rf_b (n : Nat) (a : List V) (H : Heap) : (match a with | [v0] => nat_Trim.r @bdI (callA C n) n v0 H | a => E C n 243 [] (argsA 0 a) H (kR C 243)) = E C n 243 [] (argsA 0 a) H (kR C 243) := by
  split
  · exact nat_Trim.r_e n _ H
  · rfl
theorem nat_Trim.rf_e (n : Nat) (a : List V) (H : Heap) : nat_Trim.rf @bdI (callA C n) n a H = callA C (n + 1) 243 a H := by
  unfold nat_Trim.rf
  refine (congrArg (pureA a H) (funext fun a => nat_Trim.rf_b n a ⟨0, .nil⟩)).trans ?_
  kernel_rfl
@[irreducible] noncomputable def nat_trim.l0 (n m0 : Nat) (v0 : V) (H : Heap) : Option R := Lp C n 244 [1, 0, 0, 0] m0 [(0, v0)] H (kB 0 (kC C n 244 [1, 1] (kR C 244)))
noncomputable def nat_trim.r_l0 (bd : B3) (call : FuncId → List V → Heap → Option R) (n : Nat) (s0 : V → Heap → Option R) (v0 : V) (H : Heap) : Option R :=
 (bd (lenSl v0) fun t4_1 =>
 (bd (arA .gtr t4_1 (.int .i64 0)) fun t5_2 =>
 (bd (asB t5_2) fun b3 =>
 if b3 = true then
 (bd (lenSl v0) fun t9_4 =>
 (bd (arA .sub t9_4 (.int .i64 1)) fun t10_5 =>
 (bd (idxS 1 v0 t10_5) fun t11_6 =>
 (bd (ld1 t11_6 H) fun t12_7 =>
 (bd (arA .eql t12_7 (.int .u32 0)) fun t13_8 =>
 (bd (asB t13_8) fun b9 =>
 if b9 = true then
 (bd (lenSl v0) fun t17_10 =>
 (bd (arA .sub t17_10 (.int .i64 1)) fun t18_11 =>
 (bd (slSl 1 v0 none (some t18_11)) fun t19_12 =>
 (s0 t19_12 H))))
 else
 (frzR v0 H)))))))
 else
 (frzR v0 H))))
theorem nat_trim.r_l0_e (n m0 : Nat) : nat_trim.r_l0 @bdI (callA C n) n (nat_trim.l0 n m0) = nat_trim.l0 n (m0 + 1) := by
  funext v0 H
  unfold nat_trim.r_l0
  kernel_rfl
noncomputable def nat_trim.r_l0_lp (bd : B3) (call : FuncId → List V → Heap → Option R) (n : Nat) (m : Nat) : V → Heap → Option R := Nat.rec (motive := fun _ => V → Heap → Option R) (fun _ _ => none) (fun _ self => nat_trim.r_l0 bd call n self) m
theorem nat_trim.r_l0_lp_e (n : Nat) : nat_trim.r_l0_lp @bdI (callA C n) n = nat_trim.l0 n := by
  funext m
  induction m with
  | zero => funext v0 H; kernel_rfl
  | succ k ih => exact (congrArg (nat_trim.r_l0 @bdI (callA C n) n) ih).trans (nat_trim.r_l0_e n k)
noncomputable def nat_trim.r (bd : B3) (call : FuncId → List V → Heap → Option R) (n : Nat) (v0 : V) (H : Heap) : Option R :=
 (nat_trim.r_l0_lp bd call n n v0 H)
theorem nat_trim.r_e (n : Nat) (v0 : V) (H : Heap) : nat_trim.r @bdI (callA C n) n v0 H = E C n 244 [] (argsA 0 [v0]) H (kR C 244) := by
  unfold nat_trim.r
  rewrite [nat_trim.r_l0_lp_e]
  kernel_rfl
noncomputable def nat_trim.rf (bd : B3) (call : FuncId → List V → Heap → Option R) (n : Nat) (a : List V) (H : Heap) : Option R := pureA a H fun a => (match a with | [v0] => nat_trim.r bd call n v0 ⟨0, .nil⟩ | a => E C n 244 [] (argsA 0 a) ⟨0, .nil⟩ (kR C 244))
theorem nat_trim.rf_b (n : Nat) (a : List V) (H : Heap) : (match a with | [v0] => nat_trim.r @bdI (callA C n) n v0 H | a => E C n 244 [] (argsA 0 a) H (kR C 244)) = E C n 244 [] (argsA 0 a) H (kR C 244) := by
  split
  · exact nat_trim.r_e n _ H
  · rfl
theorem nat_trim.rf_e (n : Nat) (a : List V) (H : Heap) : nat_trim.rf @bdI (callA C n) n a H = callA C (n + 1) 244 a H := by
  unfold nat_trim.rf
  refine (congrArg (pureA a H) (funext fun a => nat_trim.rf_b n a ⟨0, .nil⟩)).trans ?_
  kernel_rfl
noncomputable def slices_Clone_api_Nat_uint32.r (bd : B3) (call : FuncId → List V → Heap → Option R) (n : Nat) (v0 : V) (H : Heap) : Option R :=
 (bd (eqlA P ty_api_Nat v0 (.slice ⟨none, 0, 0, false⟩)) fun t4_1 =>
 (bd (asB t4_1) fun b2 =>
 if b2 = true then
 (some ((.slice ⟨none, 0, 0, false⟩), H))
 else
 (bd (bSl 1 ty_uint32 [(.int .u32 0)] 0 []) fun o3 =>
 (bd (appA 1 4 ty_uint32 (.slice ⟨some (H.n, 0), 0, 1, false⟩) v0 (H.push o3)) fun p4 =>
 (some (p4.1, p4.2))))))
theorem slices_Clone_api_Nat_uint32.r_e (n : Nat) (v0 : V) (H : Heap) : slices_Clone_api_Nat_uint32.r @bdI (callA C n) n v0 H = E C n 245 [] (argsA 0 [v0]) H (kR C 245) := by
  unfold slices_Clone_api_Nat_uint32.r
  kernel_rfl
noncomputable def slices_Clone_api_Nat_uint32.rf (bd : B3) (call : FuncId → List V → Heap → Option R) (n : Nat) (a : List V) (H : Heap) : Option R := (match a with | [v0] => slices_Clone_api_Nat_uint32.r bd call n v0 H | a => E C n 245 [] (argsA 0 a) H (kR C 245))
theorem slices_Clone_api_Nat_uint32.rf_b (n : Nat) (a : List V) (H : Heap) : (match a with | [v0] => slices_Clone_api_Nat_uint32.r @bdI (callA C n) n v0 H | a => E C n 245 [] (argsA 0 a) H (kR C 245)) = E C n 245 [] (argsA 0 a) H (kR C 245) := by
  split
  · exact slices_Clone_api_Nat_uint32.r_e n _ H
  · rfl
theorem slices_Clone_api_Nat_uint32.rf_e (n : Nat) (a : List V) (H : Heap) : slices_Clone_api_Nat_uint32.rf @bdI (callA C n) n a H = callA C (n + 1) 245 a H := by
  unfold slices_Clone_api_Nat_uint32.rf
  refine (slices_Clone_api_Nat_uint32.rf_b n a H).trans ?_
  kernel_rfl
noncomputable def nat_Bits.r (bd : B3) (call : FuncId → List V → Heap → Option R) (n : Nat) (v0 : V) (H : Heap) : Option R :=
 (bd (call 266 [v0] H) fun r1 =>
 (some (r1.1, r1.2)))
theorem nat_Bits.r_e (n : Nat) (v0 : V) (H : Heap) : nat_Bits.r @bdI (callA C n) n v0 H = E C n 246 [] (argsA 0 [v0]) H (kR C 246) := by
  unfold nat_Bits.r
  kernel_rfl
noncomputable def nat_Bits.rf (bd : B3) (call : FuncId → List V → Heap → Option R) (n : Nat) (a : List V) (H : Heap) : Option R := pureA a H fun a => (match a with | [v0] => nat_Bits.r bd call n v0 ⟨0, .nil⟩ | a => E C n 246 [] (argsA 0 a) ⟨0, .nil⟩ (kR C 246))
theorem nat_Bits.rf_b (n : Nat) (a : List V) (H : Heap) : (match a with | [v0] => nat_Bits.r @bdI (callA C n) n v0 H | a => E C n 246 [] (argsA 0 a) H (kR C 246)) = E C n 246 [] (argsA 0 a) H (kR C 246) := by
  split
  · exact nat_Bits.r_e n _ H
  · rfl
theorem nat_Bits.rf_e (n : Nat) (a : List V) (H : Heap) : nat_Bits.rf @bdI (callA C n) n a H = callA C (n + 1) 246 a H := by
  unfold nat_Bits.rf
  refine (congrArg (pureA a H) (funext fun a => nat_Bits.rf_b n a ⟨0, .nil⟩)).trans ?_
  kernel_rfl
@[irreducible] noncomputable def nat_cmp.l0 (n m0 : Nat) (v0 v1 v5 : V) (H : Heap) : Option R := Lp C n 247 [1, 1, 1, 0, 1, 0, 0] m0 [(0, v0), (1, v1), (5, v5)] H (kB 0 (kC C n 247 [1, 1, 1, 1] (kR C 247)))
noncomputable def nat_cmp.r_l0 (bd : B3) (call : FuncId → List V → Heap → Option R) (n : Nat) (s0 : V → V → V → Heap → Option R) (v0 v1 v5 : V) (H : Heap) : Option R :=
 (bd (arA .geq v5 (.int .i64 0)) fun t24_1 =>
 (bd (asB t24_1) fun b2 =>
 if b2 = true then
 (bd (idxS 1 v0 v5) fun t30_3 =>
 (bd (ld1 t30_3 (H.more 0)) fun t31_4 =>
 (bd (idxS 1 v1 v5) fun t34_5 =>
 (bd (ld1 t34_5 (H.more 0)) fun t35_6 =>
 (bd (arA .lss t31_4 t35_6) fun t36_7 =>
 (bd (asB t36_7) fun b8 =>
 if b8 = true then
 (some ((.int .i64 (-1)), (H.more 0)))
 else
 (bd (idxS 1 v0 v5) fun t40_9 =>
 (bd (ld1 t40_9 ((H.more 0).more 0)) fun t41_10 =>
 (bd (idxS 1 v1 v5) fun t44_11 =>
 (bd (ld1 t44_11 ((H.more 0).more 0)) fun t45_12 =>
 (bd (arA .gtr t41_10 t45_12) fun t46_13 =>
 (bd (asB t46_13) fun b14 =>
 if b14 = true then
 (some ((.int .i64 1), ((H.more 0).more 0)))
 else
 (bd (arA .sub v5 (.int .i64 1)) fun t26_15 =>
 (s0 v0 v1 t26_15 ((H.more 0).more 0)))))))))))))))
 else
 (some ((.int .i64 0), H))))
theorem nat_cmp.r_l0_e (n m0 : Nat) : nat_cmp.r_l0 @bdI (callA C n) n (nat_cmp.l0 n m0) = nat_cmp.l0 n (m0 + 1) := by
  funext v0 v1 v5 H
  unfold nat_cmp.r_l0
  kernel_rfl
noncomputable def nat_cmp.r_l0_lp (bd : B3) (call : FuncId → List V → Heap → Option R) (n : Nat) (m : Nat) : V → V → V → Heap → Option R := Nat.rec (motive := fun _ => V → V → V → Heap → Option R) (fun _ _ _ _ => none) (fun _ self => nat_cmp.r_l0 bd call n self) m
theorem nat_cmp.r_l0_lp_e (n : Nat) : nat_cmp.r_l0_lp @bdI (callA C n) n = nat_cmp.l0 n := by
  funext m
  induction m with
  | zero => funext v0 v1 v5 H; kernel_rfl
  | succ k ih => exact (congrArg (nat_cmp.r_l0 @bdI (callA C n) n) ih).trans (nat_cmp.r_l0_e n k)
noncomputable def nat_cmp.r (bd : B3) (call : FuncId → List V → Heap → Option R) (n : Nat) (v0 v1 : V) (H : Heap) : Option R :=
 (bd (call 244 [v0] H) fun r1 =>
 (bd (call 244 [v1] r1.2) fun r2 =>
 (bd (lenSl r1.1) fun t11_3 =>
 (bd (lenSl r2.1) fun t13_4 =>
 (bd (arA .neq t11_3 t13_4) fun t14_5 =>
 (bd (asB t14_5) fun b6 =>
 if b6 = true then
 (bd (lenSl r1.1) fun t16_7 =>
 (bd (lenSl r2.1) fun t18_8 =>
 (bd (arA .lss t16_7 t18_8) fun t19_9 =>
 (bd (asB t19_9) fun b10 =>
 if b10 = true then
 (some ((.int .i64 (-1)), r2.2))
 else
 (some ((.int .i64 1), r2.2))))))
 else
 (bd (lenSl r1.1) fun t21_11 =>
 (bd (arA .sub t21_11 (.int .i64 1)) fun t22_12 =>
 (nat_cmp.r_l0_lp bd call n n r1.1 r2.1 t22_12 r2.2)))))))))
theorem nat_cmp.r_e (n : Nat) (v0 v1 : V) (H : Heap) : nat_cmp.r @bdI (callA C n) n v0 v1 H = E C n 247 [] (argsA 0 [v0, v1]) H (kR C 247) := by
  unfold nat_cmp.r
  rewrite [nat_cmp.r_l0_lp_e]
  kernel_rfl
noncomputable def nat_cmp.rf (bd : B3) (call : FuncId → List V → Heap → Option R) (n : Nat) (a : List V) (H : Heap) : Option R := pureA a H fun a => (match a with | [v0, v1] => nat_cmp.r bd call n v0 v1 ⟨0, .nil⟩ | a => E C n 247 [] (argsA 0 a) ⟨0, .nil⟩ (kR C 247))
theorem nat_cmp.rf_b (n : Nat) (a : List V) (H : Heap) : (match a with | [v0, v1] => nat_cmp.r @bdI (callA C n) n v0 v1 H | a => E C n 247 [] (argsA 0 a) H (kR C 247)) = E C n 247 [] (argsA 0 a) H (kR C 247) := by
  split
  · exact nat_cmp.r_e n _ _ H
  · rfl
theorem nat_cmp.rf_e (n : Nat) (a : List V) (H : Heap) : nat_cmp.rf @bdI (callA C n) n a H = callA C (n + 1) 247 a H := by
  unfold nat_cmp.rf
  refine (congrArg (pureA a H) (funext fun a => nat_cmp.rf_b n a ⟨0, .nil⟩)).trans ?_
  kernel_rfl
noncomputable def quad_of.r (bd : B3) (call : FuncId → List V → Heap → Option R) (n : Nat) (v0 : V) (H : Heap) : Option R :=
 (bd (boxA ty_api_Wide v0) fun o1 =>
 (bd (faA 0 (.ptr (some (H.n, 0)))) fun t4_2 =>
 (bd (ld1 t4_2 ((H.push o1).push (.cells [(.int .u64 0), (.int .u64 0), (.int .u64 0), (.int .u64 0)] ty_api_Quad false))) fun t5_3 =>
 (bd (shA .shr t5_3 (.int .u64 63)) fun t6_4 =>
 (bd (cvInt .u64 t6_4) fun t7_5 =>
 (bd (faA 1 (.ptr (some (H.n, 0)))) fun t8_6 =>
 (bd (ld1 t8_6 ((H.push o1).push (.cells [(.int .u64 0), (.int .u64 0), (.int .u64 0), (.int .u64 0)] ty_api_Quad false))) fun t9_7 =>
 (bd (faA 0 (.ptr (some (H.n, 0)))) fun t10_8 =>
 (bd (ld1 t10_8 ((H.push o1).push (.cells [(.int .u64 0), (.int .u64 0), (.int .u64 0), (.int .u64 0)] ty_api_Quad false))) fun t11_9 =>
 (bd (cvInt .u64 t11_9) fun t12_10 =>
 (bd (flE 1 [(.int .u64 0), (.int .u64 0), (.int .u64 0), (.int .u64 0)] [(0, t9_7), (1, t12_10), (2, t7_5), (3, t7_5)]) fun t15_11 =>
 (bd (stA 4 (.ptr (some ((H.push o1).n, 0))) t15_11 ((H.push o1).push (.cells [(.int .u64 0), (.int .u64 0), (.int .u64 0), (.int .u64 0)] ty_api_Quad false))) fun H12 =>
 (bd (ldN 4 (.ptr (some ((H.push o1).n, 0))) H12) fun t13 =>
 (some (t13, H12)))))))))))))))
theorem quad_of.r_e (n : Nat) (v0 : V) (H : Heap) : quad_of.r @bdI (callA C n) n v0 H = E C n 249 [] (argsA 0 [v0]) H (kR C 249) := by
  unfold quad_of.r
  kernel_rfl
noncomputable def quad_of.rf (bd : B3) (call : FuncId → List V → Heap → Option R) (n : Nat) (a : List V) (H : Heap) : Option R := pureA a H fun a => (match a with | [v0] => quad_of.r bd call n v0 ⟨0, .nil⟩ | a => E C n 249 [] (argsA 0 a) ⟨0, .nil⟩ (kR C 249))
theorem quad_of.rf_b (n : Nat) (a : List V) (H : Heap) : (match a with | [v0] => quad_of.r @bdI (callA C n) n v0 H | a => E C n 249 [] (argsA 0 a) H (kR C 249)) = E C n 249 [] (argsA 0 a) H (kR C 249) := by
  split
  · exact quad_of.r_e n _ H
  · rfl
theorem quad_of.rf_e (n : Nat) (a : List V) (H : Heap) : quad_of.rf @bdI (callA C n) n a H = callA C (n + 1) 249 a H := by
  unfold quad_of.rf
  refine (congrArg (pureA a H) (funext fun a => quad_of.rf_b n a ⟨0, .nil⟩)).trans ?_
  kernel_rfl
noncomputable def nat_size.r (bd : B3) (call : FuncId → List V → Heap → Option R) (n : Nat) (v0 : V) (H : Heap) : Option R :=
 (bd (call 244 [v0] H) fun r1 =>
 (bd (lenSl r1.1) fun t6_2 =>
 (bd (arA .eql t6_2 (.int .i64 0)) fun t7_3 =>
 (bd (asB t7_3) fun b4 =>
 if b4 = true then
 (some ((.int .i64 0), r1.2))
 else
 (bd (lenSl r1.1) fun t9_5 =>
 (bd (arA .sub t9_5 (.int .i64 1)) fun t10_6 =>
 (bd (arA .mul (.int .i64 32) t10_6) fun t11_7 =>
 (bd (lenSl r1.1) fun t14_8 =>
 (bd (arA .sub t14_8 (.int .i64 1)) fun t15_9 =>
 (bd (idxS 1 r1.1 t15_9) fun t16_10 =>
 (bd (ld1 t16_10 r1.2) fun t17_11 =>
 (bd (call 82 [t17_11] r1.2) fun r12 =>
 (bd (arA .add t11_7 r12.1) fun t19_13 =>
 (some (t19_13, r12.2)))))))))))))))
theorem nat_size.r_e (n : Nat) (v0 : V) (H : Heap) : nat_size.r @bdI (callA C n) n v0 H = E C n 266 [] (argsA 0 [v0]) H (kR C 266) := by
  unfold nat_size.r
  kernel_rfl
noncomputable def nat_size.rf (bd : B3) (call : FuncId → List V → Heap → Option R) (n : Nat) (a : List V) (H : Heap) : Option R := pureA a H fun a => (match a with | [v0] => nat_size.r bd call n v0 ⟨0, .nil⟩ | a => E C n 266 [] (argsA 0 a) ⟨0, .nil⟩ (kR C 266))
theorem nat_size.rf_b (n : Nat) (a : List V) (H : Heap) : (match a with | [v0] => nat_size.r @bdI (callA C n) n v0 H | a => E C n 266 [] (argsA 0 a) H (kR C 266)) = E C n 266 [] (argsA 0 a) H (kR C 266) := by
  split
  · exact nat_size.r_e n _ H
  · rfl
theorem nat_size.rf_e (n : Nat) (a : List V) (H : Heap) : nat_size.rf @bdI (callA C n) n a H = callA C (n + 1) 266 a H := by
  unfold nat_size.rf
  refine (congrArg (pureA a H) (funext fun a => nat_size.rf_b n a ⟨0, .nil⟩)).trans ?_
  kernel_rfl
end Go.AM.L
end
section
set_option linter.unusedVariables false
set_option linter.unusedSimpArgs false
set_option maxRecDepth 1000000
namespace Go.AM.L
theorem fns1_0 : tabList0.all (fun p => okFun P p.1) = true := by kernel_rfl
theorem fns1_1 : tabList1.all (fun p => okFun P p.1) = true := by kernel_rfl
theorem fns1_2 : tabList2.all (fun p => okFun P p.1) = true := by kernel_rfl
theorem fns1_3 : tabList3.all (fun p => okFun P p.1) = true := by kernel_rfl
theorem fns1_4 : tabList4.all (fun p => okFun P p.1) = true := by kernel_rfl
theorem fns1_5 : tabList5.all (fun p => okFun P p.1) = true := by kernel_rfl
theorem fns1_6 : tabList6.all (fun p => okFun P p.1) = true := by kernel_rfl
theorem fns1_7 : tabList7.all (fun p => okFun P p.1) = true := by kernel_rfl
theorem fns1_8 : tabList8.all (fun p => okFun P p.1) = true := by kernel_rfl
theorem fns1_9 : tabList9.all (fun p => okFun P p.1) = true := by kernel_rfl
theorem fns1_10 : tabList10.all (fun p => okFun P p.1) = true := by kernel_rfl
theorem fns1_11 : tabList11.all (fun p => okFun P p.1) = true := by kernel_rfl
theorem fns1_12 : tabList12.all (fun p => okFun P p.1) = true := by kernel_rfl
theorem fns1 : tabList.all (fun p => okFun P p.1) = true := by simp only [tabList, List.all_append, fns1_0, fns1_1, fns1_2, fns1_3, fns1_4, fns1_5, fns1_6, fns1_7, fns1_8, fns1_9, fns1_10, fns1_11, fns1_12, Bool.and_self]
theorem fns : ∀ f tab, C.tabs f = some tab → okFun C.P f = true := fun f tab h => List.all_eq_true.1 fns1 (f, tab) (look_mem h)
set_option maxHeartbeats 8000000 in
theorem exts : ∀ p ∈ extList, ExtSound C.P p.1 p.2 ∧ ExtFrame p.2 := by
  intro p hp
  simp only [extList, List.mem_cons, List.not_mem_nil, or_false] at hp
  rcases hp with rfl | rfl
  · exact ⟨xs_add64 (Go.Proofs.Tryz.func122) (by kernel_rfl) (by kernel_rfl) (by kernel_rfl) (by kernel_rfl), extAdd64_frame⟩
  · exact ⟨xs_sub64 (Go.Proofs.Tryz.func198) (by kernel_rfl) (by kernel_rfl) (by kernel_rfl) (by kernel_rfl), extSub64_frame⟩
theorem mixed : C.P.follows .mixedOrders = true := (show P.follows .mixedOrders = true from seat_mixed)
theorem ext_mem {f : Nat} {g : List V → Heap → Option R} (h : C.ext f = some g) : (f, g) ∈ extList := look_mem (l := extList) (show extList.lookup f = some g from h)
theorem ok : C.Ok := { mixed := mixed, fns := fns, ext := fun f g h => exts (f, g) (ext_mem h), okc := fun _ _ h => h }
end Go.AM.L
end
