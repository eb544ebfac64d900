/- Merged by program from: JvLR2 JvLR3 JvLR4 JvLR5 JvSC. -/
import Derived.Test.YtklnjhedbafknaaGreatDoorX4
section
set_option linter.unusedVariables false
set_option linter.unusedSimpArgs false
set_option maxRecDepth 1000000
set_option linter.unusedVariables false
namespace Go.AM.L
@[irreducible] noncomputable def pdt_lay.l0 (n m0 : Nat) (v5 v6 v23 v24 v25 : V) (H : Heap) : Option R := Lp C n 42 [1, 1, 1, 0, 1, 0, 0] m0 [(5, v5), (6, v6), (23, v23), (24, v24), (25, v25)] H (kB 0 (kC C n 42 [1, 1, 1, 1] (kR C 42)))
@[irreducible] noncomputable def pdt_lay.p1 (n : Nat) (v5 v6 : V) (H : Heap) : Option R := E C n 42 [1, 1, 1, 1] [(5, v5), (6, v6)] H (kR C 42)
@[irreducible] noncomputable def pdt_lay.l2 (n m0 : Nat) (v5 v57 v58 v59 : V) (H : Heap) : Option R := Lp C n 42 [1, 1, 1, 1, 0, 1, 0, 0] m0 [(5, v5), (57, v57), (58, v58), (59, v59)] H (kB 2 (kC C n 42 [1, 1, 1, 1, 1] (kR C 42)))
noncomputable def pdt_lay.r_l2 (bd : B3) (call : FuncId → List V → Heap → Option R) (n : Nat) (s0 : V → V → V → V → Heap → Option R) (v5 v57 v58 v59 : V) (H : Heap) : Option R :=
 (bd (arA .lss v59 v58) fun t60_1 =>
 (bd (asB t60_1) fun b2 =>
 if b2 = true then
 (bd (idxS 10 v57 v59) fun t61_3 =>
 (bd (ldN 10 t61_3 H) fun t62_4 =>
 (bd (stA 10 (.ptr (some (H.n, 0))) t62_4 (H.push (.cells [(.int .i64 0), (.int .i64 0), (.int .i64 0), (.int .i64 0), (.int .i64 0), (.int .i64 0), (.int .i64 0), (.int .i64 0), (.int .i64 0), (.int .i64 0)] ty_api_Cell false))) fun H5 =>
 (bd (faA 0 (.ptr (some (H.n, 0)))) fun t64_6 =>
 (bd (ld1 t64_6 H5) fun t65_7 =>
 (bd (bSl 1 ty_int [(.int .i64 0)] 1 [(0, t65_7)]) fun o8 =>
 (bd (call 76 [v5, (.slice ⟨some (H5.n, 0), 1, 1, false⟩)] (H5.push o8)) fun r9 =>
 (bd (arA .add v59 (.int .i64 1)) fun t68_10 =>
 (s0 v5 v57 v58 t68_10 r9.2)))))))))
 else
 (some (v5, H))))
theorem pdt_lay.r_l2_e (n m0 : Nat) : pdt_lay.r_l2 @bdI (callA C n) n (pdt_lay.l2 n m0) = pdt_lay.l2 n (m0 + 1) := by
  funext v5 v57 v58 v59 H
  unfold pdt_lay.r_l2
  kernel_rfl
noncomputable def pdt_lay.r_l2_lp (bd : B3) (call : FuncId → List V → Heap → Option R) (n : Nat) (m : Nat) : V → V → V → V → Heap → Option R := Nat.rec (motive := fun _ => V → V → V → V → Heap → Option R) (fun _ _ _ _ _ => none) (fun _ self => pdt_lay.r_l2 bd call n self) m
theorem pdt_lay.r_l2_lp_e (n : Nat) : pdt_lay.r_l2_lp @bdI (callA C n) n = pdt_lay.l2 n := by
  funext m
  induction m with
  | zero => funext v5 v57 v58 v59 H; kernel_rfl
  | succ k ih => exact (congrArg (pdt_lay.r_l2 @bdI (callA C n) n) ih).trans (pdt_lay.r_l2_e n k)
noncomputable def pdt_lay.r_p1 (bd : B3) (call : FuncId → List V → Heap → Option R) (n : Nat) (v5 v6 : V) (H : Heap) : Option R :=
 (bd (faA 2 v6) fun t56_1 =>
 (bd (ld1 t56_1 H) fun t57_2 =>
 (bd (lenSl t57_2) fun t58_3 =>
 (pdt_lay.r_l2_lp bd call n n v5 t57_2 t58_3 (.int .i64 0) H))))
theorem pdt_lay.r_p1_e (n : Nat) : pdt_lay.r_p1 @bdI (callA C n) n = pdt_lay.p1 n := by
  funext v5 v6 H
  unfold pdt_lay.r_p1
  rewrite [pdt_lay.r_l2_lp_e]
  kernel_rfl
noncomputable def pdt_lay.r_l0 (bd : B3) (call : FuncId → List V → Heap → Option R) (n : Nat) (s0 : V → V → V → V → V → Heap → Option R) (v5 v6 v23 v24 v25 : V) (H : Heap) : Option R :=
 (bd (arA .lss v25 v24) fun t26_1 =>
 (bd (asB t26_1) fun b2 =>
 if b2 = true then
 (bd (idxS 4 v23 v25) fun t27_3 =>
 (bd (ldN 4 t27_3 H) fun t28_4 =>
 (bd (stA 4 (.ptr (some (H.n, 0))) t28_4 (H.push (.cells [(.int .i64 0), (.int .i64 0), (.int .i64 0), (.int .i64 0)] ty_api_Vert false))) fun H5 =>
 (bd (nilC v5) fun t30_6 =>
 (bd (faA 1 t30_6) fun t31_7 =>
 (bd (ld1 t31_7 (H5.more 0)) fun t32_8 =>
 (bd (faA 0 (.ptr (some (H.n, 0)))) fun t33_9 =>
 (bd (ld1 t33_9 (H5.more 0)) fun t34_10 =>
 (bd (faA 1 (.ptr (some (H.n, 0)))) fun t35_11 =>
 (bd (ldN 2 t35_11 (H5.more 0)) fun t36_12 =>
 (bd (call 75 [t32_8, t34_10, t36_12] (H5.more 0)) fun r13 =>
 (bd (nilC v5) fun t45_14 =>
 (bd (faA 4 t45_14) fun t46_15 =>
 (bd (ld1 t46_15 (r13.2.more 1)) fun t47_16 =>
 (bd (faA 3 (.ptr (some (H.n, 0)))) fun t48_17 =>
 (bd (ld1 t48_17 (r13.2.more 1)) fun t49_18 =>
 (bd (lookM P ty_int (.slice ⟨none, 0, 0, false⟩) t47_16 t49_18 false (r13.2.more 1)) fun t50_19 =>
 (bd (faA 0 (.ptr (some (H.n, 0)))) fun t51_20 =>
 (bd (ld1 t51_20 (r13.2.more 1)) fun t52_21 =>
 (bd (bSl 1 ty_int [(.int .i64 0)] 1 [(0, t52_21)]) fun o22 =>
 (bd (appA 1 8 ty_int t50_19 (.slice ⟨some ((r13.2.n + 0), 0), 1, 1, false⟩) ((r13.2.more 1).set (r13.2.n + 0) o22)) fun p23 =>
 (bd (nilC v5) fun t39_24 =>
 (bd (faA 4 t39_24) fun t40_25 =>
 (bd (ld1 t40_25 p23.2) fun t41_26 =>
 (bd (chk (ld1 t40_25 (r13.2.more 1)) t41_26) fun _ =>
 (bd (faA 3 (.ptr (some (H.n, 0)))) fun t42_27 =>
 (bd (ld1 t42_27 p23.2) fun t43_28 =>
 (bd (chk (ld1 t42_27 (r13.2.more 1)) t43_28) fun _ =>
 (bd (updM P ty_int t41_26 t43_28 p23.1 p23.2) fun H29 =>
 (bd (arA .add v25 (.int .i64 1)) fun t55_30 =>
 (s0 v5 v6 v23 v24 t55_30 H29)))))))))))))))))))))))))))))))
 else
 (pdt_lay.r_p1 bd call n v5 v6 H)))
theorem pdt_lay.r_l0_e (n m0 : Nat) : pdt_lay.r_l0 @bdI (callA C n) n (pdt_lay.l0 n m0) = pdt_lay.l0 n (m0 + 1) := by
  funext v5 v6 v23 v24 v25 H
  unfold pdt_lay.r_l0
  rewrite [pdt_lay.r_p1_e]
  kernel_rfl
noncomputable def pdt_lay.r_l0_lp (bd : B3) (call : FuncId → List V → Heap → Option R) (n : Nat) (m : Nat) : V → V → V → V → V → Heap → Option R := Nat.rec (motive := fun _ => V → V → V → V → V → Heap → Option R) (fun _ _ _ _ _ _ => none) (fun _ self => pdt_lay.r_l0 bd call n self) m
theorem pdt_lay.r_l0_lp_e (n : Nat) : pdt_lay.r_l0_lp @bdI (callA C n) n = pdt_lay.l0 n := by
  funext m
  induction m with
  | zero => funext v5 v6 v23 v24 v25 H; kernel_rfl
  | succ k ih => exact (congrArg (pdt_lay.r_l0 @bdI (callA C n) n) ih).trans (pdt_lay.r_l0_e n k)
noncomputable def pdt_lay.r (bd : B3) (call : FuncId → List V → Heap → Option R) (n : Nat) (v0 v1 : V) (H : Heap) : Option R :=
 (bd (call 73 [v0] H) fun r1 =>
 (bd (call 72 [r1.1, (.int .i64 16)] r1.2) fun r2 =>
 (bd (flA [(0, 1), (1, 1), (2, 1), (3, 1), (4, 1)] [(.ptr none), (.ptr none), (.int .i64 0), (.map none), (.map none)] [(0, v0), (1, r2.1), (2, v1), (3, (.map (some r2.2.n))), (4, (.map (some (r2.2.push (.map [] 0)).n)))]) fun t18_3 =>
 (bd (boxA ty_pdt_sheet t18_3) fun o4 =>
 (bd (call 74 [v0] (((r2.2.push (.map [] 0)).push (.map [] 0)).push o4)) fun r5 =>
 (bd (stA 3 (.ptr (some (r5.2.n, 0))) r5.1 (r5.2.push (.cells [(.int .i64 0), (.slice ⟨none, 0, 0, false⟩), (.slice ⟨none, 0, 0, false⟩)] ty_api_Dump false))) fun H6 =>
 (bd (faA 1 (.ptr (some (r5.2.n, 0)))) fun t22_7 =>
 (bd (ld1 t22_7 H6) fun t23_8 =>
 (bd (lenSl t23_8) fun t24_9 =>
 (pdt_lay.r_l0_lp bd call n n (.ptr (some (((r2.2.push (.map [] 0)).push (.map [] 0)).n, 0))) (.ptr (some (r5.2.n, 0))) t23_8 t24_9 (.int .i64 0) H6))))))))))
theorem pdt_lay.r_e (n : Nat) (v0 v1 : V) (H : Heap) : pdt_lay.r @bdI (callA C n) n v0 v1 H = E C n 42 [] (argsA 0 [v0, v1]) H (kR C 42) := by
  unfold pdt_lay.r
  rewrite [pdt_lay.r_l0_lp_e]
  kernel_rfl
noncomputable def pdt_lay.rf (bd : B3) (call : FuncId → List V → Heap → Option R) (n : Nat) (a : List V) (H : Heap) : Option R := (match a with | [v0, v1] => pdt_lay.r bd call n v0 v1 H | a => E C n 42 [] (argsA 0 a) H (kR C 42))
theorem pdt_lay.rf_b (n : Nat) (a : List V) (H : Heap) : (match a with | [v0, v1] => pdt_lay.r @bdI (callA C n) n v0 v1 H | a => E C n 42 [] (argsA 0 a) H (kR C 42)) = E C n 42 [] (argsA 0 a) H (kR C 42) := by
  split
  · exact pdt_lay.r_e n _ _ H
  · rfl
theorem pdt_lay.rf_e (n : Nat) (a : List V) (H : Heap) : pdt_lay.rf @bdI (callA C n) n a H = callA C (n + 1) 42 a H := by
  unfold pdt_lay.rf
  refine (pdt_lay.rf_b n a H).trans ?_
  kernel_rfl
noncomputable def mesh_New.r (bd : B3) (call : FuncId → List V → Heap → Option R) (n : Nat) (v0 : V) (H : Heap) : Option R :=
 (bd (arA .lss v0 (.int .i64 1)) fun t4_1 =>
 (bd (asB t4_1) fun b2 =>
 if b2 = true then
 (some ((.ptr none), H))
 else
 (bd (arA .gtr v0 (.int .i64 17179869184)) fun t7_3 =>
 (bd (asB t7_3) fun b4 =>
 if b4 = true then
 (some ((.ptr none), H))
 else
 (bd (call 77 [] H) fun r5 =>
 (bd (call 77 [] r5.2) fun r6 =>
 (bd (flA [(0, 1), (1, 1), (2, 1), (3, 1), (4, 1), (5, 1), (6, 1)] [(.int .i64 0), (.ptr none), (.ptr none), (.slice ⟨none, 0, 0, false⟩), (.slice ⟨none, 0, 0, false⟩), (.map none), (.map none)] [(0, v0), (1, r5.1), (2, r6.1), (5, (.map (some r6.2.n))), (6, (.map (some (r6.2.push (.map [] 0)).n)))]) fun t14_7 =>
 (bd (boxA ty_mesh_Mesh t14_7) fun o8 =>
 (some ((.ptr (some (((r6.2.push (.map [] 0)).push (.map [] 0)).n, 0))), (((r6.2.push (.map [] 0)).push (.map [] 0)).push o8)))))))))))
theorem mesh_New.r_e (n : Nat) (v0 : V) (H : Heap) : mesh_New.r @bdI (callA C n) n v0 H = E C n 43 [] (argsA 0 [v0]) H (kR C 43) := by
  unfold mesh_New.r
  kernel_rfl
noncomputable def mesh_New.rf (bd : B3) (call : FuncId → List V → Heap → Option R) (n : Nat) (a : List V) (H : Heap) : Option R := (match a with | [v0] => mesh_New.r bd call n v0 H | a => E C n 43 [] (argsA 0 a) H (kR C 43))
theorem mesh_New.rf_b (n : Nat) (a : List V) (H : Heap) : (match a with | [v0] => mesh_New.r @bdI (callA C n) n v0 H | a => E C n 43 [] (argsA 0 a) H (kR C 43)) = E C n 43 [] (argsA 0 a) H (kR C 43) := by
  split
  · exact mesh_New.r_e n _ H
  · rfl
theorem mesh_New.rf_e (n : Nat) (a : List V) (H : Heap) : mesh_New.rf @bdI (callA C n) n a H = callA C (n + 1) 43 a H := by
  unfold mesh_New.rf
  refine (mesh_New.rf_b n a H).trans ?_
  kernel_rfl
noncomputable def pdt_Engine_first.r (bd : B3) (call : FuncId → List V → Heap → Option R) (n : Nat) (v0 v1 v2 : V) (H : Heap) : Option R :=
 (bd (boxA ty_api_Point v2) fun o1 =>
 (bd (nilC v0) fun t8_2 =>
 (bd (faA 0 t8_2) fun t9_3 =>
 (bd (ld1 t9_3 (H.push o1)) fun t10_4 =>
 (bd (call 43 [t10_4] (H.push o1)) fun r5 =>
 (bd (ldN 2 (.ptr (some (H.n, 0))) r5.2) fun t13_6 =>
 (bd (call 78 [r5.1, t13_6, v1] r5.2) fun r7 =>
 (bd (flA [(0, 1), (1, 1)] [(.int .i64 0), (.int .i64 0)] []) fun t17_8 =>
 (bd (flA [(0, 1), (1, 1)] [(.int .i64 0), (.int .i64 0)] [(0, (.int .i64 1))]) fun t18_9 =>
 (bd (flA [(0, 1), (1, 1)] [(.int .i64 0), (.int .i64 0)] [(1, (.int .i64 1))]) fun t19_10 =>
 (bd (flE 2 [(.int .i64 0), (.int .i64 0), (.int .i64 0), (.int .i64 0), (.int .i64 0), (.int .i64 0)] [(0, t17_8), (1, t18_9), (2, t19_10)]) fun t20_11 =>
 (bd (flA [(0, 3), (3, 6)] [(.int .i64 0), (.int .i64 0), (.int .i64 0), (.int .i64 0), (.int .i64 0), (.int .i64 0), (.int .i64 0), (.int .i64 0), (.int .i64 0)] [(1, t20_11)]) fun t21_12 =>
 (bd (call 79 [r5.1, t21_12] r7.2) fun r13 =>
 (bd (flA [(0, 1), (1, 1)] [(.int .i64 0), (.int .i64 0)] [(0, (.int .i64 1))]) fun t24_14 =>
 (bd (flA [(0, 1), (1, 1)] [(.int .i64 0), (.int .i64 0)] [(0, (.int .i64 1)), (1, (.int .i64 1))]) fun t25_15 =>
 (bd (flA [(0, 1), (1, 1)] [(.int .i64 0), (.int .i64 0)] [(1, (.int .i64 1))]) fun t26_16 =>
 (bd (flE 2 [(.int .i64 0), (.int .i64 0), (.int .i64 0), (.int .i64 0), (.int .i64 0), (.int .i64 0)] [(0, t24_14), (1, t25_15), (2, t26_16)]) fun t27_17 =>
 (bd (flA [(0, 3), (3, 6)] [(.int .i64 0), (.int .i64 0), (.int .i64 0), (.int .i64 0), (.int .i64 0), (.int .i64 0), (.int .i64 0), (.int .i64 0), (.int .i64 0)] [(1, t27_17)]) fun t28_18 =>
 (bd (call 79 [r5.1, t28_18] r13.2) fun r19 =>
 (bd (call 80 [r5.1] (r19.2.more 0)) fun r20 =>
 (bd (nilC v0) fun t35_21 =>
 (bd (faA 0 t35_21) fun t36_22 =>
 (bd (ld1 t36_22 r20.2) fun t37_23 =>
 (bd (chk (ld1 t36_22 (r19.2.more 0)) t37_23) fun _ =>
 (bd (call 42 [r20.1, t37_23] r20.2) fun r24 =>
 (bd (nilC v0) fun t39_25 =>
 (bd (faA 6 t39_25) fun t40_26 =>
 (bd (stA 1 t40_26 r24.1 r24.2) fun H27 =>
 (bd (nilC v0) fun t41_28 =>
 (bd (faA 5 t41_28) fun t42_29 =>
 (bd (stA 1 t42_29 (.int .i64 3) H27) fun H30 =>
 (some (.tuple [], H30)))))))))))))))))))))))))))))))))
theorem pdt_Engine_first.r_e (n : Nat) (v0 v1 v2 : V) (H : Heap) : pdt_Engine_first.r @bdI (callA C n) n v0 v1 v2 H = E C n 44 [] (argsA 0 [v0, v1, v2]) H (kR C 44) := by
  unfold pdt_Engine_first.r
  kernel_rfl
noncomputable def pdt_Engine_first.rf (bd : B3) (call : FuncId → List V → Heap → Option R) (n : Nat) (a : List V) (H : Heap) : Option R := (match a with | [v0, v1, v2] => pdt_Engine_first.r bd call n v0 v1 v2 H | a => E C n 44 [] (argsA 0 a) H (kR C 44))
theorem pdt_Engine_first.rf_b (n : Nat) (a : List V) (H : Heap) : (match a with | [v0, v1, v2] => pdt_Engine_first.r @bdI (callA C n) n v0 v1 v2 H | a => E C n 44 [] (argsA 0 a) H (kR C 44)) = E C n 44 [] (argsA 0 a) H (kR C 44) := by
  split
  · exact pdt_Engine_first.r_e n _ _ _ H
  · rfl
theorem pdt_Engine_first.rf_e (n : Nat) (a : List V) (H : Heap) : pdt_Engine_first.rf @bdI (callA C n) n a H = callA C (n + 1) 44 a H := by
  unfold pdt_Engine_first.rf
  refine (pdt_Engine_first.rf_b n a H).trans ?_
  kernel_rfl
noncomputable def lift_At.r (bd : B3) (call : FuncId → List V → Heap → Option R) (n : Nat) (v0 v1 v2 : V) (H : Heap) : Option R :=
 (bd (boxA ty_api_Point v0) fun o1 =>
 (bd (boxA ty_api_Off v1) fun o2 =>
 (bd (ldN 2 (.ptr (some (H.n, 0))) (((H.push o1).push o2).push (.cells [(.int .i64 0), (.int .i64 0)] ty_api_Point false))) fun t8_3 =>
 (bd (ldN 2 (.ptr (some ((H.push o1).n, 0))) (((H.push o1).push o2).push (.cells [(.int .i64 0), (.int .i64 0)] ty_api_Point false))) fun t9_4 =>
 (bd (call 86 [t8_3, t9_4, v2] (((H.push o1).push o2).push (.cells [(.int .i64 0), (.int .i64 0)] ty_api_Point false))) fun r5 =>
 (bd (extA r5.1 0) fun t12_6 =>
 (bd (extA r5.1 1) fun t13_7 =>
 (bd (stA 2 (.ptr (some (((H.push o1).push o2).n, 0))) t12_6 r5.2) fun H8 =>
 (bd (ldN 2 (.ptr (some (((H.push o1).push o2).n, 0))) H8) fun t9 =>
 (some (.tuple [t9, t13_7], H8)))))))))))
theorem lift_At.r_e (n : Nat) (v0 v1 v2 : V) (H : Heap) : lift_At.r @bdI (callA C n) n v0 v1 v2 H = E C n 46 [] (argsA 0 [v0, v1, v2]) H (kR C 46) := by
  unfold lift_At.r
  kernel_rfl
noncomputable def lift_At.rf (bd : B3) (call : FuncId → List V → Heap → Option R) (n : Nat) (a : List V) (H : Heap) : Option R := pureA a H fun a => (match a with | [v0, v1, v2] => lift_At.r bd call n v0 v1 v2 ⟨0, .nil⟩ | a => E C n 46 [] (argsA 0 a) ⟨0, .nil⟩ (kR C 46))
theorem lift_At.rf_b (n : Nat) (a : List V) (H : Heap) : (match a with | [v0, v1, v2] => lift_At.r @bdI (callA C n) n v0 v1 v2 H | a => E C n 46 [] (argsA 0 a) H (kR C 46)) = E C n 46 [] (argsA 0 a) H (kR C 46) := by
  split
  · exact lift_At.r_e n _ _ _ H
  · rfl
theorem lift_At.rf_e (n : Nat) (a : List V) (H : Heap) : lift_At.rf @bdI (callA C n) n a H = callA C (n + 1) 46 a H := by
  unfold lift_At.rf
  refine (congrArg (pureA a H) (funext fun a => lift_At.rf_b n a ⟨0, .nil⟩)).trans ?_
  kernel_rfl
noncomputable def pdt_Engine_fewer.r (bd : B3) (call : FuncId → List V → Heap → Option R) (n : Nat) (v0 : V) (H : Heap) : Option R :=
 (bd (nilC v0) fun t5_1 =>
 (bd (faA 5 t5_1) fun t6_2 =>
 (bd (ld1 t6_2 H) fun t7_3 =>
 (bd (arA .neq t7_3 (.int .i64 3)) fun t8_4 =>
 (bd (asB t8_4) fun b5 =>
 if b5 = true then
 (some (.tuple [], H))
 else
 (bd (nilC v0) fun t11_6 =>
 (bd (faA 6 t11_6) fun t12_7 =>
 (bd (ld1 t12_7 H) fun t13_8 =>
 (bd (nilC t13_8) fun t14_9 =>
 (bd (faA 3 t14_9) fun t15_10 =>
 (bd (ld1 t15_10 H) fun t16_11 =>
 (bd (lenMap t16_11 H) fun t17_12 =>
 (bd (arA .gtr t17_12 (.int .i64 0)) fun t18_13 =>
 (bd (asB t18_13) fun b14 =>
 if b14 = true then
 (some (.tuple [], H))
 else
 (bd (nilC v0) fun t22_15 =>
 (bd (faA 6 t22_15) fun t23_16 =>
 (bd (ld1 t23_16 H) fun t24_17 =>
 (bd (nilC t24_17) fun t25_18 =>
 (bd (faA 0 t25_18) fun t26_19 =>
 (bd (ld1 t26_19 H) fun t27_20 =>
 (bd (call 87 [t27_20] H) fun r21 =>
 (bd (extA r21.1 0) fun t29_22 =>
 (bd (extA r21.1 1) fun t30_23 =>
 (bd (asB t30_23) fun b24 =>
 if b24 = true then
 (bd (nilC v0) fun t36_25 =>
 (bd (faA 0 t36_25) fun t37_26 =>
 (bd (ld1 t37_26 r21.2) fun t38_27 =>
 (bd (call 42 [t29_22, t38_27] r21.2) fun r28 =>
 (bd (nilC v0) fun t40_29 =>
 (bd (faA 6 t40_29) fun t41_30 =>
 (bd (stA 1 t41_30 r28.1 r28.2) fun H31 =>
 (bd (nilC v0) fun t42_32 =>
 (bd (faA 5 t42_32) fun t43_33 =>
 (bd (stA 1 t43_33 (.int .i64 1) H31) fun H34 =>
 (some (.tuple [], H34))))))))))))
 else
 (some (.tuple [], r21.2))))))))))))))))))))))))))
theorem pdt_Engine_fewer.r_e (n : Nat) (v0 : V) (H : Heap) : pdt_Engine_fewer.r @bdI (callA C n) n v0 H = E C n 47 [] (argsA 0 [v0]) H (kR C 47) := by
  unfold pdt_Engine_fewer.r
  kernel_rfl
noncomputable def pdt_Engine_fewer.rf (bd : B3) (call : FuncId → List V → Heap → Option R) (n : Nat) (a : List V) (H : Heap) : Option R := (match a with | [v0] => pdt_Engine_fewer.r bd call n v0 H | a => E C n 47 [] (argsA 0 a) H (kR C 47))
theorem pdt_Engine_fewer.rf_b (n : Nat) (a : List V) (H : Heap) : (match a with | [v0] => pdt_Engine_fewer.r @bdI (callA C n) n v0 H | a => E C n 47 [] (argsA 0 a) H (kR C 47)) = E C n 47 [] (argsA 0 a) H (kR C 47) := by
  split
  · exact pdt_Engine_fewer.r_e n _ H
  · rfl
theorem pdt_Engine_fewer.rf_e (n : Nat) (a : List V) (H : Heap) : pdt_Engine_fewer.rf @bdI (callA C n) n a H = callA C (n + 1) 47 a H := by
  unfold pdt_Engine_fewer.rf
  refine (pdt_Engine_fewer.rf_b n a H).trans ?_
  kernel_rfl
@[irreducible] noncomputable def slices_insertionSortCmpFunc_api_Place.l0 (n m0 : Nat) (v0 v1 v2 v3 v8 : V) (H : Heap) : Option R := Lp C n 48 [1, 0, 0] m0 [(0, v0), (1, v1), (2, v2), (3, v3), (8, v8)] H (kB 0 (kR C 48))
@[irreducible] noncomputable def slices_insertionSortCmpFunc_api_Place.l1 (n m0 m1 : Nat) (v0 v1 v2 v3 v8 v9 : V) (H : Heap) : Option R := Lp C n 48 [1, 0, 0, 1, 0, 0, 1, 0, 0] m1 [(0, v0), (1, v1), (2, v2), (3, v3), (8, v8), (9, v9)] H (kB 2 (kB 1 (kC C n 48 [1, 0, 0, 1, 1] (kL C n 48 [1, 0, 0] m0 (kB 0 (kR C 48))))))
noncomputable def slices_insertionSortCmpFunc_api_Place.r_l1 (bd : B3) (call : FuncId → List V → Heap → Option R) (n : Nat) (s0 : V → V → V → V → V → Heap → Option R) (s1 : V → V → V → V → V → V → Heap → Option R) (v0 v1 v2 v3 v8 v9 : V) (H : Heap) : Option R :=
 (bd (arA .gtr v9 v1) fun t20_1 =>
 (bd (asB t20_1) fun b2 =>
 if b2 = true then
 (bd (idxS 3 v0 v9) fun t25_3 =>
 (bd (ldN 3 t25_3 (H.more 0)) fun t26_4 =>
 (bd (arA .sub v9 (.int .i64 1)) fun t29_5 =>
 (bd (idxS 3 v0 t29_5) fun t30_6 =>
 (bd (ldN 3 t30_6 (H.more 0)) fun t31_7 =>
 (bd (callV call v3 [t26_4, t31_7] (H.more 0)) fun r8 =>
 (bd (arA .lss r8.1 (.int .i64 0)) fun t33_9 =>
 (bd (asB t33_9) fun b10 =>
 if b10 = true then
 (bd (arA .sub v9 (.int .i64 1)) fun t44_11 =>
 (bd (idxS 3 v0 t44_11) fun t45_12 =>
 (bd (ldN 3 t45_12 (r8.2.more 0)) fun t46_13 =>
 (bd (idxS 3 v0 v9) fun t49_14 =>
 (bd (ldN 3 t49_14 (r8.2.more 0)) fun t50_15 =>
 (bd (idxS 3 v0 v9) fun t51_16 =>
 (bd (stA 3 t51_16 t46_13 (r8.2.more 0)) fun H17 =>
 (bd (arA .sub v9 (.int .i64 1)) fun t41_18 =>
 (bd (idxS 3 v0 t41_18) fun t52_19 =>
 (bd (stA 3 t52_19 t50_15 H17) fun H20 =>
 (bd (arA .sub v9 (.int .i64 1)) fun t36_21 =>
 (s1 v0 v1 v2 v3 v8 t36_21 H20))))))))))))
 else
 (bd (arA .add v8 (.int .i64 1)) fun t16_22 =>
 (s0 v0 v1 v2 v3 t16_22 r8.2))))))))))
 else
 (bd (arA .add v8 (.int .i64 1)) fun t16_23 =>
 (s0 v0 v1 v2 v3 t16_23 (H.more 0)))))
theorem slices_insertionSortCmpFunc_api_Place.r_l1_e (n m0 m1 : Nat) : slices_insertionSortCmpFunc_api_Place.r_l1 @bdI (callA C n) n (slices_insertionSortCmpFunc_api_Place.l0 n m0) (slices_insertionSortCmpFunc_api_Place.l1 n m0 m1) = slices_insertionSortCmpFunc_api_Place.l1 n m0 (m1 + 1) := by
  funext v0 v1 v2 v3 v8 v9 H
  unfold slices_insertionSortCmpFunc_api_Place.r_l1
  kernel_rfl
noncomputable def slices_insertionSortCmpFunc_api_Place.r_l1_lp (bd : B3) (call : FuncId → List V → Heap → Option R) (n : Nat) (s0 : V → V → V → V → V → Heap → Option R) (m : Nat) : V → V → V → V → V → V → Heap → Option R := Nat.rec (motive := fun _ => V → V → V → V → V → V → Heap → Option R) (fun _ _ _ _ _ _ _ => none) (fun _ self => slices_insertionSortCmpFunc_api_Place.r_l1 bd call n s0 self) m
theorem slices_insertionSortCmpFunc_api_Place.r_l1_lp_e (n m0 : Nat) : slices_insertionSortCmpFunc_api_Place.r_l1_lp @bdI (callA C n) n (slices_insertionSortCmpFunc_api_Place.l0 n m0) = slices_insertionSortCmpFunc_api_Place.l1 n m0 := by
  funext m
  induction m with
  | zero => funext v0 v1 v2 v3 v8 v9 H; kernel_rfl
  | succ k ih => exact (congrArg (slices_insertionSortCmpFunc_api_Place.r_l1 @bdI (callA C n) n (slices_insertionSortCmpFunc_api_Place.l0 n m0)) ih).trans (slices_insertionSortCmpFunc_api_Place.r_l1_e n m0 k)
noncomputable def slices_insertionSortCmpFunc_api_Place.r_l0 (bd : B3) (call : FuncId → List V → Heap → Option R) (n : Nat) (s0 : V → V → V → V → V → Heap → Option R) (v0 v1 v2 v3 v8 : V) (H : Heap) : Option R :=
 (bd (arA .lss v8 v2) fun t14_1 =>
 (bd (asB t14_1) fun b2 =>
 if b2 = true then
 (slices_insertionSortCmpFunc_api_Place.r_l1_lp bd call n s0 n v0 v1 v2 v3 v8 v8 H)
 else
 (some (.tuple [], H))))
theorem slices_insertionSortCmpFunc_api_Place.r_l0_e (n m0 : Nat) : slices_insertionSortCmpFunc_api_Place.r_l0 @bdI (callA C n) n (slices_insertionSortCmpFunc_api_Place.l0 n m0) = slices_insertionSortCmpFunc_api_Place.l0 n (m0 + 1) := by
  funext v0 v1 v2 v3 v8 H
  unfold slices_insertionSortCmpFunc_api_Place.r_l0
  rewrite [slices_insertionSortCmpFunc_api_Place.r_l1_lp_e]
  kernel_rfl
noncomputable def slices_insertionSortCmpFunc_api_Place.r_l0_lp (bd : B3) (call : FuncId → List V → Heap → Option R) (n : Nat) (m : Nat) : V → V → V → V → V → Heap → Option R := Nat.rec (motive := fun _ => V → V → V → V → V → Heap → Option R) (fun _ _ _ _ _ _ => none) (fun _ self => slices_insertionSortCmpFunc_api_Place.r_l0 bd call n self) m
theorem slices_insertionSortCmpFunc_api_Place.r_l0_lp_e (n : Nat) : slices_insertionSortCmpFunc_api_Place.r_l0_lp @bdI (callA C n) n = slices_insertionSortCmpFunc_api_Place.l0 n := by
  funext m
  induction m with
  | zero => funext v0 v1 v2 v3 v8 H; kernel_rfl
  | succ k ih => exact (congrArg (slices_insertionSortCmpFunc_api_Place.r_l0 @bdI (callA C n) n) ih).trans (slices_insertionSortCmpFunc_api_Place.r_l0_e n k)
noncomputable def slices_insertionSortCmpFunc_api_Place.r (bd : B3) (call : FuncId → List V → Heap → Option R) (n : Nat) (v0 v1 v2 v3 : V) (H : Heap) : Option R :=
 (bd (arA .add v1 (.int .i64 1)) fun t11_1 =>
 (slices_insertionSortCmpFunc_api_Place.r_l0_lp bd call n n v0 v1 v2 v3 t11_1 H))
theorem slices_insertionSortCmpFunc_api_Place.r_e (n : Nat) (v0 v1 v2 v3 : V) (H : Heap) : slices_insertionSortCmpFunc_api_Place.r @bdI (callA C n) n v0 v1 v2 v3 H = E C n 48 [] (argsA 0 [v0, v1, v2, v3]) H (kR C 48) := by
  unfold slices_insertionSortCmpFunc_api_Place.r
  rewrite [slices_insertionSortCmpFunc_api_Place.r_l0_lp_e]
  kernel_rfl
noncomputable def slices_insertionSortCmpFunc_api_Place.rf (bd : B3) (call : FuncId → List V → Heap → Option R) (n : Nat) (a : List V) (H : Heap) : Option R := (match a with | [v0, v1, v2, v3] => slices_insertionSortCmpFunc_api_Place.r bd call n v0 v1 v2 v3 H | a => E C n 48 [] (argsA 0 a) H (kR C 48))
theorem slices_insertionSortCmpFunc_api_Place.rf_b (n : Nat) (a : List V) (H : Heap) : (match a with | [v0, v1, v2, v3] => slices_insertionSortCmpFunc_api_Place.r @bdI (callA C n) n v0 v1 v2 v3 H | a => E C n 48 [] (argsA 0 a) H (kR C 48)) = E C n 48 [] (argsA 0 a) H (kR C 48) := by
  split
  · exact slices_insertionSortCmpFunc_api_Place.r_e n _ _ _ _ H
  · rfl
theorem slices_insertionSortCmpFunc_api_Place.rf_e (n : Nat) (a : List V) (H : Heap) : slices_insertionSortCmpFunc_api_Place.rf @bdI (callA C n) n a H = callA C (n + 1) 48 a H := by
  unfold slices_insertionSortCmpFunc_api_Place.rf
  refine (slices_insertionSortCmpFunc_api_Place.rf_b n a H).trans ?_
  kernel_rfl
@[irreducible] noncomputable def math_bits_Len64.p0 (n : Nat) (v0 v2 : V) (H : Heap) : Option R := E C n 57 [1, 1] [(0, v0), (2, v2)] H (kR C 57)
@[irreducible] noncomputable def math_bits_Len64.p1 (n : Nat) (v0 v2 : V) (H : Heap) : Option R := E C n 57 [1, 1, 1] [(0, v0), (2, v2)] H (kR C 57)
@[irreducible] noncomputable def math_bits_Len64.p2 (n : Nat) (v0 v2 : V) (H : Heap) : Option R := E C n 57 [1, 1, 1, 1] [(0, v0), (2, v2)] H (kR C 57)
noncomputable def math_bits_Len64.r_p2 (bd : B3) (call : FuncId → List V → Heap → Option R) (n : Nat) (v0 v2 : V) (H : Heap) : Option R :=
 (bd (cvInt .u8 v0) fun t21_1 =>
 (bd (ixStr (.str [0, 1, 2, 2, 3, 3, 3, 3, 4, 4, 4, 4, 4, 4, 4, 4, 5, 5, 5, 5, 5, 5, 5, 5, 5, 5, 5, 5, 5, 5, 5, 5, 6, 6, 6, 6, 6, 6, 6, 6, 6, 6, 6, 6, 6, 6, 6, 6, 6, 6, 6, 6, 6, 6, 6, 6, 6, 6, 6, 6, 6, 6, 6, 6, 7, 7, 7, 7, 7, 7, 7, 7, 7, 7, 7, 7, 7, 7, 7, 7, 7, 7, 7, 7, 7, 7, 7, 7, 7, 7, 7, 7, 7, 7, 7, 7, 7, 7, 7, 7, 7, 7, 7, 7, 7, 7, 7, 7, 7, 7, 7, 7, 7, 7, 7, 7, 7, 7, 7, 7, 7, 7, 7, 7, 7, 7, 7, 7, 8, 8, 8, 8, 8, 8, 8, 8, 8, 8, 8, 8, 8, 8, 8, 8, 8, 8, 8, 8, 8, 8, 8, 8, 8, 8, 8, 8, 8, 8, 8, 8, 8, 8, 8, 8, 8, 8, 8, 8, 8, 8, 8, 8, 8, 8, 8, 8, 8, 8, 8, 8, 8, 8, 8, 8, 8, 8, 8, 8, 8, 8, 8, 8, 8, 8, 8, 8, 8, 8, 8, 8, 8, 8, 8, 8, 8, 8, 8, 8, 8, 8, 8, 8, 8, 8, 8, 8, 8, 8, 8, 8, 8, 8, 8, 8, 8, 8, 8, 8, 8, 8, 8, 8, 8, 8, 8, 8, 8, 8, 8, 8, 8, 8, 8, 8, 8, 8, 8, 8, 8, 8, 8, 8, 8, 8, 8, 8]) t21_1) fun t22_2 =>
 (bd (cvInt .i64 t22_2) fun t23_3 =>
 (bd (arA .add v2 t23_3) fun t24_4 =>
 (some (t24_4, H))))))
theorem math_bits_Len64.r_p2_e (n : Nat) : math_bits_Len64.r_p2 @bdI (callA C n) n = math_bits_Len64.p2 n := by
  funext v0 v2 H
  unfold math_bits_Len64.r_p2
  kernel_rfl
noncomputable def math_bits_Len64.r_p1 (bd : B3) (call : FuncId → List V → Heap → Option R) (n : Nat) (v0 v2 : V) (H : Heap) : Option R :=
 (bd (arA .geq v0 (.int .u64 256)) fun t14_1 =>
 (bd (asB t14_1) fun b2 =>
 if b2 = true then
 (bd (shA .shr v0 (.int .u64 8)) fun t16_3 =>
 (bd (arA .add v2 (.int .i64 8)) fun t18_4 =>
 (math_bits_Len64.r_p2 bd call n t16_3 t18_4 H)))
 else
 (math_bits_Len64.r_p2 bd call n v0 v2 H)))
theorem math_bits_Len64.r_p1_e (n : Nat) : math_bits_Len64.r_p1 @bdI (callA C n) n = math_bits_Len64.p1 n := by
  funext v0 v2 H
  unfold math_bits_Len64.r_p1
  rewrite [math_bits_Len64.r_p2_e]
  kernel_rfl
noncomputable def math_bits_Len64.r_p0 (bd : B3) (call : FuncId → List V → Heap → Option R) (n : Nat) (v0 v2 : V) (H : Heap) : Option R :=
 (bd (arA .geq v0 (.int .u64 65536)) fun t8_1 =>
 (bd (asB t8_1) fun b2 =>
 if b2 = true then
 (bd (shA .shr v0 (.int .u64 16)) fun t10_3 =>
 (bd (arA .add v2 (.int .i64 16)) fun t12_4 =>
 (math_bits_Len64.r_p1 bd call n t10_3 t12_4 H)))
 else
 (math_bits_Len64.r_p1 bd call n v0 v2 H)))
theorem math_bits_Len64.r_p0_e (n : Nat) : math_bits_Len64.r_p0 @bdI (callA C n) n = math_bits_Len64.p0 n := by
  funext v0 v2 H
  unfold math_bits_Len64.r_p0
  rewrite [math_bits_Len64.r_p1_e]
  kernel_rfl
noncomputable def math_bits_Len64.r (bd : B3) (call : FuncId → List V → Heap → Option R) (n : Nat) (v0 : V) (H : Heap) : Option R :=
 (bd (arA .geq v0 (.int .u64 4294967296)) fun t4_1 =>
 (bd (asB t4_1) fun b2 =>
 if b2 = true then
 (bd (shA .shr v0 (.int .u64 32)) fun t6_3 =>
 (math_bits_Len64.r_p0 bd call n t6_3 (.int .i64 32) H))
 else
 (math_bits_Len64.r_p0 bd call n v0 (.int .i64 0) H)))
theorem math_bits_Len64.r_e (n : Nat) (v0 : V) (H : Heap) : math_bits_Len64.r @bdI (callA C n) n v0 H = E C n 57 [] (argsA 0 [v0]) H (kR C 57) := by
  unfold math_bits_Len64.r
  rewrite [math_bits_Len64.r_p0_e]
  kernel_rfl
noncomputable def math_bits_Len64.rf (bd : B3) (call : FuncId → List V → Heap → Option R) (n : Nat) (a : List V) (H : Heap) : Option R := (match a with | [v0] => math_bits_Len64.r bd call n v0 H | a => E C n 57 [] (argsA 0 a) H (kR C 57))
theorem math_bits_Len64.rf_b (n : Nat) (a : List V) (H : Heap) : (match a with | [v0] => math_bits_Len64.r @bdI (callA C n) n v0 H | a => E C n 57 [] (argsA 0 a) H (kR C 57)) = E C n 57 [] (argsA 0 a) H (kR C 57) := by
  split
  · exact math_bits_Len64.r_e n _ H
  · rfl
theorem math_bits_Len64.rf_e (n : Nat) (a : List V) (H : Heap) : math_bits_Len64.rf @bdI (callA C n) n a H = callA C (n + 1) 57 a H := by
  unfold math_bits_Len64.rf
  refine (math_bits_Len64.rf_b n a H).trans ?_
  kernel_rfl
noncomputable def session_point.r (bd : B3) (call : FuncId → List V → Heap → Option R) (n : Nat) (v0 v1 : V) (H : Heap) : Option R :=
 (bd (flA [(0, 1), (1, 1)] [(.int .i64 0), (.int .i64 0)] [(0, v0), (1, v1)]) fun t7_1 =>
 (bd (stA 2 (.ptr (some (H.n, 0))) t7_1 (H.push (.cells [(.int .i64 0), (.int .i64 0)] ty_api_Point false))) fun H2 =>
 (bd (ldN 2 (.ptr (some (H.n, 0))) H2) fun t3 =>
 (some (t3, H2)))))
theorem session_point.r_e (n : Nat) (v0 v1 : V) (H : Heap) : session_point.r @bdI (callA C n) n v0 v1 H = E C n 58 [] (argsA 0 [v0, v1]) H (kR C 58) := by
  unfold session_point.r
  kernel_rfl
noncomputable def session_point.rf (bd : B3) (call : FuncId → List V → Heap → Option R) (n : Nat) (a : List V) (H : Heap) : Option R := pureA a H fun a => (match a with | [v0, v1] => session_point.r bd call n v0 v1 ⟨0, .nil⟩ | a => E C n 58 [] (argsA 0 a) ⟨0, .nil⟩ (kR C 58))
theorem session_point.rf_b (n : Nat) (a : List V) (H : Heap) : (match a with | [v0, v1] => session_point.r @bdI (callA C n) n v0 v1 H | a => E C n 58 [] (argsA 0 a) H (kR C 58)) = E C n 58 [] (argsA 0 a) H (kR C 58) := by
  split
  · exact session_point.r_e n _ _ H
  · rfl
theorem session_point.rf_e (n : Nat) (a : List V) (H : Heap) : session_point.rf @bdI (callA C n) n a H = callA C (n + 1) 58 a H := by
  unfold session_point.rf
  refine (congrArg (pureA a H) (funext fun a => session_point.rf_b n a ⟨0, .nil⟩)).trans ?_
  kernel_rfl
@[irreducible] noncomputable def pdt_Engine_Insert.l0 (n m0 : Nat) (v0 v3 v8 v9 v10 : V) (H : Heap) : Option R := Lp C n 59 [1, 1, 1, 1, 1, 0, 1, 0, 0] m0 [(0, v0), (3, v3), (8, v8), (9, v9), (10, v10)] H (kB 1 (kC C n 59 [1, 1, 1, 1, 1, 1] (kR C 59)))
@[irreducible] noncomputable def pdt_Engine_Insert.p1 (n : Nat) (v0 v3 v8 : V) (H : Heap) : Option R := E C n 59 [1, 1, 1, 1, 1, 1] [(0, v0), (3, v3), (8, v8)] H (kR C 59)
noncomputable def pdt_Engine_Insert.r_p1 (bd : B3) (call : FuncId → List V → Heap → Option R) (n : Nat) (v0 v3 v8 : V) (H : Heap) : Option R :=
 (bd (arA .add v8 (.int .i64 1)) fun t67_1 =>
 (bd (nilC v0) fun t68_2 =>
 (bd (faA 4 t68_2) fun t69_3 =>
 (bd (stA 1 t69_3 t67_1 H) fun H4 =>
 (bd (ldN 2 v3 H4) fun t72_5 =>
 (bd (call 33 [v0, v8, t72_5] H4) fun r6 =>
 (some (.tuple [v8, (.int .i64 0)], r6.2))))))))
theorem pdt_Engine_Insert.r_p1_e (n : Nat) : pdt_Engine_Insert.r_p1 @bdI (callA C n) n = pdt_Engine_Insert.p1 n := by
  funext v0 v3 v8 H
  unfold pdt_Engine_Insert.r_p1
  kernel_rfl
noncomputable def pdt_Engine_Insert.r_l0 (bd : B3) (call : FuncId → List V → Heap → Option R) (n : Nat) (s0 : V → V → V → V → V → Heap → Option R) (v0 v3 v8 v9 v10 : V) (H : Heap) : Option R :=
 (bd (asB v10) fun b1 =>
 if b1 = true then
 (bd (arA .add v8 (.int .i64 1)) fun t63_2 =>
 (bd (ldN 2 v9 H) fun t64_3 =>
 (bd (stA 2 (.ptr (some (H.n, 0))) t64_3 (H.push (.cells [(.int .i64 0), (.int .i64 0)] ty_api_Point false))) fun H4 =>
 (bd (nilC v0) fun t55_5 =>
 (bd (faA 2 t55_5) fun t56_6 =>
 (bd (ld1 t56_6 H4) fun t57_7 =>
 (bd (lookM P ty_int (.agg [(.int .i64 0), (.int .i64 0)]) t57_7 t63_2 true H4) fun t59_8 =>
 (bd (extA t59_8 0) fun t60_9 =>
 (bd (extA t59_8 1) fun t61_10 =>
 (s0 v0 v3 t63_2 (.ptr (some (H.n, 0))) t61_10 H4))))))))))
 else
 (pdt_Engine_Insert.r_p1 bd call n v0 v3 v8 H))
theorem pdt_Engine_Insert.r_l0_e (n m0 : Nat) : pdt_Engine_Insert.r_l0 @bdI (callA C n) n (pdt_Engine_Insert.l0 n m0) = pdt_Engine_Insert.l0 n (m0 + 1) := by
  funext v0 v3 v8 v9 v10 H
  unfold pdt_Engine_Insert.r_l0
  rewrite [pdt_Engine_Insert.r_p1_e]
  kernel_rfl
noncomputable def pdt_Engine_Insert.r_l0_lp (bd : B3) (call : FuncId → List V → Heap → Option R) (n : Nat) (m : Nat) : V → V → V → V → V → Heap → Option R := Nat.rec (motive := fun _ => V → V → V → V → V → Heap → Option R) (fun _ _ _ _ _ _ => none) (fun _ self => pdt_Engine_Insert.r_l0 bd call n self) m
theorem pdt_Engine_Insert.r_l0_lp_e (n : Nat) : pdt_Engine_Insert.r_l0_lp @bdI (callA C n) n = pdt_Engine_Insert.l0 n := by
  funext m
  induction m with
  | zero => funext v0 v3 v8 v9 v10 H; kernel_rfl
  | succ k ih => exact (congrArg (pdt_Engine_Insert.r_l0 @bdI (callA C n) n) ih).trans (pdt_Engine_Insert.r_l0_e n k)
noncomputable def pdt_Engine_Insert.r (bd : B3) (call : FuncId → List V → Heap → Option R) (n : Nat) (v0 v1 : V) (H : Heap) : Option R :=
 (bd (boxA ty_api_Point v1) fun o1 =>
 (bd (eqlA P ty_p_pdt_Engine v0 (.ptr none)) fun t13_2 =>
 (bd (asB t13_2) fun b3 =>
 if b3 = true then
 (some (.tuple [(.int .i64 (-1)), (.int .i64 10)], (H.push o1)))
 else
 (bd (ldN 2 (.ptr (some (H.n, 0))) (H.push o1)) fun t16_4 =>
 (bd (call 41 [v0, t16_4] (H.push o1)) fun r5 =>
 (bd (unA .not r5.1) fun t18_6 =>
 (bd (asB t18_6) fun b7 =>
 if b7 = true then
 (some (.tuple [(.int .i64 (-1)), (.int .i64 11)], r5.2))
 else
 (bd (nilC v0) fun t21_8 =>
 (bd (faA 3 t21_8) fun t22_9 =>
 (bd (ld1 t22_9 (r5.2.more 0)) fun t23_10 =>
 (bd (ldN 2 (.ptr (some (H.n, 0))) (r5.2.more 0)) fun t24_11 =>
 (bd (lookM P ty_api_Point (.int .i64 0) t23_10 t24_11 true (r5.2.more 0)) fun t25_12 =>
 (bd (extA t25_12 0) fun t26_13 =>
 (bd (extA t25_12 1) fun t27_14 =>
 (bd (asB t27_14) fun b15 =>
 if b15 = true then
 (some (.tuple [(.int .i64 (-1)), (.int .i64 12)], (r5.2.more 0)))
 else
 (bd (nilC v0) fun t30_16 =>
 (bd (faA 2 t30_16) fun t31_17 =>
 (bd (ld1 t31_17 ((r5.2.more 0).more 0)) fun t32_18 =>
 (bd (lenMap t32_18 ((r5.2.more 0).more 0)) fun t33_19 =>
 (bd (nilC v0) fun t35_20 =>
 (bd (faA 1 t35_20) fun t36_21 =>
 (bd (ld1 t36_21 ((r5.2.more 0).more 0)) fun t37_22 =>
 (bd (arA .geq t33_19 t37_22) fun t38_23 =>
 (bd (asB t38_23) fun b24 =>
 if b24 = true then
 (some (.tuple [(.int .i64 (-1)), (.int .i64 13)], ((r5.2.more 0).more 0)))
 else
 (bd (nilC v0) fun t40_25 =>
 (bd (faA 4 t40_25) fun t41_26 =>
 (bd (ld1 t41_26 ((r5.2.more 0).more 0)) fun t42_27 =>
 (bd (nilC v0) fun t45_28 =>
 (bd (faA 2 t45_28) fun t46_29 =>
 (bd (ld1 t46_29 ((r5.2.more 0).more 0)) fun t47_30 =>
 (bd (lookM P ty_int (.agg [(.int .i64 0), (.int .i64 0)]) t47_30 t42_27 true ((r5.2.more 0).more 0)) fun t49_31 =>
 (bd (extA t49_31 0) fun t50_32 =>
 (bd (extA t49_31 1) fun t51_33 =>
 (bd (stA 2 (.ptr (some (((r5.2.more 0).more 0).n, 0))) t50_32 (((r5.2.more 0).more 0).push (.cells [(.int .i64 0), (.int .i64 0)] ty_api_Point false))) fun H34 =>
 (pdt_Engine_Insert.r_l0_lp bd call n n v0 (.ptr (some (H.n, 0))) t42_27 (.ptr (some (((r5.2.more 0).more 0).n, 0))) t51_33 H34)))))))))))))))))))))))))))))))))))
theorem pdt_Engine_Insert.r_e (n : Nat) (v0 v1 : V) (H : Heap) : pdt_Engine_Insert.r @bdI (callA C n) n v0 v1 H = E C n 59 [] (argsA 0 [v0, v1]) H (kR C 59) := by
  unfold pdt_Engine_Insert.r
  rewrite [pdt_Engine_Insert.r_l0_lp_e]
  kernel_rfl
noncomputable def pdt_Engine_Insert.rf (bd : B3) (call : FuncId → List V → Heap → Option R) (n : Nat) (a : List V) (H : Heap) : Option R := (match a with | [v0, v1] => pdt_Engine_Insert.r bd call n v0 v1 H | a => E C n 59 [] (argsA 0 a) H (kR C 59))
theorem pdt_Engine_Insert.rf_b (n : Nat) (a : List V) (H : Heap) : (match a with | [v0, v1] => pdt_Engine_Insert.r @bdI (callA C n) n v0 v1 H | a => E C n 59 [] (argsA 0 a) H (kR C 59)) = E C n 59 [] (argsA 0 a) H (kR C 59) := by
  split
  · exact pdt_Engine_Insert.r_e n _ _ H
  · rfl
theorem pdt_Engine_Insert.rf_e (n : Nat) (a : List V) (H : Heap) : pdt_Engine_Insert.rf @bdI (callA C n) n a H = callA C (n + 1) 59 a H := by
  unfold pdt_Engine_Insert.rf
  refine (pdt_Engine_Insert.rf_b n a H).trans ?_
  kernel_rfl
noncomputable def bucket_New.r (bd : B3) (call : FuncId → List V → Heap → Option R) (n : Nat) (v0 v1 : V) (H : Heap) : Option R :=
 (bd (arA .lss v0 (.int .i64 1)) fun t6_1 =>
 (bd (asB t6_1) fun b2 =>
 if b2 = true then
 (some ((.ptr none), H))
 else
 (bd (arA .gtr v0 (.int .i64 17179869184)) fun t9_3 =>
 (bd (asB t9_3) fun b4 =>
 if b4 = true then
 (some ((.ptr none), H))
 else
 (bd (arA .lss v1 (.int .i64 1)) fun t13_5 =>
 (bd (asB t13_5) fun b6 =>
 if b6 = true then
 (some ((.ptr none), H))
 else
 (bd (arA .gtr v1 (.int .i64 64)) fun t17_7 =>
 (bd (asB t17_7) fun b8 =>
 if b8 = true then
 (some ((.ptr none), H))
 else
 (bd (arA .mul v1 v1) fun t23_9 =>
 (bd (mkSl 1 24 ty_sl_int [(.slice ⟨none, 0, 0, false⟩)] t23_9 t23_9) fun o10 =>
 (bd (flA [(0, 1), (1, 1), (2, 1), (3, 1)] [(.int .i64 0), (.int .i64 0), (.slice ⟨none, 0, 0, false⟩), (.int .i64 0)] [(0, v0), (1, v1), (2, (.slice ⟨some (H.n, 0), o10.2, 1, false⟩))]) fun t25_11 =>
 (bd (boxA ty_bucket_Grid t25_11) fun o12 =>
 (some ((.ptr (some ((H.push o10.1).n, 0))), ((H.push o10.1).push o12)))))))))))))))
theorem bucket_New.r_e (n : Nat) (v0 v1 : V) (H : Heap) : bucket_New.r @bdI (callA C n) n v0 v1 H = E C n 72 [] (argsA 0 [v0, v1]) H (kR C 72) := by
  unfold bucket_New.r
  kernel_rfl
noncomputable def bucket_New.rf (bd : B3) (call : FuncId → List V → Heap → Option R) (n : Nat) (a : List V) (H : Heap) : Option R := (match a with | [v0, v1] => bucket_New.r bd call n v0 v1 H | a => E C n 72 [] (argsA 0 a) H (kR C 72))
theorem bucket_New.rf_b (n : Nat) (a : List V) (H : Heap) : (match a with | [v0, v1] => bucket_New.r @bdI (callA C n) n v0 v1 H | a => E C n 72 [] (argsA 0 a) H (kR C 72)) = E C n 72 [] (argsA 0 a) H (kR C 72) := by
  split
  · exact bucket_New.r_e n _ _ H
  · rfl
theorem bucket_New.rf_e (n : Nat) (a : List V) (H : Heap) : bucket_New.rf @bdI (callA C n) n a H = callA C (n + 1) 72 a H := by
  unfold bucket_New.rf
  refine (bucket_New.rf_b n a H).trans ?_
  kernel_rfl
noncomputable def mesh_Mesh_Side.r (bd : B3) (call : FuncId → List V → Heap → Option R) (n : Nat) (v0 : V) (H : Heap) : Option R :=
 (bd (eqlA P ty_p_mesh_Mesh v0 (.ptr none)) fun t4_1 =>
 (bd (asB t4_1) fun b2 =>
 if b2 = true then
 (some ((.int .i64 0), H))
 else
 (bd (nilC v0) fun t6_3 =>
 (bd (faA 0 t6_3) fun t7_4 =>
 (bd (ld1 t7_4 H) fun t8_5 =>
 (some (t8_5, H)))))))
theorem mesh_Mesh_Side.r_e (n : Nat) (v0 : V) (H : Heap) : mesh_Mesh_Side.r @bdI (callA C n) n v0 H = E C n 73 [] (argsA 0 [v0]) H (kR C 73) := by
  unfold mesh_Mesh_Side.r
  kernel_rfl
noncomputable def mesh_Mesh_Side.rf (bd : B3) (call : FuncId → List V → Heap → Option R) (n : Nat) (a : List V) (H : Heap) : Option R := (match a with | [v0] => mesh_Mesh_Side.r bd call n v0 H | a => E C n 73 [] (argsA 0 a) H (kR C 73))
theorem mesh_Mesh_Side.rf_b (n : Nat) (a : List V) (H : Heap) : (match a with | [v0] => mesh_Mesh_Side.r @bdI (callA C n) n v0 H | a => E C n 73 [] (argsA 0 a) H (kR C 73)) = E C n 73 [] (argsA 0 a) H (kR C 73) := by
  split
  · exact mesh_Mesh_Side.r_e n _ H
  · rfl
theorem mesh_Mesh_Side.rf_e (n : Nat) (a : List V) (H : Heap) : mesh_Mesh_Side.rf @bdI (callA C n) n a H = callA C (n + 1) 73 a H := by
  unfold mesh_Mesh_Side.rf
  refine (mesh_Mesh_Side.rf_b n a H).trans ?_
  kernel_rfl
end Go.AM.L
end
section
set_option linter.unusedVariables false
set_option linter.unusedSimpArgs false
set_option maxRecDepth 1000000
set_option linter.unusedVariables false
namespace Go.AM.L
@[irreducible] noncomputable def mesh_Mesh_Dump.l0 (n m0 : Nat) (v0 v2 v3 v20 v21 v22 : V) (H : Heap) : Option R := Lp C n 74 [1, 1, 1, 0, 1, 0, 0] m0 [(0, v0), (2, v2), (3, v3), (20, v20), (21, v21), (22, v22)] H (kB 0 (kC C n 74 [1, 1, 1, 1] (kR C 74)))
@[irreducible] noncomputable def mesh_Mesh_Dump.p1 (n : Nat) (v0 v2 v3 : V) (H : Heap) : Option R := E C n 74 [1, 1, 1, 1] [(0, v0), (2, v2), (3, v3)] H (kR C 74)
@[irreducible] noncomputable def mesh_Mesh_Dump.l2 (n m0 : Nat) (v0 v2 v3 v43 v44 v45 : V) (H : Heap) : Option R := Lp C n 74 [1, 1, 1, 1, 0, 1, 0, 0] m0 [(0, v0), (2, v2), (3, v3), (43, v43), (44, v44), (45, v45)] H (kB 2 (kC C n 74 [1, 1, 1, 1, 1] (kR C 74)))
noncomputable def mesh_Mesh_Dump.r_l2 (bd : B3) (call : FuncId → List V → Heap → Option R) (n : Nat) (s0 : V → V → V → V → V → V → Heap → Option R) (v0 v2 v3 v43 v44 v45 : V) (H : Heap) : Option R :=
 (bd (arA .lss v45 v44) fun t46_1 =>
 (bd (asB t46_1) fun b2 =>
 if b2 = true then
 (bd (idxS 1 v43 v45) fun t47_3 =>
 (bd (ld1 t47_3 H) fun t48_4 =>
 (bd (faA 2 v3) fun t49_5 =>
 (bd (ld1 t49_5 (H.more 1)) fun t50_6 =>
 (bd (nilC v0) fun t53_7 =>
 (bd (faA 4 t53_7) fun t54_8 =>
 (bd (ld1 t54_8 (H.more 1)) fun t55_9 =>
 (bd (idxS 9 t55_9 t48_4) fun t57_10 =>
 (bd (ldN 9 t57_10 (H.more 1)) fun t58_11 =>
 (bd (flA [(0, 1), (1, 9)] [(.int .i64 0), (.int .i64 0), (.int .i64 0), (.int .i64 0), (.int .i64 0), (.int .i64 0), (.int .i64 0), (.int .i64 0), (.int .i64 0), (.int .i64 0)] [(0, t48_4), (1, t58_11)]) fun t59_12 =>
 (bd (bSl 10 ty_api_Cell [(.int .i64 0), (.int .i64 0), (.int .i64 0), (.int .i64 0), (.int .i64 0), (.int .i64 0), (.int .i64 0), (.int .i64 0), (.int .i64 0), (.int .i64 0)] 1 [(0, t59_12)]) fun o13 =>
 (bd (appA 10 80 ty_api_Cell t50_6 (.slice ⟨some ((H.n + 0), 0), 1, 10, false⟩) ((H.more 1).set (H.n + 0) o13)) fun p14 =>
 (bd (faA 2 v3) fun t62_15 =>
 (bd (stA 1 t62_15 p14.1 p14.2) fun H16 =>
 (bd (arA .add v45 (.int .i64 1)) fun t63_17 =>
 (s0 v0 v2 v3 v43 v44 t63_17 H16))))))))))))))))
 else
 (bd (ldN 3 v3 H) fun t64_18 =>
 (bd (stA 3 v2 t64_18 H) fun H19 =>
 (bd (ldN 3 v2 H19) fun t20 =>
 (frzR t20 H19))))))
theorem mesh_Mesh_Dump.r_l2_e (n m0 : Nat) : mesh_Mesh_Dump.r_l2 @bdI (callA C n) n (mesh_Mesh_Dump.l2 n m0) = mesh_Mesh_Dump.l2 n (m0 + 1) := by
  funext v0 v2 v3 v43 v44 v45 H
  unfold mesh_Mesh_Dump.r_l2
  kernel_rfl
noncomputable def mesh_Mesh_Dump.r_l2_lp (bd : B3) (call : FuncId → List V → Heap → Option R) (n : Nat) (m : Nat) : V → V → V → V → V → V → Heap → Option R := Nat.rec (motive := fun _ => V → V → V → V → V → V → Heap → Option R) (fun _ _ _ _ _ _ _ => none) (fun _ self => mesh_Mesh_Dump.r_l2 bd call n self) m
theorem mesh_Mesh_Dump.r_l2_lp_e (n : Nat) : mesh_Mesh_Dump.r_l2_lp @bdI (callA C n) n = mesh_Mesh_Dump.l2 n := by
  funext m
  induction m with
  | zero => funext v0 v2 v3 v43 v44 v45 H; kernel_rfl
  | succ k ih => exact (congrArg (mesh_Mesh_Dump.r_l2 @bdI (callA C n) n) ih).trans (mesh_Mesh_Dump.r_l2_e n k)
noncomputable def mesh_Mesh_Dump.r_p1 (bd : B3) (call : FuncId → List V → Heap → Option R) (n : Nat) (v0 v2 v3 : V) (H : Heap) : Option R :=
 (bd (nilC v0) fun t40_1 =>
 (bd (faA 2 t40_1) fun t41_2 =>
 (bd (ld1 t41_2 H) fun t42_3 =>
 (bd (call 106 [t42_3] H) fun r4 =>
 (bd (lenSl r4.1) fun t44_5 =>
 (mesh_Mesh_Dump.r_l2_lp bd call n n v0 v2 v3 r4.1 t44_5 (.int .i64 0) r4.2))))))
theorem mesh_Mesh_Dump.r_p1_e (n : Nat) : mesh_Mesh_Dump.r_p1 @bdI (callA C n) n = mesh_Mesh_Dump.p1 n := by
  funext v0 v2 v3 H
  unfold mesh_Mesh_Dump.r_p1
  rewrite [mesh_Mesh_Dump.r_l2_lp_e]
  kernel_rfl
noncomputable def mesh_Mesh_Dump.r_l0 (bd : B3) (call : FuncId → List V → Heap → Option R) (n : Nat) (s0 : V → V → V → V → V → V → Heap → Option R) (v0 v2 v3 v20 v21 v22 : V) (H : Heap) : Option R :=
 (bd (arA .lss v22 v21) fun t23_1 =>
 (bd (asB t23_1) fun b2 =>
 if b2 = true then
 (bd (idxS 1 v20 v22) fun t24_3 =>
 (bd (ld1 t24_3 H) fun t25_4 =>
 (bd (faA 1 v3) fun t26_5 =>
 (bd (ld1 t26_5 (H.more 1)) fun t27_6 =>
 (bd (nilC v0) fun t29_7 =>
 (bd (faA 3 t29_7) fun t30_8 =>
 (bd (ld1 t30_8 (H.more 1)) fun t31_9 =>
 (bd (idxS 4 t31_9 t25_4) fun t33_10 =>
 (bd (ldN 4 t33_10 (H.more 1)) fun t34_11 =>
 (bd (bSl 4 ty_api_Vert [(.int .i64 0), (.int .i64 0), (.int .i64 0), (.int .i64 0)] 1 [(0, t34_11)]) fun o12 =>
 (bd (appA 4 32 ty_api_Vert t27_6 (.slice ⟨some ((H.n + 0), 0), 1, 4, false⟩) ((H.more 1).set (H.n + 0) o12)) fun p13 =>
 (bd (faA 1 v3) fun t37_14 =>
 (bd (stA 1 t37_14 p13.1 p13.2) fun H15 =>
 (bd (arA .add v22 (.int .i64 1)) fun t38_16 =>
 (s0 v0 v2 v3 v20 v21 t38_16 H15)))))))))))))))
 else
 (mesh_Mesh_Dump.r_p1 bd call n v0 v2 v3 H)))
theorem mesh_Mesh_Dump.r_l0_e (n m0 : Nat) : mesh_Mesh_Dump.r_l0 @bdI (callA C n) n (mesh_Mesh_Dump.l0 n m0) = mesh_Mesh_Dump.l0 n (m0 + 1) := by
  funext v0 v2 v3 v20 v21 v22 H
  unfold mesh_Mesh_Dump.r_l0
  rewrite [mesh_Mesh_Dump.r_p1_e]
  kernel_rfl
noncomputable def mesh_Mesh_Dump.r_l0_lp (bd : B3) (call : FuncId → List V → Heap → Option R) (n : Nat) (m : Nat) : V → V → V → V → V → V → Heap → Option R := Nat.rec (motive := fun _ => V → V → V → V → V → V → Heap → Option R) (fun _ _ _ _ _ _ _ => none) (fun _ self => mesh_Mesh_Dump.r_l0 bd call n self) m
theorem mesh_Mesh_Dump.r_l0_lp_e (n : Nat) : mesh_Mesh_Dump.r_l0_lp @bdI (callA C n) n = mesh_Mesh_Dump.l0 n := by
  funext m
  induction m with
  | zero => funext v0 v2 v3 v20 v21 v22 H; kernel_rfl
  | succ k ih => exact (congrArg (mesh_Mesh_Dump.r_l0 @bdI (callA C n) n) ih).trans (mesh_Mesh_Dump.r_l0_e n k)
noncomputable def mesh_Mesh_Dump.r (bd : B3) (call : FuncId → List V → Heap → Option R) (n : Nat) (v0 : V) (H : Heap) : Option R :=
 (bd (eqlA P ty_p_mesh_Mesh v0 (.ptr none)) fun t9_1 =>
 (bd (asB t9_1) fun b2 =>
 if b2 = true then
 (bd (flA [(0, 1), (1, 1), (2, 1)] [(.int .i64 0), (.slice ⟨none, 0, 0, false⟩), (.slice ⟨none, 0, 0, false⟩)] []) fun t10_3 =>
 (bd (stA 3 (.ptr (some (H.n, 0))) t10_3 (H.push (.cells [(.int .i64 0), (.slice ⟨none, 0, 0, false⟩), (.slice ⟨none, 0, 0, false⟩)] ty_api_Dump false))) fun H4 =>
 (bd (ldN 3 (.ptr (some (H.n, 0))) H4) fun t5 =>
 (frzR t5 H4))))
 else
 (bd (nilC v0) fun t12_6 =>
 (bd (faA 0 t12_6) fun t13_7 =>
 (bd (ld1 t13_7 (H.push (.cells [(.int .i64 0), (.slice ⟨none, 0, 0, false⟩), (.slice ⟨none, 0, 0, false⟩)] ty_api_Dump false))) fun t14_8 =>
 (bd (flA [(0, 1), (1, 1), (2, 1)] [(.int .i64 0), (.slice ⟨none, 0, 0, false⟩), (.slice ⟨none, 0, 0, false⟩)] [(0, t14_8)]) fun t15_9 =>
 (bd (stA 3 (.ptr (some ((H.push (.cells [(.int .i64 0), (.slice ⟨none, 0, 0, false⟩), (.slice ⟨none, 0, 0, false⟩)] ty_api_Dump false)).n, 0))) t15_9 ((H.push (.cells [(.int .i64 0), (.slice ⟨none, 0, 0, false⟩), (.slice ⟨none, 0, 0, false⟩)] ty_api_Dump false)).push (.cells [(.int .i64 0), (.slice ⟨none, 0, 0, false⟩), (.slice ⟨none, 0, 0, false⟩)] ty_api_Dump false))) fun H10 =>
 (bd (nilC v0) fun t17_11 =>
 (bd (faA 1 t17_11) fun t18_12 =>
 (bd (ld1 t18_12 H10) fun t19_13 =>
 (bd (call 106 [t19_13] H10) fun r14 =>
 (bd (lenSl r14.1) fun t21_15 =>
 (mesh_Mesh_Dump.r_l0_lp bd call n n v0 (.ptr (some (H.n, 0))) (.ptr (some ((H.push (.cells [(.int .i64 0), (.slice ⟨none, 0, 0, false⟩), (.slice ⟨none, 0, 0, false⟩)] ty_api_Dump false)).n, 0))) r14.1 t21_15 (.int .i64 0) r14.2)))))))))))))
theorem mesh_Mesh_Dump.r_e (n : Nat) (v0 : V) (H : Heap) : mesh_Mesh_Dump.r @bdI (callA C n) n v0 H = E C n 74 [] (argsA 0 [v0]) H (kR C 74) := by
  unfold mesh_Mesh_Dump.r
  rewrite [mesh_Mesh_Dump.r_l0_lp_e]
  kernel_rfl
noncomputable def mesh_Mesh_Dump.rf (bd : B3) (call : FuncId → List V → Heap → Option R) (n : Nat) (a : List V) (H : Heap) : Option R := (match a with | [v0] => mesh_Mesh_Dump.r bd call n v0 H | a => E C n 74 [] (argsA 0 a) H (kR C 74))
theorem mesh_Mesh_Dump.rf_b (n : Nat) (a : List V) (H : Heap) : (match a with | [v0] => mesh_Mesh_Dump.r @bdI (callA C n) n v0 H | a => E C n 74 [] (argsA 0 a) H (kR C 74)) = E C n 74 [] (argsA 0 a) H (kR C 74) := by
  split
  · exact mesh_Mesh_Dump.r_e n _ H
  · rfl
theorem mesh_Mesh_Dump.rf_e (n : Nat) (a : List V) (H : Heap) : mesh_Mesh_Dump.rf @bdI (callA C n) n a H = callA C (n + 1) 74 a H := by
  unfold mesh_Mesh_Dump.rf
  refine (mesh_Mesh_Dump.rf_b n a H).trans ?_
  kernel_rfl
noncomputable def bucket_Grid_Put.r (bd : B3) (call : FuncId → List V → Heap → Option R) (n : Nat) (v0 v1 v2 : V) (H : Heap) : Option R :=
 (bd (boxA ty_api_Point v2) fun o1 =>
 (bd (ldN 2 (.ptr (some (H.n, 0))) (H.push o1)) fun t12_2 =>
 (bd (call 107 [v0, t12_2] (H.push o1)) fun r3 =>
 (bd (extA r3.1 0) fun t14_4 =>
 (bd (extA r3.1 1) fun t15_5 =>
 (bd (extA r3.1 2) fun t16_6 =>
 (bd (asB t16_6) fun b7 =>
 if b7 = true then
 (bd (call 108 [v0, t14_4, t15_5] r3.2) fun r8 =>
 (bd (nilC v0) fun t28_9 =>
 (bd (faA 2 t28_9) fun t29_10 =>
 (bd (ld1 t29_10 (r8.2.more 1)) fun t30_11 =>
 (bd (idxS 1 t30_11 r8.1) fun t32_12 =>
 (bd (ld1 t32_12 (r8.2.more 1)) fun t33_13 =>
 (bd (bSl 1 ty_int [(.int .i64 0)] 1 [(0, v1)]) fun o14 =>
 (bd (appA 1 8 ty_int t33_13 (.slice ⟨some ((r8.2.n + 0), 0), 1, 1, false⟩) ((r8.2.more 1).set (r8.2.n + 0) o14)) fun p15 =>
 (bd (nilC v0) fun t23_16 =>
 (bd (faA 2 t23_16) fun t24_17 =>
 (bd (ld1 t24_17 p15.2) fun t25_18 =>
 (bd (chk (ld1 t24_17 (r8.2.more 1)) t25_18) fun _ =>
 (bd (idxS 1 t25_18 r8.1) fun t37_19 =>
 (bd (stA 1 t37_19 p15.1 p15.2) fun H20 =>
 (bd (nilC v0) fun t39_21 =>
 (bd (faA 3 t39_21) fun t40_22 =>
 (bd (ld1 t40_22 H20) fun t41_23 =>
 (bd (arA .add t41_23 (.int .i64 1)) fun t42_24 =>
 (bd (nilC v0) fun t43_25 =>
 (bd (faA 3 t43_25) fun t44_26 =>
 (bd (stA 1 t44_26 t42_24 H20) fun H27 =>
 (some (.tuple [], H27)))))))))))))))))))))))
 else
 (some (.tuple [], r3.2)))))))))
theorem bucket_Grid_Put.r_e (n : Nat) (v0 v1 v2 : V) (H : Heap) : bucket_Grid_Put.r @bdI (callA C n) n v0 v1 v2 H = E C n 75 [] (argsA 0 [v0, v1, v2]) H (kR C 75) := by
  unfold bucket_Grid_Put.r
  kernel_rfl
noncomputable def bucket_Grid_Put.rf (bd : B3) (call : FuncId → List V → Heap → Option R) (n : Nat) (a : List V) (H : Heap) : Option R := (match a with | [v0, v1, v2] => bucket_Grid_Put.r bd call n v0 v1 v2 H | a => E C n 75 [] (argsA 0 a) H (kR C 75))
theorem bucket_Grid_Put.rf_b (n : Nat) (a : List V) (H : Heap) : (match a with | [v0, v1, v2] => bucket_Grid_Put.r @bdI (callA C n) n v0 v1 v2 H | a => E C n 75 [] (argsA 0 a) H (kR C 75)) = E C n 75 [] (argsA 0 a) H (kR C 75) := by
  split
  · exact bucket_Grid_Put.r_e n _ _ _ H
  · rfl
theorem bucket_Grid_Put.rf_e (n : Nat) (a : List V) (H : Heap) : bucket_Grid_Put.rf @bdI (callA C n) n a H = callA C (n + 1) 75 a H := by
  unfold bucket_Grid_Put.rf
  refine (bucket_Grid_Put.rf_b n a H).trans ?_
  kernel_rfl
@[irreducible] noncomputable def pdt_sheet_count.l0 (n m0 : Nat) (v0 v6 v7 v8 : V) (H : Heap) : Option R := Lp C n 76 [1, 0, 0] m0 [(0, v0), (6, v6), (7, v7), (8, v8)] H (kB 0 (kR C 76))
noncomputable def pdt_sheet_count.r_l0 (bd : B3) (call : FuncId → List V → Heap → Option R) (n : Nat) (s0 : V → V → V → V → Heap → Option R) (v0 v6 v7 v8 : V) (H : Heap) : Option R :=
 (bd (arA .lss v8 v7) fun t9_1 =>
 (bd (asB t9_1) fun b2 =>
 if b2 = true then
 (bd (idxS 1 v6 v8) fun t10_3 =>
 (bd (ld1 t10_3 H) fun t11_4 =>
 (bd (call 109 [v0, t11_4] H) fun r5 =>
 (bd (asB r5.1) fun b6 =>
 if b6 = true then
 (bd (nilC v0) fun t16_7 =>
 (bd (faA 3 t16_7) fun t17_8 =>
 (bd (ld1 t17_8 r5.2) fun t18_9 =>
 (bd (updM P ty_int t18_9 t11_4 (.bool true) r5.2) fun H10 =>
 (bd (arA .add v8 (.int .i64 1)) fun t20_11 =>
 (s0 v0 v6 v7 t20_11 H10))))))
 else
 (bd (arA .add v8 (.int .i64 1)) fun t20_12 =>
 (s0 v0 v6 v7 t20_12 r5.2))))))
 else
 (some (.tuple [], H))))
theorem pdt_sheet_count.r_l0_e (n m0 : Nat) : pdt_sheet_count.r_l0 @bdI (callA C n) n (pdt_sheet_count.l0 n m0) = pdt_sheet_count.l0 n (m0 + 1) := by
  funext v0 v6 v7 v8 H
  unfold pdt_sheet_count.r_l0
  kernel_rfl
noncomputable def pdt_sheet_count.r_l0_lp (bd : B3) (call : FuncId → List V → Heap → Option R) (n : Nat) (m : Nat) : V → V → V → V → Heap → Option R := Nat.rec (motive := fun _ => V → V → V → V → Heap → Option R) (fun _ _ _ _ _ => none) (fun _ self => pdt_sheet_count.r_l0 bd call n self) m
theorem pdt_sheet_count.r_l0_lp_e (n : Nat) : pdt_sheet_count.r_l0_lp @bdI (callA C n) n = pdt_sheet_count.l0 n := by
  funext m
  induction m with
  | zero => funext v0 v6 v7 v8 H; kernel_rfl
  | succ k ih => exact (congrArg (pdt_sheet_count.r_l0 @bdI (callA C n) n) ih).trans (pdt_sheet_count.r_l0_e n k)
noncomputable def pdt_sheet_count.r (bd : B3) (call : FuncId → List V → Heap → Option R) (n : Nat) (v0 v1 : V) (H : Heap) : Option R :=
 (bd (lenSl v1) fun t7_1 =>
 (pdt_sheet_count.r_l0_lp bd call n n v0 v1 t7_1 (.int .i64 0) H))
theorem pdt_sheet_count.r_e (n : Nat) (v0 v1 : V) (H : Heap) : pdt_sheet_count.r @bdI (callA C n) n v0 v1 H = E C n 76 [] (argsA 0 [v0, v1]) H (kR C 76) := by
  unfold pdt_sheet_count.r
  rewrite [pdt_sheet_count.r_l0_lp_e]
  kernel_rfl
noncomputable def pdt_sheet_count.rf (bd : B3) (call : FuncId → List V → Heap → Option R) (n : Nat) (a : List V) (H : Heap) : Option R := inA true a H fun a H => (match a with | [v0, v1] => pdt_sheet_count.r bd call n v0 v1 H | a => E C n 76 [] (argsA 0 a) H (kR C 76))
theorem pdt_sheet_count.rf_b (n : Nat) (a : List V) (H : Heap) : (match a with | [v0, v1] => pdt_sheet_count.r @bdI (callA C n) n v0 v1 H | a => E C n 76 [] (argsA 0 a) H (kR C 76)) = E C n 76 [] (argsA 0 a) H (kR C 76) := by
  split
  · exact pdt_sheet_count.r_e n _ _ H
  · rfl
theorem pdt_sheet_count.rf_e (n : Nat) (a : List V) (H : Heap) : pdt_sheet_count.rf @bdI (callA C n) n a H = callA C (n + 1) 76 a H := by
  unfold pdt_sheet_count.rf
  refine (congrArg (inA true a H) (funext fun a => funext fun H => pdt_sheet_count.rf_b n a H)).trans ?_
  kernel_rfl
noncomputable def arena_New.r (bd : B3) (call : FuncId → List V → Heap → Option R) (n : Nat) (H : Heap) : Option R :=
 (bd (flA [(0, 1), (1, 1), (2, 1)] [(.slice ⟨none, 0, 0, false⟩), (.int .i64 0), (.int .i64 0)] [(1, (.int .i64 (-1)))]) fun t1_1 =>
 (bd (boxA ty_arena_Arena t1_1) fun o2 =>
 (some ((.ptr (some (H.n, 0))), (H.push o2)))))
theorem arena_New.r_e (n : Nat) (H : Heap) : arena_New.r @bdI (callA C n) n H = E C n 77 [] (argsA 0 []) H (kR C 77) := by
  unfold arena_New.r
  kernel_rfl
noncomputable def arena_New.rf (bd : B3) (call : FuncId → List V → Heap → Option R) (n : Nat) (a : List V) (H : Heap) : Option R := (match a with | [] => arena_New.r bd call n H | a => E C n 77 [] (argsA 0 a) H (kR C 77))
theorem arena_New.rf_b (n : Nat) (a : List V) (H : Heap) : (match a with | [] => arena_New.r @bdI (callA C n) n H | a => E C n 77 [] (argsA 0 a) H (kR C 77)) = E C n 77 [] (argsA 0 a) H (kR C 77) := by
  split
  · exact arena_New.r_e n H
  · rfl
theorem arena_New.rf_e (n : Nat) (a : List V) (H : Heap) : arena_New.rf @bdI (callA C n) n a H = callA C (n + 1) 77 a H := by
  unfold arena_New.rf
  refine (arena_New.rf_b n a H).trans ?_
  kernel_rfl
noncomputable def mesh_Mesh_AddVert.r (bd : B3) (call : FuncId → List V → Heap → Option R) (n : Nat) (v0 v1 v2 : V) (H : Heap) : Option R :=
 (bd (boxA ty_api_Point v1) fun o1 =>
 (bd (eqlA P ty_p_mesh_Mesh v0 (.ptr none)) fun t9_2 =>
 (bd (asB t9_2) fun b3 =>
 if b3 = true then
 (some ((.int .i64 (-1)), ((H.push o1).more 0)))
 else
 (bd (faA 0 (.ptr (some (H.n, 0)))) fun t11_4 =>
 (bd (ld1 t11_4 ((H.push o1).more 0)) fun t12_5 =>
 (bd (arA .lss t12_5 (.int .i64 0)) fun t13_6 =>
 (bd (asB t13_6) fun b7 =>
 if b7 = true then
 (some ((.int .i64 (-1)), ((H.push o1).more 0)))
 else
 (bd (faA 0 (.ptr (some (H.n, 0)))) fun t16_8 =>
 (bd (ld1 t16_8 ((H.push o1).more 0)) fun t17_9 =>
 (bd (nilC v0) fun t19_10 =>
 (bd (faA 0 t19_10) fun t20_11 =>
 (bd (ld1 t20_11 ((H.push o1).more 0)) fun t21_12 =>
 (bd (arA .geq t17_9 t21_12) fun t22_13 =>
 (bd (asB t22_13) fun b14 =>
 if b14 = true then
 (some ((.int .i64 (-1)), ((H.push o1).more 0)))
 else
 (bd (faA 1 (.ptr (some (H.n, 0)))) fun t25_15 =>
 (bd (ld1 t25_15 ((H.push o1).more 0)) fun t26_16 =>
 (bd (arA .lss t26_16 (.int .i64 0)) fun t27_17 =>
 (bd (asB t27_17) fun b18 =>
 if b18 = true then
 (some ((.int .i64 (-1)), ((H.push o1).more 0)))
 else
 (bd (faA 1 (.ptr (some (H.n, 0)))) fun t30_19 =>
 (bd (ld1 t30_19 ((H.push o1).more 0)) fun t31_20 =>
 (bd (nilC v0) fun t33_21 =>
 (bd (faA 0 t33_21) fun t34_22 =>
 (bd (ld1 t34_22 ((H.push o1).more 0)) fun t35_23 =>
 (bd (arA .geq t31_20 t35_23) fun t36_24 =>
 (bd (asB t36_24) fun b25 =>
 if b25 = true then
 (some ((.int .i64 (-1)), ((H.push o1).more 0)))
 else
 (bd (nilC v0) fun t39_26 =>
 (bd (faA 1 t39_26) fun t40_27 =>
 (bd (ld1 t40_27 ((H.push o1).more 0)) fun t41_28 =>
 (bd (call 110 [t41_28] ((H.push o1).more 0)) fun r29 =>
 (bd (nilC v0) fun t45_30 =>
 (bd (faA 3 t45_30) fun t46_31 =>
 (bd (ld1 t46_31 (r29.2.more 0)) fun t47_32 =>
 (bd (ldN 2 (.ptr (some (H.n, 0))) (r29.2.more 0)) fun t50_33 =>
 (bd (flA [(0, 1), (1, 2), (3, 1)] [(.int .i64 0), (.int .i64 0), (.int .i64 0), (.int .i64 0)] [(0, r29.1), (1, t50_33), (2, v2)]) fun t52_34 =>
 (bd (call 111 [t47_32, r29.1, t52_34] (r29.2.more 0)) fun r35 =>
 (bd (nilC v0) fun t54_36 =>
 (bd (faA 3 t54_36) fun t55_37 =>
 (bd (stA 1 t55_37 r35.1 r35.2) fun H38 =>
 (some (r29.1, H38))))))))))))))))))))))))))))))))))))))))
theorem mesh_Mesh_AddVert.r_e (n : Nat) (v0 v1 v2 : V) (H : Heap) : mesh_Mesh_AddVert.r @bdI (callA C n) n v0 v1 v2 H = E C n 78 [] (argsA 0 [v0, v1, v2]) H (kR C 78) := by
  unfold mesh_Mesh_AddVert.r
  kernel_rfl
noncomputable def mesh_Mesh_AddVert.rf (bd : B3) (call : FuncId → List V → Heap → Option R) (n : Nat) (a : List V) (H : Heap) : Option R := (match a with | [v0, v1, v2] => mesh_Mesh_AddVert.r bd call n v0 v1 v2 H | a => E C n 78 [] (argsA 0 a) H (kR C 78))
theorem mesh_Mesh_AddVert.rf_b (n : Nat) (a : List V) (H : Heap) : (match a with | [v0, v1, v2] => mesh_Mesh_AddVert.r @bdI (callA C n) n v0 v1 v2 H | a => E C n 78 [] (argsA 0 a) H (kR C 78)) = E C n 78 [] (argsA 0 a) H (kR C 78) := by
  split
  · exact mesh_Mesh_AddVert.r_e n _ _ _ H
  · rfl
theorem mesh_Mesh_AddVert.rf_e (n : Nat) (a : List V) (H : Heap) : mesh_Mesh_AddVert.rf @bdI (callA C n) n a H = callA C (n + 1) 78 a H := by
  unfold mesh_Mesh_AddVert.rf
  refine (mesh_Mesh_AddVert.rf_b n a H).trans ?_
  kernel_rfl
@[irreducible] noncomputable def mesh_Mesh_AddFace.l0 (n m0 : Nat) (v0 v3 v42 : V) (H : Heap) : Option R := Lp C n 79 [1, 1, 1, 0, 1, 0, 0] m0 [(0, v0), (3, v3), (42, v42)] H (kB 0 (kC C n 79 [1, 1, 1, 1] (kR C 79)))
@[irreducible] noncomputable def mesh_Mesh_AddFace.p1 (n : Nat) (v0 v3 : V) (H : Heap) : Option R := E C n 79 [1, 1, 1, 1] [(0, v0), (3, v3)] H (kR C 79)
@[irreducible] noncomputable def mesh_Mesh_AddFace.l2 (n m0 : Nat) (v0 v3 v9 v74 v75 : V) (H : Heap) : Option R := Lp C n 79 [1, 1, 1, 1, 1, 1, 0, 1, 0, 0] m0 [(0, v0), (3, v3), (9, v9), (74, v74), (75, v75)] H (kB 2 (kC C n 79 [1, 1, 1, 1, 1, 1, 1] (kR C 79)))
noncomputable def mesh_Mesh_AddFace.r_l2 (bd : B3) (call : FuncId → List V → Heap → Option R) (n : Nat) (s0 : V → V → V → V → V → Heap → Option R) (v0 v3 v9 v74 v75 : V) (H : Heap) : Option R :=
 (bd (arA .lss v75 (.int .i64 3)) fun t76_1 =>
 (bd (asB t76_1) fun b2 =>
 if b2 = true then
 (bd (ix1 3 v74 v75) fun t78_3 =>
 (bd (ldN 9 v3 (H.more 0)) fun t83_4 =>
 (bd (call 114 [t83_4, v75] (H.more 0)) fun r5 =>
 (bd (nilC v0) fun t80_6 =>
 (bd (faA 5 t80_6) fun t81_7 =>
 (bd (ld1 t81_7 r5.2) fun t82_8 =>
 (bd (chk (ld1 t81_7 (H.more 0)) t82_8) fun _ =>
 (bd (flA [(0, 1), (1, 1)] [(.int .i64 0), (.int .i64 0)] [(0, v9), (1, v75)]) fun t88_9 =>
 (bd (updM P ty_mesh_edge t82_8 r5.1 t88_9 r5.2) fun H10 =>
 (bd (nilC v0) fun t90_11 =>
 (bd (faA 6 t90_11) fun t91_12 =>
 (bd (ld1 t91_12 H10) fun t92_13 =>
 (bd (lookM P ty_int (.slice ⟨none, 0, 0, false⟩) t92_13 t78_3 false H10) fun t94_14 =>
 (bd (call 116 [t94_14, v9] H10) fun r15 =>
 (bd (unA .not r15.1) fun t97_16 =>
 (bd (asB t97_16) fun b17 =>
 if b17 = true then
 (bd (nilC v0) fun t104_18 =>
 (bd (faA 6 t104_18) fun t105_19 =>
 (bd (ld1 t105_19 (r15.2.more 1)) fun t106_20 =>
 (bd (lookM P ty_int (.slice ⟨none, 0, 0, false⟩) t106_20 t78_3 false (r15.2.more 1)) fun t108_21 =>
 (bd (bSl 1 ty_int [(.int .i64 0)] 1 [(0, v9)]) fun o22 =>
 (bd (appA 1 8 ty_int t108_21 (.slice ⟨some ((r15.2.n + 0), 0), 1, 1, false⟩) ((r15.2.more 1).set (r15.2.n + 0) o22)) fun p23 =>
 (bd (nilC v0) fun t99_24 =>
 (bd (faA 6 t99_24) fun t100_25 =>
 (bd (ld1 t100_25 p23.2) fun t101_26 =>
 (bd (chk (ld1 t100_25 (r15.2.more 1)) t101_26) fun _ =>
 (bd (updM P ty_int t101_26 t78_3 p23.1 p23.2) fun H27 =>
 (bd (arA .add v75 (.int .i64 1)) fun t112_28 =>
 (s0 v0 v3 v9 v74 t112_28 H27)))))))))))))
 else
 (bd (arA .add v75 (.int .i64 1)) fun t112_29 =>
 (s0 v0 v3 v9 v74 t112_29 r15.2))))))))))))))))))
 else
 (some (.tuple [v9, (.int .i64 0)], H))))
theorem mesh_Mesh_AddFace.r_l2_e (n m0 : Nat) : mesh_Mesh_AddFace.r_l2 @bdI (callA C n) n (mesh_Mesh_AddFace.l2 n m0) = mesh_Mesh_AddFace.l2 n (m0 + 1) := by
  funext v0 v3 v9 v74 v75 H
  unfold mesh_Mesh_AddFace.r_l2
  kernel_rfl
noncomputable def mesh_Mesh_AddFace.r_l2_lp (bd : B3) (call : FuncId → List V → Heap → Option R) (n : Nat) (m : Nat) : V → V → V → V → V → Heap → Option R := Nat.rec (motive := fun _ => V → V → V → V → V → Heap → Option R) (fun _ _ _ _ _ _ => none) (fun _ self => mesh_Mesh_AddFace.r_l2 bd call n self) m
theorem mesh_Mesh_AddFace.r_l2_lp_e (n : Nat) : mesh_Mesh_AddFace.r_l2_lp @bdI (callA C n) n = mesh_Mesh_AddFace.l2 n := by
  funext m
  induction m with
  | zero => funext v0 v3 v9 v74 v75 H; kernel_rfl
  | succ k ih => exact (congrArg (mesh_Mesh_AddFace.r_l2 @bdI (callA C n) n) ih).trans (mesh_Mesh_AddFace.r_l2_e n k)
noncomputable def mesh_Mesh_AddFace.r_p1 (bd : B3) (call : FuncId → List V → Heap → Option R) (n : Nat) (v0 v3 : V) (H : Heap) : Option R :=
 (bd (nilC v0) fun t59_1 =>
 (bd (faA 2 t59_1) fun t60_2 =>
 (bd (ld1 t60_2 H) fun t61_3 =>
 (bd (call 110 [t61_3] H) fun r4 =>
 (bd (nilC v0) fun t65_5 =>
 (bd (faA 4 t65_5) fun t66_6 =>
 (bd (ld1 t66_6 (r4.2.more 0)) fun t67_7 =>
 (bd (ldN 9 v3 (r4.2.more 0)) fun t69_8 =>
 (bd (call 115 [t67_7, r4.1, t69_8] (r4.2.more 0)) fun r9 =>
 (bd (nilC v0) fun t71_10 =>
 (bd (faA 4 t71_10) fun t72_11 =>
 (bd (stA 1 t72_11 r9.1 r9.2) fun H12 =>
 (bd (faA 0 v3) fun t73_13 =>
 (bd (ldN 3 t73_13 H12) fun t74_14 =>
 (mesh_Mesh_AddFace.r_l2_lp bd call n n v0 v3 r4.1 t74_14 (.int .i64 0) H12)))))))))))))))
theorem mesh_Mesh_AddFace.r_p1_e (n : Nat) : mesh_Mesh_AddFace.r_p1 @bdI (callA C n) n = mesh_Mesh_AddFace.p1 n := by
  funext v0 v3 H
  unfold mesh_Mesh_AddFace.r_p1
  rewrite [mesh_Mesh_AddFace.r_l2_lp_e]
  kernel_rfl
noncomputable def mesh_Mesh_AddFace.r_l0 (bd : B3) (call : FuncId → List V → Heap → Option R) (n : Nat) (s0 : V → V → V → Heap → Option R) (v0 v3 v42 : V) (H : Heap) : Option R :=
 (bd (arA .lss v42 (.int .i64 3)) fun t43_1 =>
 (bd (asB t43_1) fun b2 =>
 if b2 = true then
 (bd (ldN 9 v3 (H.more 1)) fun t50_3 =>
 (bd (call 114 [t50_3, v42] (H.more 1)) fun r4 =>
 (bd (nilC v0) fun t47_5 =>
 (bd (faA 5 t47_5) fun t48_6 =>
 (bd (ld1 t48_6 r4.2) fun t49_7 =>
 (bd (chk (ld1 t48_6 (H.more 1)) t49_7) fun _ =>
 (bd (lookM P ty_mesh_edge (.agg [(.int .i64 0), (.int .i64 0)]) t49_7 r4.1 true r4.2) fun t53_8 =>
 (bd (extA t53_8 0) fun t54_9 =>
 (bd (stA 2 (.ptr (some ((H.n + 0), 0))) t54_9 (r4.2.set (H.n + 0) (.cells [(.int .i64 0), (.int .i64 0)] ty_mesh_half false))) fun H10 =>
 (bd (extA t53_8 1) fun t55_11 =>
 (bd (asB t55_11) fun b12 =>
 if b12 = true then
 (some (.tuple [(.int .i64 (-1)), (.int .i64 6)], H10))
 else
 (bd (arA .add v42 (.int .i64 1)) fun t57_13 =>
 (s0 v0 v3 t57_13 H10)))))))))))))
 else
 (mesh_Mesh_AddFace.r_p1 bd call n v0 v3 H)))
theorem mesh_Mesh_AddFace.r_l0_e (n m0 : Nat) : mesh_Mesh_AddFace.r_l0 @bdI (callA C n) n (mesh_Mesh_AddFace.l0 n m0) = mesh_Mesh_AddFace.l0 n (m0 + 1) := by
  funext v0 v3 v42 H
  unfold mesh_Mesh_AddFace.r_l0
  rewrite [mesh_Mesh_AddFace.r_p1_e]
  kernel_rfl
noncomputable def mesh_Mesh_AddFace.r_l0_lp (bd : B3) (call : FuncId → List V → Heap → Option R) (n : Nat) (m : Nat) : V → V → V → Heap → Option R := Nat.rec (motive := fun _ => V → V → V → Heap → Option R) (fun _ _ _ _ => none) (fun _ self => mesh_Mesh_AddFace.r_l0 bd call n self) m
theorem mesh_Mesh_AddFace.r_l0_lp_e (n : Nat) : mesh_Mesh_AddFace.r_l0_lp @bdI (callA C n) n = mesh_Mesh_AddFace.l0 n := by
  funext m
  induction m with
  | zero => funext v0 v3 v42 H; kernel_rfl
  | succ k ih => exact (congrArg (mesh_Mesh_AddFace.r_l0 @bdI (callA C n) n) ih).trans (mesh_Mesh_AddFace.r_l0_e n k)
noncomputable def mesh_Mesh_AddFace.r (bd : B3) (call : FuncId → List V → Heap → Option R) (n : Nat) (v0 v1 : V) (H : Heap) : Option R :=
 (bd (boxA ty_api_Tri v1) fun o1 =>
 (bd (eqlA P ty_p_mesh_Mesh v0 (.ptr none)) fun t13_2 =>
 (bd (asB t13_2) fun b3 =>
 if b3 = true then
 (some (.tuple [(.int .i64 (-1)), (.int .i64 1)], (H.push o1)))
 else
 (bd (faA 0 (.ptr (some (H.n, 0)))) fun t16_4 =>
 (bd (idxP 3 1 t16_4 (.int .i64 0)) fun t17_5 =>
 (bd (ld1 t17_5 (H.push o1)) fun t18_6 =>
 (bd (call 112 [v0, t18_6] (H.push o1)) fun r7 =>
 (bd (unA .not r7.1) fun t20_8 =>
 (bd (asB t20_8) fun b9 =>
 if b9 = true then
 (some (.tuple [(.int .i64 (-1)), (.int .i64 1)], r7.2))
 else
 (bd (faA 0 (.ptr (some (H.n, 0)))) fun t24_10 =>
 (bd (idxP 3 1 t24_10 (.int .i64 1)) fun t25_11 =>
 (bd (ld1 t25_11 r7.2) fun t26_12 =>
 (bd (call 112 [v0, t26_12] r7.2) fun r13 =>
 (bd (unA .not r13.1) fun t28_14 =>
 (bd (asB t28_14) fun b15 =>
 if b15 = true then
 (some (.tuple [(.int .i64 (-1)), (.int .i64 1)], r13.2))
 else
 (bd (faA 0 (.ptr (some (H.n, 0)))) fun t32_16 =>
 (bd (idxP 3 1 t32_16 (.int .i64 2)) fun t33_17 =>
 (bd (ld1 t33_17 r13.2) fun t34_18 =>
 (bd (call 112 [v0, t34_18] r13.2) fun r19 =>
 (bd (unA .not r19.1) fun t36_20 =>
 (bd (asB t36_20) fun b21 =>
 if b21 = true then
 (some (.tuple [(.int .i64 (-1)), (.int .i64 1)], r19.2))
 else
 (bd (ldN 9 (.ptr (some (H.n, 0))) r19.2) fun t39_22 =>
 (bd (call 113 [v0, t39_22] r19.2) fun r23 =>
 (bd (unA .not r23.1) fun t41_24 =>
 (bd (asB t41_24) fun b25 =>
 if b25 = true then
 (some (.tuple [(.int .i64 (-1)), (.int .i64 6)], r23.2))
 else
 (mesh_Mesh_AddFace.r_l0_lp bd call n n v0 (.ptr (some (H.n, 0))) (.int .i64 0) r23.2))))))))))))))))))))))))))
theorem mesh_Mesh_AddFace.r_e (n : Nat) (v0 v1 : V) (H : Heap) : mesh_Mesh_AddFace.r @bdI (callA C n) n v0 v1 H = E C n 79 [] (argsA 0 [v0, v1]) H (kR C 79) := by
  unfold mesh_Mesh_AddFace.r
  rewrite [mesh_Mesh_AddFace.r_l0_lp_e]
  kernel_rfl
noncomputable def mesh_Mesh_AddFace.rf (bd : B3) (call : FuncId → List V → Heap → Option R) (n : Nat) (a : List V) (H : Heap) : Option R := (match a with | [v0, v1] => mesh_Mesh_AddFace.r bd call n v0 v1 H | a => E C n 79 [] (argsA 0 a) H (kR C 79))
theorem mesh_Mesh_AddFace.rf_b (n : Nat) (a : List V) (H : Heap) : (match a with | [v0, v1] => mesh_Mesh_AddFace.r @bdI (callA C n) n v0 v1 H | a => E C n 79 [] (argsA 0 a) H (kR C 79)) = E C n 79 [] (argsA 0 a) H (kR C 79) := by
  split
  · exact mesh_Mesh_AddFace.r_e n _ _ H
  · rfl
theorem mesh_Mesh_AddFace.rf_e (n : Nat) (a : List V) (H : Heap) : mesh_Mesh_AddFace.rf @bdI (callA C n) n a H = callA C (n + 1) 79 a H := by
  unfold mesh_Mesh_AddFace.rf
  refine (mesh_Mesh_AddFace.rf_b n a H).trans ?_
  kernel_rfl
noncomputable def lift_at.r (bd : B3) (call : FuncId → List V → Heap → Option R) (n : Nat) (v0 v1 v2 : V) (H : Heap) : Option R :=
 (bd (boxA ty_api_Point v0) fun o1 =>
 (bd (boxA ty_api_Off v1) fun o2 =>
 (bd (call 133 [v2] (((H.push o1).push o2).push (.cells [(.int .i64 0), (.int .i64 0)] ty_api_Point false))) fun r3 =>
 (bd (unA .not r3.1) fun t14_4 =>
 (bd (asB t14_4) fun b5 =>
 if b5 = true then
 (bd (flA [(0, 1), (1, 1)] [(.int .i64 0), (.int .i64 0)] []) fun t20_6 =>
 (bd (stA 2 (.ptr (some (((H.push o1).push o2).n, 0))) t20_6 r3.2) fun H7 =>
 (bd (ldN 2 (.ptr (some (((H.push o1).push o2).n, 0))) H7) fun t8 =>
 (some (.tuple [t8, (.bool false)], H7)))))
 else
 (bd (ldN 2 (.ptr (some (H.n, 0))) r3.2) fun t16_9 =>
 (bd (call 134 [t16_9] r3.2) fun r10 =>
 (bd (unA .not r10.1) fun t18_11 =>
 (bd (asB t18_11) fun b12 =>
 if b12 = true then
 (bd (flA [(0, 1), (1, 1)] [(.int .i64 0), (.int .i64 0)] []) fun t20_13 =>
 (bd (stA 2 (.ptr (some (((H.push o1).push o2).n, 0))) t20_13 r10.2) fun H14 =>
 (bd (ldN 2 (.ptr (some (((H.push o1).push o2).n, 0))) H14) fun t15 =>
 (some (.tuple [t15, (.bool false)], H14)))))
 else
 (bd (faA 0 (.ptr (some (H.n, 0)))) fun t22_16 =>
 (bd (ld1 t22_16 r10.2) fun t23_17 =>
 (bd (faA 0 (.ptr (some ((H.push o1).n, 0)))) fun t24_18 =>
 (bd (ld1 t24_18 r10.2) fun t25_19 =>
 (bd (call 135 [t23_17, t25_19, v2] r10.2) fun r20 =>
 (bd (extA r20.1 0) fun t28_21 =>
 (bd (extA r20.1 1) fun t29_22 =>
 (bd (faA 1 (.ptr (some (H.n, 0)))) fun t31_23 =>
 (bd (ld1 t31_23 r20.2) fun t32_24 =>
 (bd (faA 1 (.ptr (some ((H.push o1).n, 0)))) fun t33_25 =>
 (bd (ld1 t33_25 r20.2) fun t34_26 =>
 (bd (call 135 [t32_24, t34_26, v2] r20.2) fun r27 =>
 (bd (extA r27.1 0) fun t37_28 =>
 (bd (extA r27.1 1) fun t38_29 =>
 (bd (unA .not t29_22) fun t40_30 =>
 (bd (asB t40_30) fun b31 =>
 if b31 = true then
 (bd (flA [(0, 1), (1, 1)] [(.int .i64 0), (.int .i64 0)] []) fun t45_32 =>
 (bd (stA 2 (.ptr (some (((H.push o1).push o2).n, 0))) t45_32 r27.2) fun H33 =>
 (bd (ldN 2 (.ptr (some (((H.push o1).push o2).n, 0))) H33) fun t34 =>
 (some (.tuple [t34, (.bool false)], H33)))))
 else
 (bd (unA .not t38_29) fun t43_35 =>
 (bd (asB t43_35) fun b36 =>
 if b36 = true then
 (bd (flA [(0, 1), (1, 1)] [(.int .i64 0), (.int .i64 0)] []) fun t45_37 =>
 (bd (stA 2 (.ptr (some (((H.push o1).push o2).n, 0))) t45_37 r27.2) fun H38 =>
 (bd (ldN 2 (.ptr (some (((H.push o1).push o2).n, 0))) H38) fun t39 =>
 (some (.tuple [t39, (.bool false)], H38)))))
 else
 (bd (flA [(0, 1), (1, 1)] [(.int .i64 0), (.int .i64 0)] [(0, t28_21), (1, t37_28)]) fun t48_40 =>
 (bd (stA 2 (.ptr (some (((H.push o1).push o2).n, 0))) t48_40 r27.2) fun H41 =>
 (bd (ldN 2 (.ptr (some (((H.push o1).push o2).n, 0))) H41) fun t42 =>
 (some (.tuple [t42, (.bool true)], H41))))))))))))))))))))))))))))))))
theorem lift_at.r_e (n : Nat) (v0 v1 v2 : V) (H : Heap) : lift_at.r @bdI (callA C n) n v0 v1 v2 H = E C n 86 [] (argsA 0 [v0, v1, v2]) H (kR C 86) := by
  unfold lift_at.r
  kernel_rfl
noncomputable def lift_at.rf (bd : B3) (call : FuncId → List V → Heap → Option R) (n : Nat) (a : List V) (H : Heap) : Option R := pureA a H fun a => (match a with | [v0, v1, v2] => lift_at.r bd call n v0 v1 v2 ⟨0, .nil⟩ | a => E C n 86 [] (argsA 0 a) ⟨0, .nil⟩ (kR C 86))
theorem lift_at.rf_b (n : Nat) (a : List V) (H : Heap) : (match a with | [v0, v1, v2] => lift_at.r @bdI (callA C n) n v0 v1 v2 H | a => E C n 86 [] (argsA 0 a) H (kR C 86)) = E C n 86 [] (argsA 0 a) H (kR C 86) := by
  split
  · exact lift_at.r_e n _ _ _ H
  · rfl
theorem lift_at.rf_e (n : Nat) (a : List V) (H : Heap) : lift_at.rf @bdI (callA C n) n a H = callA C (n + 1) 86 a H := by
  unfold lift_at.rf
  refine (congrArg (pureA a H) (funext fun a => lift_at.rf_b n a ⟨0, .nil⟩)).trans ?_
  kernel_rfl
@[irreducible] noncomputable def arena_Arena_All.l0 (n m0 : Nat) (v0 v3 v11 v12 : V) (H : Heap) : Option R := Lp C n 106 [1, 1, 1, 0, 1, 0, 0] m0 [(0, v0), (3, v3), (11, v11), (12, v12)] H (kB 0 (kC C n 106 [1, 1, 1, 1] (kR C 106)))
noncomputable def arena_Arena_All.r_l0 (bd : B3) (call : FuncId → List V → Heap → Option R) (n : Nat) (s0 : V → V → V → V → Heap → Option R) (v0 v3 v11 v12 : V) (H : Heap) : Option R :=
 (bd (arA .lss v12 v11) fun t13_1 =>
 (bd (asB t13_1) fun b2 =>
 if b2 = true then
 (bd (call 161 [v0, v12] H) fun r3 =>
 (bd (asB r3.1) fun b4 =>
 if b4 = true then
 (bd (bSl 1 ty_int [(.int .i64 0)] 1 [(0, v12)]) fun o5 =>
 (bd (appA 1 8 ty_int v3 (.slice ⟨some (r3.2.n, 0), 1, 1, false⟩) (r3.2.push o5)) fun p6 =>
 (bd (arA .add v12 (.int .i64 1)) fun t22_7 =>
 (s0 v0 p6.1 v11 t22_7 p6.2))))
 else
 (bd (arA .add v12 (.int .i64 1)) fun t22_8 =>
 (s0 v0 v3 v11 t22_8 r3.2))))
 else
 (frzR v3 H)))
theorem arena_Arena_All.r_l0_e (n m0 : Nat) : arena_Arena_All.r_l0 @bdI (callA C n) n (arena_Arena_All.l0 n m0) = arena_Arena_All.l0 n (m0 + 1) := by
  funext v0 v3 v11 v12 H
  unfold arena_Arena_All.r_l0
  kernel_rfl
noncomputable def arena_Arena_All.r_l0_lp (bd : B3) (call : FuncId → List V → Heap → Option R) (n : Nat) (m : Nat) : V → V → V → V → Heap → Option R := Nat.rec (motive := fun _ => V → V → V → V → Heap → Option R) (fun _ _ _ _ _ => none) (fun _ self => arena_Arena_All.r_l0 bd call n self) m
theorem arena_Arena_All.r_l0_lp_e (n : Nat) : arena_Arena_All.r_l0_lp @bdI (callA C n) n = arena_Arena_All.l0 n := by
  funext m
  induction m with
  | zero => funext v0 v3 v11 v12 H; kernel_rfl
  | succ k ih => exact (congrArg (arena_Arena_All.r_l0 @bdI (callA C n) n) ih).trans (arena_Arena_All.r_l0_e n k)
noncomputable def arena_Arena_All.r (bd : B3) (call : FuncId → List V → Heap → Option R) (n : Nat) (v0 : V) (H : Heap) : Option R :=
 (bd (eqlA P ty_p_arena_Arena v0 (.ptr none)) fun t6_1 =>
 (bd (asB t6_1) fun b2 =>
 if b2 = true then
 (frzR (.slice ⟨none, 0, 0, false⟩) H)
 else
 (bd (nilC v0) fun t8_3 =>
 (bd (faA 0 t8_3) fun t9_4 =>
 (bd (ld1 t9_4 H) fun t10_5 =>
 (bd (lenSl t10_5) fun t11_6 =>
 (arena_Arena_All.r_l0_lp bd call n n v0 (.slice ⟨none, 0, 0, false⟩) t11_6 (.int .i64 0) H)))))))
theorem arena_Arena_All.r_e (n : Nat) (v0 : V) (H : Heap) : arena_Arena_All.r @bdI (callA C n) n v0 H = E C n 106 [] (argsA 0 [v0]) H (kR C 106) := by
  unfold arena_Arena_All.r
  rewrite [arena_Arena_All.r_l0_lp_e]
  kernel_rfl
noncomputable def arena_Arena_All.rf (bd : B3) (call : FuncId → List V → Heap → Option R) (n : Nat) (a : List V) (H : Heap) : Option R := (match a with | [v0] => arena_Arena_All.r bd call n v0 H | a => E C n 106 [] (argsA 0 a) H (kR C 106))
theorem arena_Arena_All.rf_b (n : Nat) (a : List V) (H : Heap) : (match a with | [v0] => arena_Arena_All.r @bdI (callA C n) n v0 H | a => E C n 106 [] (argsA 0 a) H (kR C 106)) = E C n 106 [] (argsA 0 a) H (kR C 106) := by
  split
  · exact arena_Arena_All.r_e n _ H
  · rfl
theorem arena_Arena_All.rf_e (n : Nat) (a : List V) (H : Heap) : arena_Arena_All.rf @bdI (callA C n) n a H = callA C (n + 1) 106 a H := by
  unfold arena_Arena_All.rf
  refine (arena_Arena_All.rf_b n a H).trans ?_
  kernel_rfl
noncomputable def bucket_Grid_cell.r (bd : B3) (call : FuncId → List V → Heap → Option R) (n : Nat) (v0 v1 : V) (H : Heap) : Option R :=
 (bd (boxA ty_api_Point v1) fun o1 =>
 (bd (eqlA P ty_p_bucket_Grid v0 (.ptr none)) fun t11_2 =>
 (bd (asB t11_2) fun b3 =>
 if b3 = true then
 (some (.tuple [(.int .i64 (-1)), (.int .i64 (-1)), (.bool false)], (H.push o1)))
 else
 (bd (ldN 2 (.ptr (some (H.n, 0))) ((H.push o1).more 2)) fun t13_4 =>
 (bd (nilC v0) fun t15_5 =>
 (bd (faA 0 t15_5) fun t16_6 =>
 (bd (ld1 t16_6 ((H.push o1).more 2)) fun t17_7 =>
 (bd (call 124 [t13_4, t17_7] ((H.push o1).more 2)) fun r8 =>
 (bd (extA r8.1 0) fun t19_9 =>
 (bd (stA 2 (.ptr (some (((H.push o1).n + 0), 0))) t19_9 ((r8.2.set ((H.push o1).n + 0) (.cells [(.int .i64 0), (.int .i64 0)] ty_api_Point false)).set ((H.push o1).n + 1) (.cells [(.int .i64 0), (.int .i64 0)] ty_api_Off false))) fun H10 =>
 (bd (extA r8.1 1) fun t20_11 =>
 (bd (stA 2 (.ptr (some (((H.push o1).n + 1), 0))) t20_11 H10) fun H12 =>
 (bd (extA r8.1 2) fun t21_13 =>
 (bd (unA .not t21_13) fun t23_14 =>
 (bd (asB t23_14) fun b15 =>
 if b15 = true then
 (some (.tuple [(.int .i64 (-1)), (.int .i64 (-1)), (.bool false)], H12))
 else
 (bd (faA 0 (.ptr (some (((H.push o1).n + 0), 0)))) fun t24_16 =>
 (bd (ld1 t24_16 (H12.more 0)) fun t25_17 =>
 (bd (nilC v0) fun t27_18 =>
 (bd (faA 1 t27_18) fun t28_19 =>
 (bd (ld1 t28_19 (H12.more 0)) fun t29_20 =>
 (bd (arA .mul t25_17 t29_20) fun t30_21 =>
 (bd (nilC v0) fun t32_22 =>
 (bd (faA 0 t32_22) fun t33_23 =>
 (bd (ld1 t33_23 (H12.more 0)) fun t34_24 =>
 (bd (arA .quo t30_21 t34_24) fun t35_25 =>
 (bd (faA 1 (.ptr (some (((H.push o1).n + 0), 0)))) fun t36_26 =>
 (bd (ld1 t36_26 (H12.more 0)) fun t37_27 =>
 (bd (nilC v0) fun t39_28 =>
 (bd (faA 1 t39_28) fun t40_29 =>
 (bd (ld1 t40_29 (H12.more 0)) fun t41_30 =>
 (bd (arA .mul t37_27 t41_30) fun t42_31 =>
 (bd (nilC v0) fun t44_32 =>
 (bd (faA 0 t44_32) fun t45_33 =>
 (bd (ld1 t45_33 (H12.more 0)) fun t46_34 =>
 (bd (arA .quo t42_31 t46_34) fun t47_35 =>
 (some (.tuple [t35_25, t47_35, (.bool true)], (H12.more 0))))))))))))))))))))))))))))))))))))))
theorem bucket_Grid_cell.r_e (n : Nat) (v0 v1 : V) (H : Heap) : bucket_Grid_cell.r @bdI (callA C n) n v0 v1 H = E C n 107 [] (argsA 0 [v0, v1]) H (kR C 107) := by
  unfold bucket_Grid_cell.r
  kernel_rfl
noncomputable def bucket_Grid_cell.rf (bd : B3) (call : FuncId → List V → Heap → Option R) (n : Nat) (a : List V) (H : Heap) : Option R := (match a with | [v0, v1] => bucket_Grid_cell.r bd call n v0 v1 H | a => E C n 107 [] (argsA 0 a) H (kR C 107))
theorem bucket_Grid_cell.rf_b (n : Nat) (a : List V) (H : Heap) : (match a with | [v0, v1] => bucket_Grid_cell.r @bdI (callA C n) n v0 v1 H | a => E C n 107 [] (argsA 0 a) H (kR C 107)) = E C n 107 [] (argsA 0 a) H (kR C 107) := by
  split
  · exact bucket_Grid_cell.r_e n _ _ H
  · rfl
theorem bucket_Grid_cell.rf_e (n : Nat) (a : List V) (H : Heap) : bucket_Grid_cell.rf @bdI (callA C n) n a H = callA C (n + 1) 107 a H := by
  unfold bucket_Grid_cell.rf
  refine (bucket_Grid_cell.rf_b n a H).trans ?_
  kernel_rfl
noncomputable def bucket_Grid_at.r (bd : B3) (call : FuncId → List V → Heap → Option R) (n : Nat) (v0 v1 v2 : V) (H : Heap) : Option R :=
 (bd (nilC v0) fun t9_1 =>
 (bd (faA 1 t9_1) fun t10_2 =>
 (bd (ld1 t10_2 H) fun t11_3 =>
 (bd (arA .add v1 t11_3) fun t14_4 =>
 (bd (arA .rem t14_4 t11_3) fun t16_5 =>
 (bd (arA .mul t16_5 t11_3) fun t18_6 =>
 (bd (arA .add v2 t11_3) fun t21_7 =>
 (bd (arA .rem t21_7 t11_3) fun t23_8 =>
 (bd (arA .add t18_6 t23_8) fun t24_9 =>
 (some (t24_9, (H.more 0))))))))))))
theorem bucket_Grid_at.r_e (n : Nat) (v0 v1 v2 : V) (H : Heap) : bucket_Grid_at.r @bdI (callA C n) n v0 v1 v2 H = E C n 108 [] (argsA 0 [v0, v1, v2]) H (kR C 108) := by
  unfold bucket_Grid_at.r
  kernel_rfl
noncomputable def bucket_Grid_at.rf (bd : B3) (call : FuncId → List V → Heap → Option R) (n : Nat) (a : List V) (H : Heap) : Option R := (match a with | [v0, v1, v2] => bucket_Grid_at.r bd call n v0 v1 v2 H | a => E C n 108 [] (argsA 0 a) H (kR C 108))
theorem bucket_Grid_at.rf_b (n : Nat) (a : List V) (H : Heap) : (match a with | [v0, v1, v2] => bucket_Grid_at.r @bdI (callA C n) n v0 v1 v2 H | a => E C n 108 [] (argsA 0 a) H (kR C 108)) = E C n 108 [] (argsA 0 a) H (kR C 108) := by
  split
  · exact bucket_Grid_at.r_e n _ _ _ H
  · rfl
theorem bucket_Grid_at.rf_e (n : Nat) (a : List V) (H : Heap) : bucket_Grid_at.rf @bdI (callA C n) n a H = callA C (n + 1) 108 a H := by
  unfold bucket_Grid_at.rf
  refine (bucket_Grid_at.rf_b n a H).trans ?_
  kernel_rfl
end Go.AM.L
end
section
set_option linter.unusedVariables false
set_option linter.unusedSimpArgs false
set_option maxRecDepth 1000000
set_option linter.unusedVariables false
namespace Go.AM.L
noncomputable def pdt_sheet_isBig.r (bd : B3) (call : FuncId → List V → Heap → Option R) (n : Nat) (v0 v1 : V) (H : Heap) : Option R :=
 (bd (nilC v0) fun t13_1 =>
 (bd (faA 0 t13_1) fun t14_2 =>
 (bd (ld1 t14_2 H) fun t15_3 =>
 (bd (call 162 [t15_3, v1, (.int .i64 0)] H) fun r4 =>
 (bd (extA r4.1 0) fun t18_5 =>
 (bd (extA r4.1 1) fun t19_6 =>
 (bd (stA 2 (.ptr (some (r4.2.n, 0))) t18_5 (r4.2.push (.cells [(.int .i64 0), (.int .i64 0)] ty_api_Point false))) fun H7 =>
 (bd (nilC v0) fun t22_8 =>
 (bd (faA 0 t22_8) fun t23_9 =>
 (bd (ld1 t23_9 H7) fun t24_10 =>
 (bd (call 162 [t24_10, v1, (.int .i64 1)] H7) fun r11 =>
 (bd (extA r11.1 0) fun t27_12 =>
 (bd (extA r11.1 1) fun t28_13 =>
 (bd (stA 2 (.ptr (some (r11.2.n, 0))) t27_12 (r11.2.push (.cells [(.int .i64 0), (.int .i64 0)] ty_api_Point false))) fun H14 =>
 (bd (nilC v0) fun t31_15 =>
 (bd (faA 0 t31_15) fun t32_16 =>
 (bd (ld1 t32_16 H14) fun t33_17 =>
 (bd (call 162 [t33_17, v1, (.int .i64 2)] H14) fun r18 =>
 (bd (extA r18.1 0) fun t36_19 =>
 (bd (extA r18.1 1) fun t37_20 =>
 (bd (stA 2 (.ptr (some (r18.2.n, 0))) t36_19 (r18.2.push (.cells [(.int .i64 0), (.int .i64 0)] ty_api_Point false))) fun H21 =>
 (bd (unA .not t19_6) fun t39_22 =>
 (bd (asB t39_22) fun b23 =>
 if b23 = true then
 (some ((.bool true), (H21.more 0)))
 else
 (bd (unA .not t28_13) fun t42_24 =>
 (bd (asB t42_24) fun b25 =>
 if b25 = true then
 (some ((.bool true), (H21.more 0)))
 else
 (bd (unA .not t37_20) fun t46_26 =>
 (bd (asB t46_26) fun b27 =>
 if b27 = true then
 (some ((.bool true), (H21.more 0)))
 else
 (bd (ldN 2 (.ptr (some (r4.2.n, 0))) (H21.more 0)) fun t49_28 =>
 (bd (ldN 2 (.ptr (some (r11.2.n, 0))) (H21.more 0)) fun t50_29 =>
 (bd (ldN 2 (.ptr (some (r18.2.n, 0))) (H21.more 0)) fun t51_30 =>
 (bd (nilC v0) fun t53_31 =>
 (bd (faA 2 t53_31) fun t54_32 =>
 (bd (ld1 t54_32 (H21.more 0)) fun t55_33 =>
 (bd (call 163 [t49_28, t50_29, t51_30, t55_33] (H21.more 0)) fun r34 =>
 (bd (unA .not r34.1) fun t57_35 =>
 (some (t57_35, r34.2)))))))))))))))))))))))))))))))))))))
theorem pdt_sheet_isBig.r_e (n : Nat) (v0 v1 : V) (H : Heap) : pdt_sheet_isBig.r @bdI (callA C n) n v0 v1 H = E C n 109 [] (argsA 0 [v0, v1]) H (kR C 109) := by
  unfold pdt_sheet_isBig.r
  kernel_rfl
noncomputable def pdt_sheet_isBig.rf (bd : B3) (call : FuncId → List V → Heap → Option R) (n : Nat) (a : List V) (H : Heap) : Option R := (match a with | [v0, v1] => pdt_sheet_isBig.r bd call n v0 v1 H | a => E C n 109 [] (argsA 0 a) H (kR C 109))
theorem pdt_sheet_isBig.rf_b (n : Nat) (a : List V) (H : Heap) : (match a with | [v0, v1] => pdt_sheet_isBig.r @bdI (callA C n) n v0 v1 H | a => E C n 109 [] (argsA 0 a) H (kR C 109)) = E C n 109 [] (argsA 0 a) H (kR C 109) := by
  split
  · exact pdt_sheet_isBig.r_e n _ _ H
  · rfl
theorem pdt_sheet_isBig.rf_e (n : Nat) (a : List V) (H : Heap) : pdt_sheet_isBig.rf @bdI (callA C n) n a H = callA C (n + 1) 109 a H := by
  unfold pdt_sheet_isBig.rf
  refine (pdt_sheet_isBig.rf_b n a H).trans ?_
  kernel_rfl
noncomputable def arena_Arena_Take.r (bd : B3) (call : FuncId → List V → Heap → Option R) (n : Nat) (v0 : V) (H : Heap) : Option R :=
 (bd (eqlA P ty_p_arena_Arena v0 (.ptr none)) fun t5_1 =>
 (bd (asB t5_1) fun b2 =>
 if b2 = true then
 (some ((.int .i64 (-1)), H))
 else
 (bd (nilC v0) fun t7_3 =>
 (bd (faA 2 t7_3) fun t8_4 =>
 (bd (ld1 t8_4 H) fun t9_5 =>
 (bd (arA .add t9_5 (.int .i64 1)) fun t10_6 =>
 (bd (nilC v0) fun t11_7 =>
 (bd (faA 2 t11_7) fun t12_8 =>
 (bd (stA 1 t12_8 t10_6 H) fun H9 =>
 (bd (nilC v0) fun t14_10 =>
 (bd (faA 1 t14_10) fun t15_11 =>
 (bd (ld1 t15_11 H9) fun t16_12 =>
 (bd (arA .eql t16_12 (.int .i64 (-1))) fun t18_13 =>
 (bd (asB t18_13) fun b14 =>
 if b14 = true then
 (bd (nilC v0) fun t21_15 =>
 (bd (faA 0 t21_15) fun t22_16 =>
 (bd (ld1 t22_16 H9) fun t23_17 =>
 (bd (bSl 1 ty_interface [.nilIface] 1 [(0, (.iface ty_int (.int .i64 (-2))))]) fun o18 =>
 (bd (appA 1 16 ty_interface t23_17 (.slice ⟨some (H9.n, 0), 1, 1, false⟩) (H9.push o18)) fun p19 =>
 (bd (nilC v0) fun t27_20 =>
 (bd (faA 0 t27_20) fun t28_21 =>
 (bd (stA 1 t28_21 p19.1 p19.2) fun H22 =>
 (bd (nilC v0) fun t30_23 =>
 (bd (faA 0 t30_23) fun t31_24 =>
 (bd (ld1 t31_24 H22) fun t32_25 =>
 (bd (lenSl t32_25) fun t33_26 =>
 (bd (arA .sub t33_26 (.int .i64 1)) fun t34_27 =>
 (some (t34_27, H22)))))))))))))))
 else
 (bd (call 164 [v0, t16_12] H9) fun r28 =>
 (bd (nilC v0) fun t39_29 =>
 (bd (faA 1 t39_29) fun t40_30 =>
 (bd (stA 1 t40_30 r28.1 r28.2) fun H31 =>
 (bd (nilC v0) fun t42_32 =>
 (bd (faA 0 t42_32) fun t43_33 =>
 (bd (ld1 t43_33 H31) fun t44_34 =>
 (bd (idxS 1 t44_34 t16_12) fun t47_35 =>
 (bd (stA 1 t47_35 (.iface ty_int (.int .i64 (-2))) H31) fun H36 =>
 (some (t16_12, H36)))))))))))))))))))))))))
theorem arena_Arena_Take.r_e (n : Nat) (v0 : V) (H : Heap) : arena_Arena_Take.r @bdI (callA C n) n v0 H = E C n 110 [] (argsA 0 [v0]) H (kR C 110) := by
  unfold arena_Arena_Take.r
  kernel_rfl
noncomputable def arena_Arena_Take.rf (bd : B3) (call : FuncId → List V → Heap → Option R) (n : Nat) (a : List V) (H : Heap) : Option R := (match a with | [v0] => arena_Arena_Take.r bd call n v0 H | a => E C n 110 [] (argsA 0 a) H (kR C 110))
theorem arena_Arena_Take.rf_b (n : Nat) (a : List V) (H : Heap) : (match a with | [v0] => arena_Arena_Take.r @bdI (callA C n) n v0 H | a => E C n 110 [] (argsA 0 a) H (kR C 110)) = E C n 110 [] (argsA 0 a) H (kR C 110) := by
  split
  · exact arena_Arena_Take.r_e n _ H
  · rfl
theorem arena_Arena_Take.rf_e (n : Nat) (a : List V) (H : Heap) : arena_Arena_Take.rf @bdI (callA C n) n a H = callA C (n + 1) 110 a H := by
  unfold arena_Arena_Take.rf
  refine (arena_Arena_Take.rf_b n a H).trans ?_
  kernel_rfl
noncomputable def mesh_put_api_Vert.r (bd : B3) (call : FuncId → List V → Heap → Option R) (n : Nat) (v0 v1 v2 : V) (H : Heap) : Option R :=
 (bd (boxA ty_api_Vert v2) fun o1 =>
 (bd (lenSl v0) fun t9_2 =>
 (bd (arA .eql v1 t9_2) fun t10_3 =>
 (bd (asB t10_3) fun b4 =>
 if b4 = true then
 (bd (ldN 4 (.ptr (some (H.n, 0))) (H.push o1)) fun t12_5 =>
 (bd (bSl 4 ty_api_Vert [(.int .i64 0), (.int .i64 0), (.int .i64 0), (.int .i64 0)] 1 [(0, t12_5)]) fun o6 =>
 (bd (appA 4 32 ty_api_Vert v0 (.slice ⟨some ((H.push o1).n, 0), 1, 4, false⟩) ((H.push o1).push o6)) fun p7 =>
 (some (p7.1, p7.2)))))
 else
 (bd (ldN 4 (.ptr (some (H.n, 0))) (H.push o1)) fun t17_8 =>
 (bd (idxS 4 v0 v1) fun t18_9 =>
 (bd (stA 4 t18_9 t17_8 (H.push o1)) fun H10 =>
 (some (v0, H10)))))))))
theorem mesh_put_api_Vert.r_e (n : Nat) (v0 v1 v2 : V) (H : Heap) : mesh_put_api_Vert.r @bdI (callA C n) n v0 v1 v2 H = E C n 111 [] (argsA 0 [v0, v1, v2]) H (kR C 111) := by
  unfold mesh_put_api_Vert.r
  kernel_rfl
noncomputable def mesh_put_api_Vert.rf (bd : B3) (call : FuncId → List V → Heap → Option R) (n : Nat) (a : List V) (H : Heap) : Option R := (match a with | [v0, v1, v2] => mesh_put_api_Vert.r bd call n v0 v1 v2 H | a => E C n 111 [] (argsA 0 a) H (kR C 111))
theorem mesh_put_api_Vert.rf_b (n : Nat) (a : List V) (H : Heap) : (match a with | [v0, v1, v2] => mesh_put_api_Vert.r @bdI (callA C n) n v0 v1 v2 H | a => E C n 111 [] (argsA 0 a) H (kR C 111)) = E C n 111 [] (argsA 0 a) H (kR C 111) := by
  split
  · exact mesh_put_api_Vert.r_e n _ _ _ H
  · rfl
theorem mesh_put_api_Vert.rf_e (n : Nat) (a : List V) (H : Heap) : mesh_put_api_Vert.rf @bdI (callA C n) n a H = callA C (n + 1) 111 a H := by
  unfold mesh_put_api_Vert.rf
  refine (mesh_put_api_Vert.rf_b n a H).trans ?_
  kernel_rfl
noncomputable def mesh_Mesh_vert.r (bd : B3) (call : FuncId → List V → Heap → Option R) (n : Nat) (v0 v1 : V) (H : Heap) : Option R :=
 (bd (neqA P ty_p_mesh_Mesh v0 (.ptr none)) fun t6_1 =>
 (bd (asB t6_1) fun b2 =>
 if b2 = true then
 (bd (nilC v0) fun t9_3 =>
 (bd (faA 1 t9_3) fun t10_4 =>
 (bd (ld1 t10_4 H) fun t11_5 =>
 (bd (call 165 [t11_5, v1] H) fun r6 =>
 (some (r6.1, r6.2))))))
 else
 (some ((.bool false), H))))
theorem mesh_Mesh_vert.r_e (n : Nat) (v0 v1 : V) (H : Heap) : mesh_Mesh_vert.r @bdI (callA C n) n v0 v1 H = E C n 112 [] (argsA 0 [v0, v1]) H (kR C 112) := by
  unfold mesh_Mesh_vert.r
  kernel_rfl
noncomputable def mesh_Mesh_vert.rf (bd : B3) (call : FuncId → List V → Heap → Option R) (n : Nat) (a : List V) (H : Heap) : Option R := (match a with | [v0, v1] => mesh_Mesh_vert.r bd call n v0 v1 H | a => E C n 112 [] (argsA 0 a) H (kR C 112))
theorem mesh_Mesh_vert.rf_b (n : Nat) (a : List V) (H : Heap) : (match a with | [v0, v1] => mesh_Mesh_vert.r @bdI (callA C n) n v0 v1 H | a => E C n 112 [] (argsA 0 a) H (kR C 112)) = E C n 112 [] (argsA 0 a) H (kR C 112) := by
  split
  · exact mesh_Mesh_vert.r_e n _ _ H
  · rfl
theorem mesh_Mesh_vert.rf_e (n : Nat) (a : List V) (H : Heap) : mesh_Mesh_vert.rf @bdI (callA C n) n a H = callA C (n + 1) 112 a H := by
  unfold mesh_Mesh_vert.rf
  refine (mesh_Mesh_vert.rf_b n a H).trans ?_
  kernel_rfl
noncomputable def mesh_Mesh_turns.r (bd : B3) (call : FuncId → List V → Heap → Option R) (n : Nat) (v0 v1 : V) (H : Heap) : Option R :=
 (bd (boxA ty_api_Tri v1) fun o1 =>
 (bd (ldN 9 (.ptr (some (H.n, 0))) (H.push o1)) fun t13_2 =>
 (bd (call 166 [v0, t13_2, (.int .i64 0)] (H.push o1)) fun r3 =>
 (bd (extA r3.1 0) fun t15_4 =>
 (bd (extA r3.1 1) fun t16_5 =>
 (bd (stA 2 (.ptr (some (r3.2.n, 0))) t15_4 (r3.2.push (.cells [(.int .i64 0), (.int .i64 0)] ty_api_Point false))) fun H6 =>
 (bd (ldN 9 (.ptr (some (H.n, 0))) H6) fun t19_7 =>
 (bd (call 166 [v0, t19_7, (.int .i64 1)] H6) fun r8 =>
 (bd (extA r8.1 0) fun t21_9 =>
 (bd (extA r8.1 1) fun t22_10 =>
 (bd (stA 2 (.ptr (some (r8.2.n, 0))) t21_9 (r8.2.push (.cells [(.int .i64 0), (.int .i64 0)] ty_api_Point false))) fun H11 =>
 (bd (ldN 9 (.ptr (some (H.n, 0))) H11) fun t25_12 =>
 (bd (call 166 [v0, t25_12, (.int .i64 2)] H11) fun r13 =>
 (bd (extA r13.1 0) fun t27_14 =>
 (bd (extA r13.1 1) fun t28_15 =>
 (bd (stA 2 (.ptr (some (r13.2.n, 0))) t27_14 (r13.2.push (.cells [(.int .i64 0), (.int .i64 0)] ty_api_Point false))) fun H16 =>
 (bd (asB t16_5) fun b17 =>
 if b17 = true then
 (bd (asB t22_10) fun b18 =>
 if b18 = true then
 (bd (asB t28_15) fun b19 =>
 if b19 = true then
 (bd (ldN 2 (.ptr (some (r3.2.n, 0))) H16) fun t37_20 =>
 (bd (ldN 2 (.ptr (some (r8.2.n, 0))) H16) fun t38_21 =>
 (bd (ldN 2 (.ptr (some (r13.2.n, 0))) H16) fun t39_22 =>
 (bd (call 167 [t37_20, t38_21, t39_22] H16) fun r23 =>
 (bd (arA .eql r23.1 (.int .i64 1)) fun t41_24 =>
 (some (t41_24, r23.2)))))))
 else
 (some ((.bool false), H16)))
 else
 (some ((.bool false), H16)))
 else
 (some ((.bool false), H16)))))))))))))))))))
theorem mesh_Mesh_turns.r_e (n : Nat) (v0 v1 : V) (H : Heap) : mesh_Mesh_turns.r @bdI (callA C n) n v0 v1 H = E C n 113 [] (argsA 0 [v0, v1]) H (kR C 113) := by
  unfold mesh_Mesh_turns.r
  kernel_rfl
noncomputable def mesh_Mesh_turns.rf (bd : B3) (call : FuncId → List V → Heap → Option R) (n : Nat) (a : List V) (H : Heap) : Option R := (match a with | [v0, v1] => mesh_Mesh_turns.r bd call n v0 v1 H | a => E C n 113 [] (argsA 0 a) H (kR C 113))
theorem mesh_Mesh_turns.rf_b (n : Nat) (a : List V) (H : Heap) : (match a with | [v0, v1] => mesh_Mesh_turns.r @bdI (callA C n) n v0 v1 H | a => E C n 113 [] (argsA 0 a) H (kR C 113)) = E C n 113 [] (argsA 0 a) H (kR C 113) := by
  split
  · exact mesh_Mesh_turns.r_e n _ _ H
  · rfl
theorem mesh_Mesh_turns.rf_e (n : Nat) (a : List V) (H : Heap) : mesh_Mesh_turns.rf @bdI (callA C n) n a H = callA C (n + 1) 113 a H := by
  unfold mesh_Mesh_turns.rf
  refine (mesh_Mesh_turns.rf_b n a H).trans ?_
  kernel_rfl
noncomputable def mesh_side.r (bd : B3) (call : FuncId → List V → Heap → Option R) (n : Nat) (v0 v1 : V) (H : Heap) : Option R :=
 (bd (boxA ty_api_Tri v0) fun o1 =>
 (bd (arA .add v1 (.int .i64 1)) fun t7_2 =>
 (bd (call 168 [t7_2] ((H.push o1).push (.cells [(.int .i64 0), (.int .i64 0), (.int .i64 0), (.int .i64 0)] ty_mesh_edge false))) fun r3 =>
 (bd (faA 3 (.ptr (some (H.n, 0)))) fun t18_4 =>
 (bd (idxP 3 2 t18_4 r3.1) fun t19_5 =>
 (bd (ldN 2 t19_5 (r3.2.more 0)) fun t20_6 =>
 (bd (faA 3 (.ptr (some (H.n, 0)))) fun t22_7 =>
 (bd (idxP 3 2 t22_7 v1) fun t23_8 =>
 (bd (ldN 2 t23_8 (r3.2.more 0)) fun t24_9 =>
 (bd (call 169 [t20_6, t24_9] (r3.2.more 0)) fun r10 =>
 (bd (faA 0 (.ptr (some (H.n, 0)))) fun t10_11 =>
 (bd (idxP 3 1 t10_11 v1) fun t11_12 =>
 (bd (ld1 t11_12 r10.2) fun t12_13 =>
 (bd (chk (ld1 t11_12 (r3.2.more 0)) t12_13) fun _ =>
 (bd (faA 0 (.ptr (some (H.n, 0)))) fun t14_14 =>
 (bd (idxP 3 1 t14_14 r3.1) fun t15_15 =>
 (bd (ld1 t15_15 r10.2) fun t16_16 =>
 (bd (chk (ld1 t15_15 (r3.2.more 0)) t16_16) fun _ =>
 (bd (flA [(0, 1), (1, 1), (2, 2)] [(.int .i64 0), (.int .i64 0), (.int .i64 0), (.int .i64 0)] [(0, t12_13), (1, t16_16), (2, r10.1)]) fun t26_17 =>
 (bd (stA 4 (.ptr (some ((H.push o1).n, 0))) t26_17 r10.2) fun H18 =>
 (bd (ldN 4 (.ptr (some ((H.push o1).n, 0))) H18) fun t19 =>
 (some (t19, H18)))))))))))))))))))))))
theorem mesh_side.r_e (n : Nat) (v0 v1 : V) (H : Heap) : mesh_side.r @bdI (callA C n) n v0 v1 H = E C n 114 [] (argsA 0 [v0, v1]) H (kR C 114) := by
  unfold mesh_side.r
  kernel_rfl
noncomputable def mesh_side.rf (bd : B3) (call : FuncId → List V → Heap → Option R) (n : Nat) (a : List V) (H : Heap) : Option R := pureA a H fun a => (match a with | [v0, v1] => mesh_side.r bd call n v0 v1 ⟨0, .nil⟩ | a => E C n 114 [] (argsA 0 a) ⟨0, .nil⟩ (kR C 114))
theorem mesh_side.rf_b (n : Nat) (a : List V) (H : Heap) : (match a with | [v0, v1] => mesh_side.r @bdI (callA C n) n v0 v1 H | a => E C n 114 [] (argsA 0 a) H (kR C 114)) = E C n 114 [] (argsA 0 a) H (kR C 114) := by
  split
  · exact mesh_side.r_e n _ _ H
  · rfl
theorem mesh_side.rf_e (n : Nat) (a : List V) (H : Heap) : mesh_side.rf @bdI (callA C n) n a H = callA C (n + 1) 114 a H := by
  unfold mesh_side.rf
  refine (congrArg (pureA a H) (funext fun a => mesh_side.rf_b n a ⟨0, .nil⟩)).trans ?_
  kernel_rfl
noncomputable def mesh_put_api_Tri.r (bd : B3) (call : FuncId → List V → Heap → Option R) (n : Nat) (v0 v1 v2 : V) (H : Heap) : Option R :=
 (bd (boxA ty_api_Tri v2) fun o1 =>
 (bd (lenSl v0) fun t9_2 =>
 (bd (arA .eql v1 t9_2) fun t10_3 =>
 (bd (asB t10_3) fun b4 =>
 if b4 = true then
 (bd (ldN 9 (.ptr (some (H.n, 0))) (H.push o1)) fun t12_5 =>
 (bd (bSl 9 ty_api_Tri [(.int .i64 0), (.int .i64 0), (.int .i64 0), (.int .i64 0), (.int .i64 0), (.int .i64 0), (.int .i64 0), (.int .i64 0), (.int .i64 0)] 1 [(0, t12_5)]) fun o6 =>
 (bd (appA 9 72 ty_api_Tri v0 (.slice ⟨some ((H.push o1).n, 0), 1, 9, false⟩) ((H.push o1).push o6)) fun p7 =>
 (some (p7.1, p7.2)))))
 else
 (bd (ldN 9 (.ptr (some (H.n, 0))) (H.push o1)) fun t17_8 =>
 (bd (idxS 9 v0 v1) fun t18_9 =>
 (bd (stA 9 t18_9 t17_8 (H.push o1)) fun H10 =>
 (some (v0, H10)))))))))
theorem mesh_put_api_Tri.r_e (n : Nat) (v0 v1 v2 : V) (H : Heap) : mesh_put_api_Tri.r @bdI (callA C n) n v0 v1 v2 H = E C n 115 [] (argsA 0 [v0, v1, v2]) H (kR C 115) := by
  unfold mesh_put_api_Tri.r
  kernel_rfl
noncomputable def mesh_put_api_Tri.rf (bd : B3) (call : FuncId → List V → Heap → Option R) (n : Nat) (a : List V) (H : Heap) : Option R := (match a with | [v0, v1, v2] => mesh_put_api_Tri.r bd call n v0 v1 v2 H | a => E C n 115 [] (argsA 0 a) H (kR C 115))
theorem mesh_put_api_Tri.rf_b (n : Nat) (a : List V) (H : Heap) : (match a with | [v0, v1, v2] => mesh_put_api_Tri.r @bdI (callA C n) n v0 v1 v2 H | a => E C n 115 [] (argsA 0 a) H (kR C 115)) = E C n 115 [] (argsA 0 a) H (kR C 115) := by
  split
  · exact mesh_put_api_Tri.r_e n _ _ _ H
  · rfl
theorem mesh_put_api_Tri.rf_e (n : Nat) (a : List V) (H : Heap) : mesh_put_api_Tri.rf @bdI (callA C n) n a H = callA C (n + 1) 115 a H := by
  unfold mesh_put_api_Tri.rf
  refine (mesh_put_api_Tri.rf_b n a H).trans ?_
  kernel_rfl
noncomputable def slices_Contains_int_int.r (bd : B3) (call : FuncId → List V → Heap → Option R) (n : Nat) (v0 v1 : V) (H : Heap) : Option R :=
 (bd (call 170 [v0, v1] H) fun r1 =>
 (bd (arA .geq r1.1 (.int .i64 0)) fun t8_2 =>
 (some (t8_2, r1.2))))
theorem slices_Contains_int_int.r_e (n : Nat) (v0 v1 : V) (H : Heap) : slices_Contains_int_int.r @bdI (callA C n) n v0 v1 H = E C n 116 [] (argsA 0 [v0, v1]) H (kR C 116) := by
  unfold slices_Contains_int_int.r
  kernel_rfl
noncomputable def slices_Contains_int_int.rf (bd : B3) (call : FuncId → List V → Heap → Option R) (n : Nat) (a : List V) (H : Heap) : Option R := (match a with | [v0, v1] => slices_Contains_int_int.r bd call n v0 v1 H | a => E C n 116 [] (argsA 0 a) H (kR C 116))
theorem slices_Contains_int_int.rf_b (n : Nat) (a : List V) (H : Heap) : (match a with | [v0, v1] => slices_Contains_int_int.r @bdI (callA C n) n v0 v1 H | a => E C n 116 [] (argsA 0 a) H (kR C 116)) = E C n 116 [] (argsA 0 a) H (kR C 116) := by
  split
  · exact slices_Contains_int_int.r_e n _ _ H
  · rfl
theorem slices_Contains_int_int.rf_e (n : Nat) (a : List V) (H : Heap) : slices_Contains_int_int.rf @bdI (callA C n) n a H = callA C (n + 1) 116 a H := by
  unfold slices_Contains_int_int.rf
  refine (slices_Contains_int_int.rf_b n a H).trans ?_
  kernel_rfl
@[irreducible] noncomputable def cover_sheets.l0 (n m0 : Nat) (v0 v4 : V) (H : Heap) : Option R := Lp C n 117 [1, 0, 0] m0 [(0, v0), (4, v4)] H (kB 0 (kR C 117))
@[irreducible] noncomputable def cover_sheets.l1 (n m0 m1 : Nat) (v0 v2 v4 v7 : V) (H : Heap) : Option R := Lp C n 117 [1, 0, 0, 1, 1, 0, 0, 1, 1, 0, 0] m1 [(0, v0), (2, v2), (4, v4), (7, v7)] H (kB 2 (kB 1 (kC C n 117 [1, 0, 0, 1, 1, 1] (kL C n 117 [1, 0, 0] m0 (kB 0 (kR C 117))))))
noncomputable def cover_sheets.r_l1 (bd : B3) (call : FuncId → List V → Heap → Option R) (n : Nat) (s0 : V → V → Heap → Option R) (s1 : V → V → V → V → Heap → Option R) (v0 v2 v4 v7 : V) (H : Heap) : Option R :=
 (bd (arA .lss v7 (.int .i64 3)) fun t8_1 =>
 (bd (asB t8_1) fun b2 =>
 if b2 = true then
 (bd (flA [(0, 1), (1, 1)] [(.int .i64 0), (.int .i64 0)] [(0, v2), (1, v7)]) fun t13_3 =>
 (bd (callV call v0 [t13_3] H) fun r4 =>
 (bd (unA .not r4.1) fun t15_5 =>
 (bd (asB t15_5) fun b6 =>
 if b6 = true then
 (some (.tuple [], r4.2))
 else
 (bd (arA .add v7 (.int .i64 1)) fun t16_7 =>
 (s1 v0 v2 v4 t16_7 r4.2))))))
 else
 (bd (arA .add v4 (.int .i64 1)) fun t17_8 =>
 (s0 v0 t17_8 H))))
theorem cover_sheets.r_l1_e (n m0 m1 : Nat) : cover_sheets.r_l1 @bdI (callA C n) n (cover_sheets.l0 n m0) (cover_sheets.l1 n m0 m1) = cover_sheets.l1 n m0 (m1 + 1) := by
  funext v0 v2 v4 v7 H
  unfold cover_sheets.r_l1
  kernel_rfl
noncomputable def cover_sheets.r_l1_lp (bd : B3) (call : FuncId → List V → Heap → Option R) (n : Nat) (s0 : V → V → Heap → Option R) (m : Nat) : V → V → V → V → Heap → Option R := Nat.rec (motive := fun _ => V → V → V → V → Heap → Option R) (fun _ _ _ _ _ => none) (fun _ self => cover_sheets.r_l1 bd call n s0 self) m
theorem cover_sheets.r_l1_lp_e (n m0 : Nat) : cover_sheets.r_l1_lp @bdI (callA C n) n (cover_sheets.l0 n m0) = cover_sheets.l1 n m0 := by
  funext m
  induction m with
  | zero => funext v0 v2 v4 v7 H; kernel_rfl
  | succ k ih => exact (congrArg (cover_sheets.r_l1 @bdI (callA C n) n (cover_sheets.l0 n m0)) ih).trans (cover_sheets.r_l1_e n m0 k)
noncomputable def cover_sheets.r_l0 (bd : B3) (call : FuncId → List V → Heap → Option R) (n : Nat) (s0 : V → V → Heap → Option R) (v0 v4 : V) (H : Heap) : Option R :=
 (bd (arA .lss v4 (.int .i64 3)) fun t5_1 =>
 (bd (asB t5_1) fun b2 =>
 if b2 = true then
 (cover_sheets.r_l1_lp bd call n s0 n v0 v4 v4 (.int .i64 0) H)
 else
 (some (.tuple [], H))))
theorem cover_sheets.r_l0_e (n m0 : Nat) : cover_sheets.r_l0 @bdI (callA C n) n (cover_sheets.l0 n m0) = cover_sheets.l0 n (m0 + 1) := by
  funext v0 v4 H
  unfold cover_sheets.r_l0
  rewrite [cover_sheets.r_l1_lp_e]
  kernel_rfl
noncomputable def cover_sheets.r_l0_lp (bd : B3) (call : FuncId → List V → Heap → Option R) (n : Nat) (m : Nat) : V → V → Heap → Option R := Nat.rec (motive := fun _ => V → V → Heap → Option R) (fun _ _ _ => none) (fun _ self => cover_sheets.r_l0 bd call n self) m
theorem cover_sheets.r_l0_lp_e (n : Nat) : cover_sheets.r_l0_lp @bdI (callA C n) n = cover_sheets.l0 n := by
  funext m
  induction m with
  | zero => funext v0 v4 H; kernel_rfl
  | succ k ih => exact (congrArg (cover_sheets.r_l0 @bdI (callA C n) n) ih).trans (cover_sheets.r_l0_e n k)
noncomputable def cover_sheets.r (bd : B3) (call : FuncId → List V → Heap → Option R) (n : Nat) (v0 : V) (H : Heap) : Option R :=
 (cover_sheets.r_l0_lp bd call n n v0 (.int .i64 0) H)
theorem cover_sheets.r_e (n : Nat) (v0 : V) (H : Heap) : cover_sheets.r @bdI (callA C n) n v0 H = E C n 117 [] (argsA 0 [v0]) H (kR C 117) := by
  unfold cover_sheets.r
  rewrite [cover_sheets.r_l0_lp_e]
  kernel_rfl
noncomputable def cover_sheets.rf (bd : B3) (call : FuncId → List V → Heap → Option R) (n : Nat) (a : List V) (H : Heap) : Option R := (match a with | [v0] => cover_sheets.r bd call n v0 H | a => E C n 117 [] (argsA 0 a) H (kR C 117))
theorem cover_sheets.rf_b (n : Nat) (a : List V) (H : Heap) : (match a with | [v0] => cover_sheets.r @bdI (callA C n) n v0 H | a => E C n 117 [] (argsA 0 a) H (kR C 117)) = E C n 117 [] (argsA 0 a) H (kR C 117) := by
  split
  · exact cover_sheets.r_e n _ H
  · rfl
theorem cover_sheets.rf_e (n : Nat) (a : List V) (H : Heap) : cover_sheets.rf @bdI (callA C n) n a H = callA C (n + 1) 117 a H := by
  unfold cover_sheets.rf
  refine (cover_sheets.rf_b n a H).trans ?_
  kernel_rfl
noncomputable def cover_corner.r (bd : B3) (call : FuncId → List V → Heap → Option R) (n : Nat) (v0 v1 : V) (H : Heap) : Option R :=
 (bd (boxA ty_api_Off v1) fun o1 =>
 (bd (faA 0 (.ptr (some (H.n, 0)))) fun t11_2 =>
 (bd (ld1 t11_2 ((H.push o1).push (.cells [(.int .i64 0), (.int .i64 0)] ty_api_Off false))) fun t12_3 =>
 (bd (call 171 [t12_3] ((H.push o1).push (.cells [(.int .i64 0), (.int .i64 0)] ty_api_Off false))) fun r4 =>
 (bd (extA r4.1 0) fun t14_5 =>
 (bd (extA r4.1 1) fun t15_6 =>
 (bd (faA 1 (.ptr (some (H.n, 0)))) fun t17_7 =>
 (bd (ld1 t17_7 r4.2) fun t18_8 =>
 (bd (call 171 [t18_8] r4.2) fun r9 =>
 (bd (extA r9.1 0) fun t20_10 =>
 (bd (extA r9.1 1) fun t21_11 =>
 (bd (arA .mul (.int .i64 9) v0) fun t23_12 =>
 (bd (arA .mul (.int .i64 3) t14_5) fun t25_13 =>
 (bd (arA .add t23_12 t25_13) fun t26_14 =>
 (bd (arA .add t26_14 t20_10) fun t28_15 =>
 (bd (flA [(0, 1), (1, 1)] [(.int .i64 0), (.int .i64 0)] [(0, t15_6), (1, t21_11)]) fun t31_16 =>
 (bd (stA 2 (.ptr (some ((H.push o1).n, 0))) t31_16 r9.2) fun H17 =>
 (bd (ldN 2 (.ptr (some ((H.push o1).n, 0))) H17) fun t18 =>
 (some (.tuple [t28_15, t18], H17))))))))))))))))))))
theorem cover_corner.r_e (n : Nat) (v0 v1 : V) (H : Heap) : cover_corner.r @bdI (callA C n) n v0 v1 H = E C n 118 [] (argsA 0 [v0, v1]) H (kR C 118) := by
  unfold cover_corner.r
  kernel_rfl
noncomputable def cover_corner.rf (bd : B3) (call : FuncId → List V → Heap → Option R) (n : Nat) (a : List V) (H : Heap) : Option R := pureA a H fun a => (match a with | [v0, v1] => cover_corner.r bd call n v0 v1 ⟨0, .nil⟩ | a => E C n 118 [] (argsA 0 a) ⟨0, .nil⟩ (kR C 118))
theorem cover_corner.rf_b (n : Nat) (a : List V) (H : Heap) : (match a with | [v0, v1] => cover_corner.r @bdI (callA C n) n v0 v1 H | a => E C n 118 [] (argsA 0 a) H (kR C 118)) = E C n 118 [] (argsA 0 a) H (kR C 118) := by
  split
  · exact cover_corner.r_e n _ _ H
  · rfl
theorem cover_corner.rf_e (n : Nat) (a : List V) (H : Heap) : cover_corner.rf @bdI (callA C n) n a H = callA C (n + 1) 118 a H := by
  unfold cover_corner.rf
  refine (congrArg (pureA a H) (funext fun a => cover_corner.rf_b n a ⟨0, .nil⟩)).trans ?_
  kernel_rfl
noncomputable def lift_Sum.r (bd : B3) (call : FuncId → List V → Heap → Option R) (n : Nat) (v0 v1 : V) (H : Heap) : Option R :=
 (bd (boxA ty_api_Off v0) fun o1 =>
 (bd (boxA ty_api_Off v1) fun o2 =>
 (bd (faA 0 (.ptr (some (H.n, 0)))) fun t5_3 =>
 (bd (ld1 t5_3 (((H.push o1).push o2).push (.cells [(.int .i64 0), (.int .i64 0)] ty_api_Off false))) fun t6_4 =>
 (bd (faA 0 (.ptr (some ((H.push o1).n, 0)))) fun t7_5 =>
 (bd (ld1 t7_5 (((H.push o1).push o2).push (.cells [(.int .i64 0), (.int .i64 0)] ty_api_Off false))) fun t8_6 =>
 (bd (arA .add t6_4 t8_6) fun t9_7 =>
 (bd (faA 1 (.ptr (some (H.n, 0)))) fun t10_8 =>
 (bd (ld1 t10_8 (((H.push o1).push o2).push (.cells [(.int .i64 0), (.int .i64 0)] ty_api_Off false))) fun t11_9 =>
 (bd (faA 1 (.ptr (some ((H.push o1).n, 0)))) fun t12_10 =>
 (bd (ld1 t12_10 (((H.push o1).push o2).push (.cells [(.int .i64 0), (.int .i64 0)] ty_api_Off false))) fun t13_11 =>
 (bd (arA .add t11_9 t13_11) fun t14_12 =>
 (bd (flA [(0, 1), (1, 1)] [(.int .i64 0), (.int .i64 0)] [(0, t9_7), (1, t14_12)]) fun t15_13 =>
 (bd (stA 2 (.ptr (some (((H.push o1).push o2).n, 0))) t15_13 (((H.push o1).push o2).push (.cells [(.int .i64 0), (.int .i64 0)] ty_api_Off false))) fun H14 =>
 (bd (ldN 2 (.ptr (some (((H.push o1).push o2).n, 0))) H14) fun t15 =>
 (some (t15, H14)))))))))))))))))
theorem lift_Sum.r_e (n : Nat) (v0 v1 : V) (H : Heap) : lift_Sum.r @bdI (callA C n) n v0 v1 H = E C n 119 [] (argsA 0 [v0, v1]) H (kR C 119) := by
  unfold lift_Sum.r
  kernel_rfl
noncomputable def lift_Sum.rf (bd : B3) (call : FuncId → List V → Heap → Option R) (n : Nat) (a : List V) (H : Heap) : Option R := pureA a H fun a => (match a with | [v0, v1] => lift_Sum.r bd call n v0 v1 ⟨0, .nil⟩ | a => E C n 119 [] (argsA 0 a) ⟨0, .nil⟩ (kR C 119))
theorem lift_Sum.rf_b (n : Nat) (a : List V) (H : Heap) : (match a with | [v0, v1] => lift_Sum.r @bdI (callA C n) n v0 v1 H | a => E C n 119 [] (argsA 0 a) H (kR C 119)) = E C n 119 [] (argsA 0 a) H (kR C 119) := by
  split
  · exact lift_Sum.r_e n _ _ H
  · rfl
theorem lift_Sum.rf_e (n : Nat) (a : List V) (H : Heap) : lift_Sum.rf @bdI (callA C n) n a H = callA C (n + 1) 119 a H := by
  unfold lift_Sum.rf
  refine (congrArg (pureA a H) (funext fun a => lift_Sum.rf_b n a ⟨0, .nil⟩)).trans ?_
  kernel_rfl
noncomputable def lift_Home.r (bd : B3) (call : FuncId → List V → Heap → Option R) (n : Nat) (v0 v1 : V) (H : Heap) : Option R :=
 (bd (boxA ty_api_Point v0) fun o1 =>
 (bd (call 133 [v1] (((H.push o1).push (.cells [(.int .i64 0), (.int .i64 0)] ty_api_Point false)).push (.cells [(.int .i64 0), (.int .i64 0)] ty_api_Off false))) fun r2 =>
 (bd (unA .not r2.1) fun t13_3 =>
 (bd (asB t13_3) fun b4 =>
 if b4 = true then
 (bd (flA [(0, 1), (1, 1)] [(.int .i64 0), (.int .i64 0)] []) fun t19_5 =>
 (bd (flA [(0, 1), (1, 1)] [(.int .i64 0), (.int .i64 0)] []) fun t20_6 =>
 (bd (stA 2 (.ptr (some ((H.push o1).n, 0))) t19_5 r2.2) fun H7 =>
 (bd (stA 2 (.ptr (some (((H.push o1).push (.cells [(.int .i64 0), (.int .i64 0)] ty_api_Point false)).n, 0))) t20_6 H7) fun H8 =>
 (bd (ldN 2 (.ptr (some ((H.push o1).n, 0))) H8) fun t9 =>
 (bd (ldN 2 (.ptr (some (((H.push o1).push (.cells [(.int .i64 0), (.int .i64 0)] ty_api_Point false)).n, 0))) H8) fun t10 =>
 (some (.tuple [t9, t10, (.bool false)], H8))))))))
 else
 (bd (ldN 2 (.ptr (some (H.n, 0))) r2.2) fun t15_11 =>
 (bd (call 134 [t15_11] r2.2) fun r12 =>
 (bd (unA .not r12.1) fun t17_13 =>
 (bd (asB t17_13) fun b14 =>
 if b14 = true then
 (bd (flA [(0, 1), (1, 1)] [(.int .i64 0), (.int .i64 0)] []) fun t19_15 =>
 (bd (flA [(0, 1), (1, 1)] [(.int .i64 0), (.int .i64 0)] []) fun t20_16 =>
 (bd (stA 2 (.ptr (some ((H.push o1).n, 0))) t19_15 r12.2) fun H17 =>
 (bd (stA 2 (.ptr (some (((H.push o1).push (.cells [(.int .i64 0), (.int .i64 0)] ty_api_Point false)).n, 0))) t20_16 H17) fun H18 =>
 (bd (ldN 2 (.ptr (some ((H.push o1).n, 0))) H18) fun t19 =>
 (bd (ldN 2 (.ptr (some (((H.push o1).push (.cells [(.int .i64 0), (.int .i64 0)] ty_api_Point false)).n, 0))) H18) fun t20 =>
 (some (.tuple [t19, t20, (.bool false)], H18))))))))
 else
 (bd (faA 0 (.ptr (some (H.n, 0)))) fun t22_21 =>
 (bd (ld1 t22_21 r12.2) fun t23_22 =>
 (bd (call 174 [t23_22, v1] r12.2) fun r23 =>
 (bd (extA r23.1 0) fun t26_24 =>
 (bd (extA r23.1 1) fun t27_25 =>
 (bd (faA 1 (.ptr (some (H.n, 0)))) fun t29_26 =>
 (bd (ld1 t29_26 r23.2) fun t30_27 =>
 (bd (call 174 [t30_27, v1] r23.2) fun r28 =>
 (bd (extA r28.1 0) fun t33_29 =>
 (bd (extA r28.1 1) fun t34_30 =>
 (bd (flA [(0, 1), (1, 1)] [(.int .i64 0), (.int .i64 0)] [(0, t26_24), (1, t33_29)]) fun t37_31 =>
 (bd (flA [(0, 1), (1, 1)] [(.int .i64 0), (.int .i64 0)] [(0, t27_25), (1, t34_30)]) fun t40_32 =>
 (bd (stA 2 (.ptr (some ((H.push o1).n, 0))) t37_31 r28.2) fun H33 =>
 (bd (stA 2 (.ptr (some (((H.push o1).push (.cells [(.int .i64 0), (.int .i64 0)] ty_api_Point false)).n, 0))) t40_32 H33) fun H34 =>
 (bd (ldN 2 (.ptr (some ((H.push o1).n, 0))) H34) fun t35 =>
 (bd (ldN 2 (.ptr (some (((H.push o1).push (.cells [(.int .i64 0), (.int .i64 0)] ty_api_Point false)).n, 0))) H34) fun t36 =>
 (some (.tuple [t35, t36, (.bool true)], H34))))))))))))))))))))))))))
theorem lift_Home.r_e (n : Nat) (v0 v1 : V) (H : Heap) : lift_Home.r @bdI (callA C n) n v0 v1 H = E C n 124 [] (argsA 0 [v0, v1]) H (kR C 124) := by
  unfold lift_Home.r
  kernel_rfl
noncomputable def lift_Home.rf (bd : B3) (call : FuncId → List V → Heap → Option R) (n : Nat) (a : List V) (H : Heap) : Option R := pureA a H fun a => (match a with | [v0, v1] => lift_Home.r bd call n v0 v1 ⟨0, .nil⟩ | a => E C n 124 [] (argsA 0 a) ⟨0, .nil⟩ (kR C 124))
theorem lift_Home.rf_b (n : Nat) (a : List V) (H : Heap) : (match a with | [v0, v1] => lift_Home.r @bdI (callA C n) n v0 v1 H | a => E C n 124 [] (argsA 0 a) H (kR C 124)) = E C n 124 [] (argsA 0 a) H (kR C 124) := by
  split
  · exact lift_Home.r_e n _ _ H
  · rfl
theorem lift_Home.rf_e (n : Nat) (a : List V) (H : Heap) : lift_Home.rf @bdI (callA C n) n a H = callA C (n + 1) 124 a H := by
  unfold lift_Home.rf
  refine (congrArg (pureA a H) (funext fun a => lift_Home.rf_b n a ⟨0, .nil⟩)).trans ?_
  kernel_rfl
noncomputable def lift_torus.r (bd : B3) (call : FuncId → List V → Heap → Option R) (n : Nat) (v0 : V) (H : Heap) : Option R :=
 (bd (arA .geq v0 (.int .i64 1)) fun t4_1 =>
 (bd (asB t4_1) fun b2 =>
 if b2 = true then
 (bd (arA .leq v0 (.int .i64 1099511627776)) fun t7_3 =>
 (some (t7_3, H)))
 else
 (some ((.bool false), H))))
theorem lift_torus.r_e (n : Nat) (v0 : V) (H : Heap) : lift_torus.r @bdI (callA C n) n v0 H = E C n 133 [] (argsA 0 [v0]) H (kR C 133) := by
  unfold lift_torus.r
  kernel_rfl
noncomputable def lift_torus.rf (bd : B3) (call : FuncId → List V → Heap → Option R) (n : Nat) (a : List V) (H : Heap) : Option R := pureA a H fun a => (match a with | [v0] => lift_torus.r bd call n v0 ⟨0, .nil⟩ | a => E C n 133 [] (argsA 0 a) ⟨0, .nil⟩ (kR C 133))
theorem lift_torus.rf_b (n : Nat) (a : List V) (H : Heap) : (match a with | [v0] => lift_torus.r @bdI (callA C n) n v0 H | a => E C n 133 [] (argsA 0 a) H (kR C 133)) = E C n 133 [] (argsA 0 a) H (kR C 133) := by
  split
  · exact lift_torus.r_e n _ H
  · rfl
theorem lift_torus.rf_e (n : Nat) (a : List V) (H : Heap) : lift_torus.rf @bdI (callA C n) n a H = callA C (n + 1) 133 a H := by
  unfold lift_torus.rf
  refine (congrArg (pureA a H) (funext fun a => lift_torus.rf_b n a ⟨0, .nil⟩)).trans ?_
  kernel_rfl
noncomputable def lift_can.r (bd : B3) (call : FuncId → List V → Heap → Option R) (n : Nat) (v0 : V) (H : Heap) : Option R :=
 (bd (boxA ty_api_Point v0) fun o1 =>
 (bd (faA 0 (.ptr (some (H.n, 0)))) fun t3_2 =>
 (bd (ld1 t3_2 (H.push o1)) fun t4_3 =>
 (bd (call 191 [t4_3] (H.push o1)) fun r4 =>
 (bd (asB r4.1) fun b5 =>
 if b5 = true then
 (bd (faA 1 (.ptr (some (H.n, 0)))) fun t7_6 =>
 (bd (ld1 t7_6 r4.2) fun t8_7 =>
 (bd (call 191 [t8_7] r4.2) fun r8 =>
 (some (r8.1, r8.2)))))
 else
 (some ((.bool false), r4.2)))))))
theorem lift_can.r_e (n : Nat) (v0 : V) (H : Heap) : lift_can.r @bdI (callA C n) n v0 H = E C n 134 [] (argsA 0 [v0]) H (kR C 134) := by
  unfold lift_can.r
  kernel_rfl
noncomputable def lift_can.rf (bd : B3) (call : FuncId → List V → Heap → Option R) (n : Nat) (a : List V) (H : Heap) : Option R := pureA a H fun a => (match a with | [v0] => lift_can.r bd call n v0 ⟨0, .nil⟩ | a => E C n 134 [] (argsA 0 a) ⟨0, .nil⟩ (kR C 134))
theorem lift_can.rf_b (n : Nat) (a : List V) (H : Heap) : (match a with | [v0] => lift_can.r @bdI (callA C n) n v0 H | a => E C n 134 [] (argsA 0 a) H (kR C 134)) = E C n 134 [] (argsA 0 a) H (kR C 134) := by
  split
  · exact lift_can.r_e n _ H
  · rfl
theorem lift_can.rf_e (n : Nat) (a : List V) (H : Heap) : lift_can.rf @bdI (callA C n) n a H = callA C (n + 1) 134 a H := by
  unfold lift_can.rf
  refine (congrArg (pureA a H) (funext fun a => lift_can.rf_b n a ⟨0, .nil⟩)).trans ?_
  kernel_rfl
noncomputable def lift_move.r (bd : B3) (call : FuncId → List V → Heap → Option R) (n : Nat) (v0 v1 v2 : V) (H : Heap) : Option R :=
 (bd (arA .lss v1 (.int .i64 (-2199023255552))) fun t10_1 =>
 (bd (asB t10_1) fun b2 =>
 if b2 = true then
 (some (.tuple [(.int .i64 0), (.bool false)], H))
 else
 (bd (arA .gtr v1 (.int .i64 2199023255552)) fun t13_3 =>
 (bd (asB t13_3) fun b4 =>
 if b4 = true then
 (some (.tuple [(.int .i64 0), (.bool false)], H))
 else
 (bd (arA .quo (.int .i64 2199023255552) v2) fun t16_5 =>
 (bd (unA .neg t16_5) fun t19_6 =>
 (bd (arA .lss v1 t19_6) fun t20_7 =>
 (bd (asB t20_7) fun b8 =>
 if b8 = true then
 (some (.tuple [(.int .i64 0), (.bool false)], H))
 else
 (bd (arA .gtr v1 t16_5) fun t24_9 =>
 (bd (asB t24_9) fun b10 =>
 if b10 = true then
 (some (.tuple [(.int .i64 0), (.bool false)], H))
 else
 (bd (arA .mul v1 v2) fun t29_11 =>
 (bd (arA .add v0 t29_11) fun t30_12 =>
 (bd (call 191 [t30_12] H) fun r13 =>
 (some (.tuple [t30_12, r13.1], r13.2)))))))))))))))
theorem lift_move.r_e (n : Nat) (v0 v1 v2 : V) (H : Heap) : lift_move.r @bdI (callA C n) n v0 v1 v2 H = E C n 135 [] (argsA 0 [v0, v1, v2]) H (kR C 135) := by
  unfold lift_move.r
  kernel_rfl
noncomputable def lift_move.rf (bd : B3) (call : FuncId → List V → Heap → Option R) (n : Nat) (a : List V) (H : Heap) : Option R := pureA a H fun a => (match a with | [v0, v1, v2] => lift_move.r bd call n v0 v1 v2 ⟨0, .nil⟩ | a => E C n 135 [] (argsA 0 a) ⟨0, .nil⟩ (kR C 135))
theorem lift_move.rf_b (n : Nat) (a : List V) (H : Heap) : (match a with | [v0, v1, v2] => lift_move.r @bdI (callA C n) n v0 v1 v2 H | a => E C n 135 [] (argsA 0 a) H (kR C 135)) = E C n 135 [] (argsA 0 a) H (kR C 135) := by
  split
  · exact lift_move.r_e n _ _ _ H
  · rfl
theorem lift_move.rf_e (n : Nat) (a : List V) (H : Heap) : lift_move.rf @bdI (callA C n) n a H = callA C (n + 1) 135 a H := by
  unfold lift_move.rf
  refine (congrArg (pureA a H) (funext fun a => lift_move.rf_b n a ⟨0, .nil⟩)).trans ?_
  kernel_rfl
noncomputable def arena_Arena_live.r (bd : B3) (call : FuncId → List V → Heap → Option R) (n : Nat) (v0 v1 : V) (H : Heap) : Option R :=
 (bd (eqlA P ty_p_arena_Arena v0 (.ptr none)) fun t8_1 =>
 (bd (asB t8_1) fun b2 =>
 if b2 = true then
 (some ((.bool false), H))
 else
 (bd (arA .lss v1 (.int .i64 0)) fun t11_3 =>
 (bd (asB t11_3) fun b4 =>
 if b4 = true then
 (some ((.bool false), H))
 else
 (bd (nilC v0) fun t16_5 =>
 (bd (faA 0 t16_5) fun t17_6 =>
 (bd (ld1 t17_6 H) fun t18_7 =>
 (bd (lenSl t18_7) fun t19_8 =>
 (bd (arA .geq v1 t19_8) fun t20_9 =>
 (bd (asB t20_9) fun b10 =>
 if b10 = true then
 (some ((.bool false), H))
 else
 (bd (nilC v0) fun t24_11 =>
 (bd (faA 0 t24_11) fun t25_12 =>
 (bd (ld1 t25_12 H) fun t26_13 =>
 (bd (idxS 1 t26_13 v1) fun t28_14 =>
 (bd (ld1 t28_14 H) fun t29_15 =>
 (bd (asOk ty_int (.int .i64 0) t29_15) fun t30_16 =>
 (bd (extA t30_16 0) fun t31_17 =>
 (bd (extA t30_16 1) fun t32_18 =>
 (bd (asB t32_18) fun b19 =>
 if b19 = true then
 (bd (arA .eql t31_17 (.int .i64 (-2))) fun t36_20 =>
 (some (t36_20, H)))
 else
 (some ((.bool false), H)))))))))))))))))))))
theorem arena_Arena_live.r_e (n : Nat) (v0 v1 : V) (H : Heap) : arena_Arena_live.r @bdI (callA C n) n v0 v1 H = E C n 161 [] (argsA 0 [v0, v1]) H (kR C 161) := by
  unfold arena_Arena_live.r
  kernel_rfl
noncomputable def arena_Arena_live.rf (bd : B3) (call : FuncId → List V → Heap → Option R) (n : Nat) (a : List V) (H : Heap) : Option R := (match a with | [v0, v1] => arena_Arena_live.r bd call n v0 v1 H | a => E C n 161 [] (argsA 0 a) H (kR C 161))
theorem arena_Arena_live.rf_b (n : Nat) (a : List V) (H : Heap) : (match a with | [v0, v1] => arena_Arena_live.r @bdI (callA C n) n v0 v1 H | a => E C n 161 [] (argsA 0 a) H (kR C 161)) = E C n 161 [] (argsA 0 a) H (kR C 161) := by
  split
  · exact arena_Arena_live.r_e n _ _ H
  · rfl
theorem arena_Arena_live.rf_e (n : Nat) (a : List V) (H : Heap) : arena_Arena_live.rf @bdI (callA C n) n a H = callA C (n + 1) 161 a H := by
  unfold arena_Arena_live.rf
  refine (arena_Arena_live.rf_b n a H).trans ?_
  kernel_rfl
noncomputable def mesh_Mesh_Corner.r (bd : B3) (call : FuncId → List V → Heap → Option R) (n : Nat) (v0 v1 v2 : V) (H : Heap) : Option R :=
 (bd (call 175 [v0, v1] (H.push (.cells [(.int .i64 0), (.int .i64 0)] ty_api_Point false))) fun r1 =>
 (bd (unA .not r1.1) fun t11_2 =>
 (bd (asB t11_2) fun b3 =>
 if b3 = true then
 (bd (flA [(0, 1), (1, 1)] [(.int .i64 0), (.int .i64 0)] []) fun t12_4 =>
 (bd (stA 2 (.ptr (some (H.n, 0))) t12_4 r1.2) fun H5 =>
 (bd (ldN 2 (.ptr (some (H.n, 0))) H5) fun t6 =>
 (some (.tuple [t6, (.bool false)], H5)))))
 else
 (bd (call 168 [v2] (r1.2.more 0)) fun r7 =>
 (bd (nilC v0) fun t15_8 =>
 (bd (faA 4 t15_8) fun t16_9 =>
 (bd (ld1 t16_9 r7.2) fun t17_10 =>
 (bd (chk (ld1 t16_9 (r1.2.more 0)) t17_10) fun _ =>
 (bd (idxS 9 t17_10 v1) fun t19_11 =>
 (bd (ldN 9 t19_11 r7.2) fun t20_12 =>
 (bd (chk (ldN 9 t19_11 (r1.2.more 0)) t20_12) fun _ =>
 (bd (call 166 [v0, t20_12, r7.1] r7.2) fun r13 =>
 (bd (extA r13.1 0) fun t24_14 =>
 (bd (extA r13.1 1) fun t25_15 =>
 (bd (stA 2 (.ptr (some (H.n, 0))) t24_14 r13.2) fun H16 =>
 (bd (ldN 2 (.ptr (some (H.n, 0))) H16) fun t17 =>
 (some (.tuple [t17, t25_15], H16))))))))))))))))))
theorem mesh_Mesh_Corner.r_e (n : Nat) (v0 v1 v2 : V) (H : Heap) : mesh_Mesh_Corner.r @bdI (callA C n) n v0 v1 v2 H = E C n 162 [] (argsA 0 [v0, v1, v2]) H (kR C 162) := by
  unfold mesh_Mesh_Corner.r
  kernel_rfl
noncomputable def mesh_Mesh_Corner.rf (bd : B3) (call : FuncId → List V → Heap → Option R) (n : Nat) (a : List V) (H : Heap) : Option R := (match a with | [v0, v1, v2] => mesh_Mesh_Corner.r bd call n v0 v1 v2 H | a => E C n 162 [] (argsA 0 a) H (kR C 162))
theorem mesh_Mesh_Corner.rf_b (n : Nat) (a : List V) (H : Heap) : (match a with | [v0, v1, v2] => mesh_Mesh_Corner.r @bdI (callA C n) n v0 v1 v2 H | a => E C n 162 [] (argsA 0 a) H (kR C 162)) = E C n 162 [] (argsA 0 a) H (kR C 162) := by
  split
  · exact mesh_Mesh_Corner.r_e n _ _ _ H
  · rfl
theorem mesh_Mesh_Corner.rf_e (n : Nat) (a : List V) (H : Heap) : mesh_Mesh_Corner.rf @bdI (callA C n) n a H = callA C (n + 1) 162 a H := by
  unfold mesh_Mesh_Corner.rf
  refine (mesh_Mesh_Corner.rf_b n a H).trans ?_
  kernel_rfl
noncomputable def arena_Arena_Live.r (bd : B3) (call : FuncId → List V → Heap → Option R) (n : Nat) (v0 v1 : V) (H : Heap) : Option R :=
 (bd (call 161 [v0, v1] H) fun r1 =>
 (some (r1.1, r1.2)))
theorem arena_Arena_Live.r_e (n : Nat) (v0 v1 : V) (H : Heap) : arena_Arena_Live.r @bdI (callA C n) n v0 v1 H = E C n 165 [] (argsA 0 [v0, v1]) H (kR C 165) := by
  unfold arena_Arena_Live.r
  kernel_rfl
noncomputable def arena_Arena_Live.rf (bd : B3) (call : FuncId → List V → Heap → Option R) (n : Nat) (a : List V) (H : Heap) : Option R := (match a with | [v0, v1] => arena_Arena_Live.r bd call n v0 v1 H | a => E C n 165 [] (argsA 0 a) H (kR C 165))
theorem arena_Arena_Live.rf_b (n : Nat) (a : List V) (H : Heap) : (match a with | [v0, v1] => arena_Arena_Live.r @bdI (callA C n) n v0 v1 H | a => E C n 165 [] (argsA 0 a) H (kR C 165)) = E C n 165 [] (argsA 0 a) H (kR C 165) := by
  split
  · exact arena_Arena_Live.r_e n _ _ H
  · rfl
theorem arena_Arena_Live.rf_e (n : Nat) (a : List V) (H : Heap) : arena_Arena_Live.rf @bdI (callA C n) n a H = callA C (n + 1) 165 a H := by
  unfold arena_Arena_Live.rf
  refine (arena_Arena_Live.rf_b n a H).trans ?_
  kernel_rfl
end Go.AM.L
end
section
set_option linter.unusedVariables false
set_option linter.unusedSimpArgs false
set_option maxRecDepth 1000000
set_option linter.unusedVariables false
namespace Go.AM.L
noncomputable def mesh_Mesh_place.r (bd : B3) (call : FuncId → List V → Heap → Option R) (n : Nat) (v0 v1 v2 : V) (H : Heap) : Option R :=
 (bd (boxA ty_api_Tri v1) fun o1 =>
 (bd (nilC v0) fun t9_2 =>
 (bd (faA 3 t9_2) fun t10_3 =>
 (bd (ld1 t10_3 (((H.push o1).push (.cells [(.int .i64 0), (.int .i64 0)] ty_api_Point false)).more 0)) fun t11_4 =>
 (bd (faA 0 (.ptr (some (H.n, 0)))) fun t13_5 =>
 (bd (idxP 3 1 t13_5 v2) fun t14_6 =>
 (bd (ld1 t14_6 (((H.push o1).push (.cells [(.int .i64 0), (.int .i64 0)] ty_api_Point false)).more 0)) fun t15_7 =>
 (bd (idxS 4 t11_4 t15_7) fun t16_8 =>
 (bd (faA 1 t16_8) fun t17_9 =>
 (bd (ldN 2 t17_9 (((H.push o1).push (.cells [(.int .i64 0), (.int .i64 0)] ty_api_Point false)).more 0)) fun t18_10 =>
 (bd (faA 3 (.ptr (some (H.n, 0)))) fun t20_11 =>
 (bd (idxP 3 2 t20_11 v2) fun t21_12 =>
 (bd (ldN 2 t21_12 (((H.push o1).push (.cells [(.int .i64 0), (.int .i64 0)] ty_api_Point false)).more 0)) fun t22_13 =>
 (bd (nilC v0) fun t24_14 =>
 (bd (faA 0 t24_14) fun t25_15 =>
 (bd (ld1 t25_15 (((H.push o1).push (.cells [(.int .i64 0), (.int .i64 0)] ty_api_Point false)).more 0)) fun t26_16 =>
 (bd (call 46 [t18_10, t22_13, t26_16] (((H.push o1).push (.cells [(.int .i64 0), (.int .i64 0)] ty_api_Point false)).more 0)) fun r17 =>
 (bd (extA r17.1 0) fun t28_18 =>
 (bd (extA r17.1 1) fun t29_19 =>
 (bd (stA 2 (.ptr (some ((H.push o1).n, 0))) t28_18 r17.2) fun H20 =>
 (bd (ldN 2 (.ptr (some ((H.push o1).n, 0))) H20) fun t21 =>
 (some (.tuple [t21, t29_19], H20)))))))))))))))))))))))
theorem mesh_Mesh_place.r_e (n : Nat) (v0 v1 v2 : V) (H : Heap) : mesh_Mesh_place.r @bdI (callA C n) n v0 v1 v2 H = E C n 166 [] (argsA 0 [v0, v1, v2]) H (kR C 166) := by
  unfold mesh_Mesh_place.r
  kernel_rfl
noncomputable def mesh_Mesh_place.rf (bd : B3) (call : FuncId → List V → Heap → Option R) (n : Nat) (a : List V) (H : Heap) : Option R := (match a with | [v0, v1, v2] => mesh_Mesh_place.r bd call n v0 v1 v2 H | a => E C n 166 [] (argsA 0 a) H (kR C 166))
theorem mesh_Mesh_place.rf_b (n : Nat) (a : List V) (H : Heap) : (match a with | [v0, v1, v2] => mesh_Mesh_place.r @bdI (callA C n) n v0 v1 v2 H | a => E C n 166 [] (argsA 0 a) H (kR C 166)) = E C n 166 [] (argsA 0 a) H (kR C 166) := by
  split
  · exact mesh_Mesh_place.r_e n _ _ _ H
  · rfl
theorem mesh_Mesh_place.rf_e (n : Nat) (a : List V) (H : Heap) : mesh_Mesh_place.rf @bdI (callA C n) n a H = callA C (n + 1) 166 a H := by
  unfold mesh_Mesh_place.rf
  refine (mesh_Mesh_place.rf_b n a H).trans ?_
  kernel_rfl
noncomputable def pred_Orient.r (bd : B3) (call : FuncId → List V → Heap → Option R) (n : Nat) (v0 v1 v2 : V) (H : Heap) : Option R :=
 (bd (boxA ty_api_Point v0) fun o1 =>
 (bd (boxA ty_api_Point v1) fun o2 =>
 (bd (boxA ty_api_Point v2) fun o3 =>
 (bd (ldN 2 (.ptr (some (H.n, 0))) (((H.push o1).push o2).push o3)) fun t7_4 =>
 (bd (ldN 2 (.ptr (some ((H.push o1).n, 0))) (((H.push o1).push o2).push o3)) fun t8_5 =>
 (bd (ldN 2 (.ptr (some (((H.push o1).push o2).n, 0))) (((H.push o1).push o2).push o3)) fun t9_6 =>
 (bd (bSl 2 ty_api_Point [(.int .i64 0), (.int .i64 0)] 3 [(0, t7_4), (1, t8_5), (2, t9_6)]) fun o7 =>
 (bd (call 229 [(.slice ⟨some ((((H.push o1).push o2).push o3).n, 0), 3, 2, false⟩)] ((((H.push o1).push o2).push o3).push o7)) fun r8 =>
 (bd (unA .not r8.1) fun t12_9 =>
 (bd (asB t12_9) fun b10 =>
 if b10 = true then
 (some ((.int .i64 0), r8.2))
 else
 (bd (ldN 2 (.ptr (some (H.n, 0))) r8.2) fun t13_11 =>
 (bd (ldN 2 (.ptr (some ((H.push o1).n, 0))) r8.2) fun t14_12 =>
 (bd (ldN 2 (.ptr (some (((H.push o1).push o2).n, 0))) r8.2) fun t15_13 =>
 (bd (call 230 [t13_11, t14_12, t15_13] r8.2) fun r14 =>
 (some (r14.1, r14.2))))))))))))))))
theorem pred_Orient.r_e (n : Nat) (v0 v1 v2 : V) (H : Heap) : pred_Orient.r @bdI (callA C n) n v0 v1 v2 H = E C n 167 [] (argsA 0 [v0, v1, v2]) H (kR C 167) := by
  unfold pred_Orient.r
  kernel_rfl
noncomputable def pred_Orient.rf (bd : B3) (call : FuncId → List V → Heap → Option R) (n : Nat) (a : List V) (H : Heap) : Option R := pureA a H fun a => (match a with | [v0, v1, v2] => pred_Orient.r bd call n v0 v1 v2 ⟨0, .nil⟩ | a => E C n 167 [] (argsA 0 a) ⟨0, .nil⟩ (kR C 167))
theorem pred_Orient.rf_b (n : Nat) (a : List V) (H : Heap) : (match a with | [v0, v1, v2] => pred_Orient.r @bdI (callA C n) n v0 v1 v2 H | a => E C n 167 [] (argsA 0 a) H (kR C 167)) = E C n 167 [] (argsA 0 a) H (kR C 167) := by
  split
  · exact pred_Orient.r_e n _ _ _ H
  · rfl
theorem pred_Orient.rf_e (n : Nat) (a : List V) (H : Heap) : pred_Orient.rf @bdI (callA C n) n a H = callA C (n + 1) 167 a H := by
  unfold pred_Orient.rf
  refine (congrArg (pureA a H) (funext fun a => pred_Orient.rf_b n a ⟨0, .nil⟩)).trans ?_
  kernel_rfl
noncomputable def mesh_third.r (bd : B3) (call : FuncId → List V → Heap → Option R) (n : Nat) (v0 : V) (H : Heap) : Option R :=
 (bd (arA .rem v0 (.int .i64 3)) fun t4_1 =>
 (bd (arA .add t4_1 (.int .i64 3)) fun t5_2 =>
 (bd (arA .rem t5_2 (.int .i64 3)) fun t6_3 =>
 (some (t6_3, H)))))
theorem mesh_third.r_e (n : Nat) (v0 : V) (H : Heap) : mesh_third.r @bdI (callA C n) n v0 H = E C n 168 [] (argsA 0 [v0]) H (kR C 168) := by
  unfold mesh_third.r
  kernel_rfl
noncomputable def mesh_third.rf (bd : B3) (call : FuncId → List V → Heap → Option R) (n : Nat) (a : List V) (H : Heap) : Option R := pureA a H fun a => (match a with | [v0] => mesh_third.r bd call n v0 ⟨0, .nil⟩ | a => E C n 168 [] (argsA 0 a) ⟨0, .nil⟩ (kR C 168))
theorem mesh_third.rf_b (n : Nat) (a : List V) (H : Heap) : (match a with | [v0] => mesh_third.r @bdI (callA C n) n v0 H | a => E C n 168 [] (argsA 0 a) H (kR C 168)) = E C n 168 [] (argsA 0 a) H (kR C 168) := by
  split
  · exact mesh_third.r_e n _ H
  · rfl
theorem mesh_third.rf_e (n : Nat) (a : List V) (H : Heap) : mesh_third.rf @bdI (callA C n) n a H = callA C (n + 1) 168 a H := by
  unfold mesh_third.rf
  refine (congrArg (pureA a H) (funext fun a => mesh_third.rf_b n a ⟨0, .nil⟩)).trans ?_
  kernel_rfl
noncomputable def lift_Less.r (bd : B3) (call : FuncId → List V → Heap → Option R) (n : Nat) (v0 v1 : V) (H : Heap) : Option R :=
 (bd (boxA ty_api_Off v0) fun o1 =>
 (bd (boxA ty_api_Off v1) fun o2 =>
 (bd (faA 0 (.ptr (some (H.n, 0)))) fun t5_3 =>
 (bd (ld1 t5_3 (((H.push o1).push o2).push (.cells [(.int .i64 0), (.int .i64 0)] ty_api_Off false))) fun t6_4 =>
 (bd (faA 0 (.ptr (some ((H.push o1).n, 0)))) fun t7_5 =>
 (bd (ld1 t7_5 (((H.push o1).push o2).push (.cells [(.int .i64 0), (.int .i64 0)] ty_api_Off false))) fun t8_6 =>
 (bd (arA .sub t6_4 t8_6) fun t9_7 =>
 (bd (faA 1 (.ptr (some (H.n, 0)))) fun t10_8 =>
 (bd (ld1 t10_8 (((H.push o1).push o2).push (.cells [(.int .i64 0), (.int .i64 0)] ty_api_Off false))) fun t11_9 =>
 (bd (faA 1 (.ptr (some ((H.push o1).n, 0)))) fun t12_10 =>
 (bd (ld1 t12_10 (((H.push o1).push o2).push (.cells [(.int .i64 0), (.int .i64 0)] ty_api_Off false))) fun t13_11 =>
 (bd (arA .sub t11_9 t13_11) fun t14_12 =>
 (bd (flA [(0, 1), (1, 1)] [(.int .i64 0), (.int .i64 0)] [(0, t9_7), (1, t14_12)]) fun t15_13 =>
 (bd (stA 2 (.ptr (some (((H.push o1).push o2).n, 0))) t15_13 (((H.push o1).push o2).push (.cells [(.int .i64 0), (.int .i64 0)] ty_api_Off false))) fun H14 =>
 (bd (ldN 2 (.ptr (some (((H.push o1).push o2).n, 0))) H14) fun t15 =>
 (some (t15, H14)))))))))))))))))
theorem lift_Less.r_e (n : Nat) (v0 v1 : V) (H : Heap) : lift_Less.r @bdI (callA C n) n v0 v1 H = E C n 169 [] (argsA 0 [v0, v1]) H (kR C 169) := by
  unfold lift_Less.r
  kernel_rfl
noncomputable def lift_Less.rf (bd : B3) (call : FuncId → List V → Heap → Option R) (n : Nat) (a : List V) (H : Heap) : Option R := pureA a H fun a => (match a with | [v0, v1] => lift_Less.r bd call n v0 v1 ⟨0, .nil⟩ | a => E C n 169 [] (argsA 0 a) ⟨0, .nil⟩ (kR C 169))
theorem lift_Less.rf_b (n : Nat) (a : List V) (H : Heap) : (match a with | [v0, v1] => lift_Less.r @bdI (callA C n) n v0 v1 H | a => E C n 169 [] (argsA 0 a) H (kR C 169)) = E C n 169 [] (argsA 0 a) H (kR C 169) := by
  split
  · exact lift_Less.r_e n _ _ H
  · rfl
theorem lift_Less.rf_e (n : Nat) (a : List V) (H : Heap) : lift_Less.rf @bdI (callA C n) n a H = callA C (n + 1) 169 a H := by
  unfold lift_Less.rf
  refine (congrArg (pureA a H) (funext fun a => lift_Less.rf_b n a ⟨0, .nil⟩)).trans ?_
  kernel_rfl
@[irreducible] noncomputable def slices_Index_int_int.l0 (n m0 : Nat) (v0 v1 v7 v8 : V) (H : Heap) : Option R := Lp C n 170 [1, 0, 1, 0, 0] m0 [(0, v0), (1, v1), (7, v7), (8, v8)] H (kB 0 (kC C n 170 [1, 1] (kR C 170)))
noncomputable def slices_Index_int_int.r_l0 (bd : B3) (call : FuncId → List V → Heap → Option R) (n : Nat) (s0 : V → V → V → V → Heap → Option R) (v0 v1 v7 v8 : V) (H : Heap) : Option R :=
 (bd (arA .lss v8 v7) fun t9_1 =>
 (bd (asB t9_1) fun b2 =>
 if b2 = true then
 (bd (idxS 1 v0 v8) fun t14_3 =>
 (bd (ld1 t14_3 H) fun t15_4 =>
 (bd (arA .eql v1 t15_4) fun t16_5 =>
 (bd (asB t16_5) fun b6 =>
 if b6 = true then
 (some (v8, H))
 else
 (bd (arA .add v8 (.int .i64 1)) fun t18_7 =>
 (s0 v0 v1 v7 t18_7 H))))))
 else
 (some ((.int .i64 (-1)), H))))
theorem slices_Index_int_int.r_l0_e (n m0 : Nat) : slices_Index_int_int.r_l0 @bdI (callA C n) n (slices_Index_int_int.l0 n m0) = slices_Index_int_int.l0 n (m0 + 1) := by
  funext v0 v1 v7 v8 H
  unfold slices_Index_int_int.r_l0
  kernel_rfl
noncomputable def slices_Index_int_int.r_l0_lp (bd : B3) (call : FuncId → List V → Heap → Option R) (n : Nat) (m : Nat) : V → V → V → V → Heap → Option R := Nat.rec (motive := fun _ => V → V → V → V → Heap → Option R) (fun _ _ _ _ _ => none) (fun _ self => slices_Index_int_int.r_l0 bd call n self) m
theorem slices_Index_int_int.r_l0_lp_e (n : Nat) : slices_Index_int_int.r_l0_lp @bdI (callA C n) n = slices_Index_int_int.l0 n := by
  funext m
  induction m with
  | zero => funext v0 v1 v7 v8 H; kernel_rfl
  | succ k ih => exact (congrArg (slices_Index_int_int.r_l0 @bdI (callA C n) n) ih).trans (slices_Index_int_int.r_l0_e n k)
noncomputable def slices_Index_int_int.r (bd : B3) (call : FuncId → List V → Heap → Option R) (n : Nat) (v0 v1 : V) (H : Heap) : Option R :=
 (bd (lenSl v0) fun t7_1 =>
 (slices_Index_int_int.r_l0_lp bd call n n v0 v1 t7_1 (.int .i64 0) H))
theorem slices_Index_int_int.r_e (n : Nat) (v0 v1 : V) (H : Heap) : slices_Index_int_int.r @bdI (callA C n) n v0 v1 H = E C n 170 [] (argsA 0 [v0, v1]) H (kR C 170) := by
  unfold slices_Index_int_int.r
  rewrite [slices_Index_int_int.r_l0_lp_e]
  kernel_rfl
noncomputable def slices_Index_int_int.rf (bd : B3) (call : FuncId → List V → Heap → Option R) (n : Nat) (a : List V) (H : Heap) : Option R := (match a with | [v0, v1] => slices_Index_int_int.r bd call n v0 v1 H | a => E C n 170 [] (argsA 0 a) H (kR C 170))
theorem slices_Index_int_int.rf_b (n : Nat) (a : List V) (H : Heap) : (match a with | [v0, v1] => slices_Index_int_int.r @bdI (callA C n) n v0 v1 H | a => E C n 170 [] (argsA 0 a) H (kR C 170)) = E C n 170 [] (argsA 0 a) H (kR C 170) := by
  split
  · exact slices_Index_int_int.r_e n _ _ H
  · rfl
theorem slices_Index_int_int.rf_e (n : Nat) (a : List V) (H : Heap) : slices_Index_int_int.rf @bdI (callA C n) n a H = callA C (n + 1) 170 a H := by
  unfold slices_Index_int_int.rf
  refine (slices_Index_int_int.rf_b n a H).trans ?_
  kernel_rfl
noncomputable def cover_part.r (bd : B3) (call : FuncId → List V → Heap → Option R) (n : Nat) (v0 : V) (H : Heap) : Option R :=
 (bd (arA .quo v0 (.int .i64 3)) fun t7_1 =>
 (bd (arA .rem v0 (.int .i64 3)) fun t9_2 =>
 (bd (arA .lss t9_2 (.int .i64 0)) fun t11_3 =>
 (bd (asB t11_3) fun b4 =>
 if b4 = true then
 (bd (arA .sub t7_1 (.int .i64 1)) fun t13_5 =>
 (bd (arA .add t9_2 (.int .i64 3)) fun t15_6 =>
 (some (.tuple [t15_6, t13_5], H))))
 else
 (some (.tuple [t9_2, t7_1], H))))))
theorem cover_part.r_e (n : Nat) (v0 : V) (H : Heap) : cover_part.r @bdI (callA C n) n v0 H = E C n 171 [] (argsA 0 [v0]) H (kR C 171) := by
  unfold cover_part.r
  kernel_rfl
noncomputable def cover_part.rf (bd : B3) (call : FuncId → List V → Heap → Option R) (n : Nat) (a : List V) (H : Heap) : Option R := pureA a H fun a => (match a with | [v0] => cover_part.r bd call n v0 ⟨0, .nil⟩ | a => E C n 171 [] (argsA 0 a) ⟨0, .nil⟩ (kR C 171))
theorem cover_part.rf_b (n : Nat) (a : List V) (H : Heap) : (match a with | [v0] => cover_part.r @bdI (callA C n) n v0 H | a => E C n 171 [] (argsA 0 a) H (kR C 171)) = E C n 171 [] (argsA 0 a) H (kR C 171) := by
  split
  · exact cover_part.r_e n _ H
  · rfl
theorem cover_part.rf_e (n : Nat) (a : List V) (H : Heap) : cover_part.rf @bdI (callA C n) n a H = callA C (n + 1) 171 a H := by
  unfold cover_part.rf
  refine (congrArg (pureA a H) (funext fun a => cover_part.rf_b n a ⟨0, .nil⟩)).trans ?_
  kernel_rfl
noncomputable def lift_part.r (bd : B3) (call : FuncId → List V → Heap → Option R) (n : Nat) (v0 v1 : V) (H : Heap) : Option R :=
 (bd (arA .quo v0 v1) fun t10_1 =>
 (bd (arA .rem v0 v1) fun t13_2 =>
 (bd (arA .lss t13_2 (.int .i64 0)) fun t15_3 =>
 (bd (asB t15_3) fun b4 =>
 if b4 = true then
 (bd (arA .sub t10_1 (.int .i64 1)) fun t17_5 =>
 (bd (arA .add t13_2 v1) fun t20_6 =>
 (some (.tuple [t20_6, t17_5], (H.more 0)))))
 else
 (some (.tuple [t13_2, t10_1], (H.more 0)))))))
theorem lift_part.r_e (n : Nat) (v0 v1 : V) (H : Heap) : lift_part.r @bdI (callA C n) n v0 v1 H = E C n 174 [] (argsA 0 [v0, v1]) H (kR C 174) := by
  unfold lift_part.r
  kernel_rfl
noncomputable def lift_part.rf (bd : B3) (call : FuncId → List V → Heap → Option R) (n : Nat) (a : List V) (H : Heap) : Option R := pureA a H fun a => (match a with | [v0, v1] => lift_part.r bd call n v0 v1 ⟨0, .nil⟩ | a => E C n 174 [] (argsA 0 a) ⟨0, .nil⟩ (kR C 174))
theorem lift_part.rf_b (n : Nat) (a : List V) (H : Heap) : (match a with | [v0, v1] => lift_part.r @bdI (callA C n) n v0 v1 H | a => E C n 174 [] (argsA 0 a) H (kR C 174)) = E C n 174 [] (argsA 0 a) H (kR C 174) := by
  split
  · exact lift_part.r_e n _ _ H
  · rfl
theorem lift_part.rf_e (n : Nat) (a : List V) (H : Heap) : lift_part.rf @bdI (callA C n) n a H = callA C (n + 1) 174 a H := by
  unfold lift_part.rf
  refine (congrArg (pureA a H) (funext fun a => lift_part.rf_b n a ⟨0, .nil⟩)).trans ?_
  kernel_rfl
noncomputable def mesh_Mesh_face.r (bd : B3) (call : FuncId → List V → Heap → Option R) (n : Nat) (v0 v1 : V) (H : Heap) : Option R :=
 (bd (neqA P ty_p_mesh_Mesh v0 (.ptr none)) fun t6_1 =>
 (bd (asB t6_1) fun b2 =>
 if b2 = true then
 (bd (nilC v0) fun t9_3 =>
 (bd (faA 2 t9_3) fun t10_4 =>
 (bd (ld1 t10_4 H) fun t11_5 =>
 (bd (call 165 [t11_5, v1] H) fun r6 =>
 (some (r6.1, r6.2))))))
 else
 (some ((.bool false), H))))
theorem mesh_Mesh_face.r_e (n : Nat) (v0 v1 : V) (H : Heap) : mesh_Mesh_face.r @bdI (callA C n) n v0 v1 H = E C n 175 [] (argsA 0 [v0, v1]) H (kR C 175) := by
  unfold mesh_Mesh_face.r
  kernel_rfl
noncomputable def mesh_Mesh_face.rf (bd : B3) (call : FuncId → List V → Heap → Option R) (n : Nat) (a : List V) (H : Heap) : Option R := (match a with | [v0, v1] => mesh_Mesh_face.r bd call n v0 v1 H | a => E C n 175 [] (argsA 0 a) H (kR C 175))
theorem mesh_Mesh_face.rf_b (n : Nat) (a : List V) (H : Heap) : (match a with | [v0, v1] => mesh_Mesh_face.r @bdI (callA C n) n v0 v1 H | a => E C n 175 [] (argsA 0 a) H (kR C 175)) = E C n 175 [] (argsA 0 a) H (kR C 175) := by
  split
  · exact mesh_Mesh_face.r_e n _ _ H
  · rfl
theorem mesh_Mesh_face.rf_e (n : Nat) (a : List V) (H : Heap) : mesh_Mesh_face.rf @bdI (callA C n) n a H = callA C (n + 1) 175 a H := by
  unfold mesh_Mesh_face.rf
  refine (mesh_Mesh_face.rf_b n a H).trans ?_
  kernel_rfl
noncomputable def lift_within.r (bd : B3) (call : FuncId → List V → Heap → Option R) (n : Nat) (v0 : V) (H : Heap) : Option R :=
 (bd (arA .geq v0 (.int .i64 (-1099511627776))) fun t4_1 =>
 (bd (asB t4_1) fun b2 =>
 if b2 = true then
 (bd (arA .leq v0 (.int .i64 1099511627776)) fun t7_3 =>
 (some (t7_3, H)))
 else
 (some ((.bool false), H))))
theorem lift_within.r_e (n : Nat) (v0 : V) (H : Heap) : lift_within.r @bdI (callA C n) n v0 H = E C n 191 [] (argsA 0 [v0]) H (kR C 191) := by
  unfold lift_within.r
  kernel_rfl
noncomputable def lift_within.rf (bd : B3) (call : FuncId → List V → Heap → Option R) (n : Nat) (a : List V) (H : Heap) : Option R := pureA a H fun a => (match a with | [v0] => lift_within.r bd call n v0 ⟨0, .nil⟩ | a => E C n 191 [] (argsA 0 a) ⟨0, .nil⟩ (kR C 191))
theorem lift_within.rf_b (n : Nat) (a : List V) (H : Heap) : (match a with | [v0] => lift_within.r @bdI (callA C n) n v0 H | a => E C n 191 [] (argsA 0 a) H (kR C 191)) = E C n 191 [] (argsA 0 a) H (kR C 191) := by
  split
  · exact lift_within.r_e n _ H
  · rfl
theorem lift_within.rf_e (n : Nat) (a : List V) (H : Heap) : lift_within.rf @bdI (callA C n) n a H = callA C (n + 1) 191 a H := by
  unfold lift_within.rf
  refine (congrArg (pureA a H) (funext fun a => lift_within.rf_b n a ⟨0, .nil⟩)).trans ?_
  kernel_rfl
@[irreducible] noncomputable def wide_Mul.p0 (n : Nat) (v0 v1 v4 v5 v6 : V) (H : Heap) : Option R := E C n 212 [1, 1, 1] [(0, v0), (1, v1), (4, v4), (5, v5), (6, v6)] H (kR C 212)
noncomputable def wide_Mul.r_p0 (bd : B3) (call : FuncId → List V → Heap → Option R) (n : Nat) (v0 v1 v4 v5 v6 : V) (H : Heap) : Option R :=
 (bd (arA .lss v1 (.int .i64 0)) fun t22_1 =>
 (bd (asB t22_1) fun b2 =>
 if b2 = true then
 (bd (cvInt .u64 v0) fun t25_3 =>
 (bd (arA .sub v5 t25_3) fun t26_4 =>
 (bd (cvInt .i64 t26_4) fun t28_5 =>
 (bd (flA [(0, 1), (1, 1)] [(.int .i64 0), (.int .u64 0)] [(0, t28_5), (1, v6)]) fun t30_6 =>
 (bd (stA 2 v4 t30_6 H) fun H7 =>
 (bd (ldN 2 v4 H7) fun t8 =>
 (some (t8, H7))))))))
 else
 (bd (cvInt .i64 v5) fun t28_9 =>
 (bd (flA [(0, 1), (1, 1)] [(.int .i64 0), (.int .u64 0)] [(0, t28_9), (1, v6)]) fun t30_10 =>
 (bd (stA 2 v4 t30_10 H) fun H11 =>
 (bd (ldN 2 v4 H11) fun t12 =>
 (some (t12, H11))))))))
theorem wide_Mul.r_p0_e (n : Nat) : wide_Mul.r_p0 @bdI (callA C n) n = wide_Mul.p0 n := by
  funext v0 v1 v4 v5 v6 H
  unfold wide_Mul.r_p0
  kernel_rfl
noncomputable def wide_Mul.r (bd : B3) (call : FuncId → List V → Heap → Option R) (n : Nat) (v0 v1 : V) (H : Heap) : Option R :=
 (bd (cvInt .u64 v0) fun t9_1 =>
 (bd (cvInt .u64 v1) fun t11_2 =>
 (bd (call 266 [t9_1, t11_2] (H.push (.cells [(.int .i64 0), (.int .u64 0)] ty_api_Wide false))) fun r3 =>
 (bd (extA r3.1 0) fun t13_4 =>
 (bd (extA r3.1 1) fun t14_5 =>
 (bd (arA .lss v0 (.int .i64 0)) fun t16_6 =>
 (bd (asB t16_6) fun b7 =>
 if b7 = true then
 (bd (cvInt .u64 v1) fun t19_8 =>
 (bd (arA .sub t13_4 t19_8) fun t20_9 =>
 (wide_Mul.r_p0 bd call n v0 v1 (.ptr (some (H.n, 0))) t20_9 t14_5 r3.2)))
 else
 (wide_Mul.r_p0 bd call n v0 v1 (.ptr (some (H.n, 0))) t13_4 t14_5 r3.2))))))))
theorem wide_Mul.r_e (n : Nat) (v0 v1 : V) (H : Heap) : wide_Mul.r @bdI (callA C n) n v0 v1 H = E C n 212 [] (argsA 0 [v0, v1]) H (kR C 212) := by
  unfold wide_Mul.r
  rewrite [wide_Mul.r_p0_e]
  kernel_rfl
noncomputable def wide_Mul.rf (bd : B3) (call : FuncId → List V → Heap → Option R) (n : Nat) (a : List V) (H : Heap) : Option R := pureA a H fun a => (match a with | [v0, v1] => wide_Mul.r bd call n v0 v1 ⟨0, .nil⟩ | a => E C n 212 [] (argsA 0 a) ⟨0, .nil⟩ (kR C 212))
theorem wide_Mul.rf_b (n : Nat) (a : List V) (H : Heap) : (match a with | [v0, v1] => wide_Mul.r @bdI (callA C n) n v0 v1 H | a => E C n 212 [] (argsA 0 a) H (kR C 212)) = E C n 212 [] (argsA 0 a) H (kR C 212) := by
  split
  · exact wide_Mul.r_e n _ _ H
  · rfl
theorem wide_Mul.rf_e (n : Nat) (a : List V) (H : Heap) : wide_Mul.rf @bdI (callA C n) n a H = callA C (n + 1) 212 a H := by
  unfold wide_Mul.rf
  refine (congrArg (pureA a H) (funext fun a => wide_Mul.rf_b n a ⟨0, .nil⟩)).trans ?_
  kernel_rfl
noncomputable def lift_Can.r (bd : B3) (call : FuncId → List V → Heap → Option R) (n : Nat) (v0 : V) (H : Heap) : Option R :=
 (bd (boxA ty_api_Point v0) fun o1 =>
 (bd (ldN 2 (.ptr (some (H.n, 0))) (H.push o1)) fun t3_2 =>
 (bd (call 134 [t3_2] (H.push o1)) fun r3 =>
 (some (r3.1, r3.2)))))
theorem lift_Can.r_e (n : Nat) (v0 : V) (H : Heap) : lift_Can.r @bdI (callA C n) n v0 H = E C n 221 [] (argsA 0 [v0]) H (kR C 221) := by
  unfold lift_Can.r
  kernel_rfl
noncomputable def lift_Can.rf (bd : B3) (call : FuncId → List V → Heap → Option R) (n : Nat) (a : List V) (H : Heap) : Option R := pureA a H fun a => (match a with | [v0] => lift_Can.r bd call n v0 ⟨0, .nil⟩ | a => E C n 221 [] (argsA 0 a) ⟨0, .nil⟩ (kR C 221))
theorem lift_Can.rf_b (n : Nat) (a : List V) (H : Heap) : (match a with | [v0] => lift_Can.r @bdI (callA C n) n v0 H | a => E C n 221 [] (argsA 0 a) H (kR C 221)) = E C n 221 [] (argsA 0 a) H (kR C 221) := by
  split
  · exact lift_Can.r_e n _ H
  · rfl
theorem lift_Can.rf_e (n : Nat) (a : List V) (H : Heap) : lift_Can.rf @bdI (callA C n) n a H = callA C (n + 1) 221 a H := by
  unfold lift_Can.rf
  refine (congrArg (pureA a H) (funext fun a => lift_Can.rf_b n a ⟨0, .nil⟩)).trans ?_
  kernel_rfl
@[irreducible] noncomputable def pred_can.l0 (n m0 : Nat) (v5 v6 v7 : V) (H : Heap) : Option R := Lp C n 229 [1, 0, 1, 0, 0] m0 [(5, v5), (6, v6), (7, v7)] H (kB 0 (kC C n 229 [1, 1] (kR C 229)))
noncomputable def pred_can.r_l0 (bd : B3) (call : FuncId → List V → Heap → Option R) (n : Nat) (s0 : V → V → V → Heap → Option R) (v5 v6 v7 : V) (H : Heap) : Option R :=
 (bd (arA .lss v7 v6) fun t8_1 =>
 (bd (asB t8_1) fun b2 =>
 if b2 = true then
 (bd (idxS 2 v5 v7) fun t9_3 =>
 (bd (ldN 2 t9_3 H) fun t10_4 =>
 (bd (stA 2 (.ptr (some (H.n, 0))) t10_4 (H.push (.cells [(.int .i64 0), (.int .i64 0)] ty_api_Point false))) fun H5 =>
 (bd (ldN 2 (.ptr (some (H.n, 0))) H5) fun t11_6 =>
 (bd (call 221 [t11_6] H5) fun r7 =>
 (bd (unA .not r7.1) fun t13_8 =>
 (bd (asB t13_8) fun b9 =>
 if b9 = true then
 (some ((.bool false), r7.2))
 else
 (bd (arA .add v7 (.int .i64 1)) fun t14_10 =>
 (s0 v5 v6 t14_10 r7.2)))))))))
 else
 (some ((.bool true), H))))
theorem pred_can.r_l0_e (n m0 : Nat) : pred_can.r_l0 @bdI (callA C n) n (pred_can.l0 n m0) = pred_can.l0 n (m0 + 1) := by
  funext v5 v6 v7 H
  unfold pred_can.r_l0
  kernel_rfl
noncomputable def pred_can.r_l0_lp (bd : B3) (call : FuncId → List V → Heap → Option R) (n : Nat) (m : Nat) : V → V → V → Heap → Option R := Nat.rec (motive := fun _ => V → V → V → Heap → Option R) (fun _ _ _ _ => none) (fun _ self => pred_can.r_l0 bd call n self) m
theorem pred_can.r_l0_lp_e (n : Nat) : pred_can.r_l0_lp @bdI (callA C n) n = pred_can.l0 n := by
  funext m
  induction m with
  | zero => funext v5 v6 v7 H; kernel_rfl
  | succ k ih => exact (congrArg (pred_can.r_l0 @bdI (callA C n) n) ih).trans (pred_can.r_l0_e n k)
noncomputable def pred_can.r (bd : B3) (call : FuncId → List V → Heap → Option R) (n : Nat) (v0 : V) (H : Heap) : Option R :=
 (bd (lenSl v0) fun t6_1 =>
 (pred_can.r_l0_lp bd call n n v0 t6_1 (.int .i64 0) H))
theorem pred_can.r_e (n : Nat) (v0 : V) (H : Heap) : pred_can.r @bdI (callA C n) n v0 H = E C n 229 [] (argsA 0 [v0]) H (kR C 229) := by
  unfold pred_can.r
  rewrite [pred_can.r_l0_lp_e]
  kernel_rfl
noncomputable def pred_can.rf (bd : B3) (call : FuncId → List V → Heap → Option R) (n : Nat) (a : List V) (H : Heap) : Option R := pureA a H fun a => (match a with | [v0] => pred_can.r bd call n v0 ⟨0, .nil⟩ | a => E C n 229 [] (argsA 0 a) ⟨0, .nil⟩ (kR C 229))
theorem pred_can.rf_b (n : Nat) (a : List V) (H : Heap) : (match a with | [v0] => pred_can.r @bdI (callA C n) n v0 H | a => E C n 229 [] (argsA 0 a) H (kR C 229)) = E C n 229 [] (argsA 0 a) H (kR C 229) := by
  split
  · exact pred_can.r_e n _ H
  · rfl
theorem pred_can.rf_e (n : Nat) (a : List V) (H : Heap) : pred_can.rf @bdI (callA C n) n a H = callA C (n + 1) 229 a H := by
  unfold pred_can.rf
  refine (congrArg (pureA a H) (funext fun a => pred_can.rf_b n a ⟨0, .nil⟩)).trans ?_
  kernel_rfl
noncomputable def pred_orient.r (bd : B3) (call : FuncId → List V → Heap → Option R) (n : Nat) (v0 v1 v2 : V) (H : Heap) : Option R :=
 (bd (boxA ty_api_Point v0) fun o1 =>
 (bd (boxA ty_api_Point v1) fun o2 =>
 (bd (boxA ty_api_Point v2) fun o3 =>
 (bd (ldN 2 (.ptr (some (H.n, 0))) ((((H.push o1).push o2).push o3).more 0)) fun t7_4 =>
 (bd (ldN 2 (.ptr (some ((H.push o1).n, 0))) ((((H.push o1).push o2).push o3).more 0)) fun t8_5 =>
 (bd (call 264 [t7_4, t8_5] ((((H.push o1).push o2).push o3).more 0)) fun r6 =>
 (bd (ldN 2 (.ptr (some (H.n, 0))) r6.2) fun t10_7 =>
 (bd (chk (ldN 2 (.ptr (some (H.n, 0))) ((((H.push o1).push o2).push o3).more 0)) t10_7) fun _ =>
 (bd (ldN 2 (.ptr (some (((H.push o1).push o2).n, 0))) r6.2) fun t11_8 =>
 (bd (chk (ldN 2 (.ptr (some (((H.push o1).push o2).n, 0))) ((((H.push o1).push o2).push o3).more 0)) t11_8) fun _ =>
 (bd (call 264 [t10_7, t11_8] r6.2) fun r9 =>
 (bd (call 263 [r6.1, r9.1] r9.2) fun r10 =>
 (bd (call 279 [r10.1] r10.2) fun r11 =>
 (some (r11.1, r11.2)))))))))))))))
theorem pred_orient.r_e (n : Nat) (v0 v1 v2 : V) (H : Heap) : pred_orient.r @bdI (callA C n) n v0 v1 v2 H = E C n 230 [] (argsA 0 [v0, v1, v2]) H (kR C 230) := by
  unfold pred_orient.r
  kernel_rfl
noncomputable def pred_orient.rf (bd : B3) (call : FuncId → List V → Heap → Option R) (n : Nat) (a : List V) (H : Heap) : Option R := pureA a H fun a => (match a with | [v0, v1, v2] => pred_orient.r bd call n v0 v1 v2 ⟨0, .nil⟩ | a => E C n 230 [] (argsA 0 a) ⟨0, .nil⟩ (kR C 230))
theorem pred_orient.rf_b (n : Nat) (a : List V) (H : Heap) : (match a with | [v0, v1, v2] => pred_orient.r @bdI (callA C n) n v0 v1 v2 H | a => E C n 230 [] (argsA 0 a) H (kR C 230)) = E C n 230 [] (argsA 0 a) H (kR C 230) := by
  split
  · exact pred_orient.r_e n _ _ _ H
  · rfl
theorem pred_orient.rf_e (n : Nat) (a : List V) (H : Heap) : pred_orient.rf @bdI (callA C n) n a H = callA C (n + 1) 230 a H := by
  unfold pred_orient.rf
  refine (congrArg (pureA a H) (funext fun a => pred_orient.rf_b n a ⟨0, .nil⟩)).trans ?_
  kernel_rfl
noncomputable def pred_across.r (bd : B3) (call : FuncId → List V → Heap → Option R) (n : Nat) (v0 v1 : V) (H : Heap) : Option R :=
 (bd (boxA ty_api_Point v0) fun o1 =>
 (bd (boxA ty_api_Point v1) fun o2 =>
 (bd (faA 0 (.ptr (some (H.n, 0)))) fun t5_3 =>
 (bd (ld1 t5_3 ((((H.push o1).push o2).push (.cells [(.int .i64 0), (.int .u64 0)] ty_api_Wide false)).more 0)) fun t6_4 =>
 (bd (faA 1 (.ptr (some ((H.push o1).n, 0)))) fun t7_5 =>
 (bd (ld1 t7_5 ((((H.push o1).push o2).push (.cells [(.int .i64 0), (.int .u64 0)] ty_api_Wide false)).more 0)) fun t8_6 =>
 (bd (call 212 [t6_4, t8_6] ((((H.push o1).push o2).push (.cells [(.int .i64 0), (.int .u64 0)] ty_api_Wide false)).more 0)) fun r7 =>
 (bd (faA 1 (.ptr (some (H.n, 0)))) fun t10_8 =>
 (bd (ld1 t10_8 r7.2) fun t11_9 =>
 (bd (chk (ld1 t10_8 ((((H.push o1).push o2).push (.cells [(.int .i64 0), (.int .u64 0)] ty_api_Wide false)).more 0)) t11_9) fun _ =>
 (bd (faA 0 (.ptr (some ((H.push o1).n, 0)))) fun t12_10 =>
 (bd (ld1 t12_10 r7.2) fun t13_11 =>
 (bd (chk (ld1 t12_10 ((((H.push o1).push o2).push (.cells [(.int .i64 0), (.int .u64 0)] ty_api_Wide false)).more 0)) t13_11) fun _ =>
 (bd (call 212 [t11_9, t13_11] r7.2) fun r12 =>
 (bd (call 319 [r7.1, r12.1] r12.2) fun r13 =>
 (bd (stA 2 (.ptr (some (((H.push o1).push o2).n, 0))) r13.1 r13.2) fun H14 =>
 (bd (ldN 2 (.ptr (some (((H.push o1).push o2).n, 0))) H14) fun t15 =>
 (some (t15, H14)))))))))))))))))))
theorem pred_across.r_e (n : Nat) (v0 v1 : V) (H : Heap) : pred_across.r @bdI (callA C n) n v0 v1 H = E C n 263 [] (argsA 0 [v0, v1]) H (kR C 263) := by
  unfold pred_across.r
  kernel_rfl
noncomputable def pred_across.rf (bd : B3) (call : FuncId → List V → Heap → Option R) (n : Nat) (a : List V) (H : Heap) : Option R := pureA a H fun a => (match a with | [v0, v1] => pred_across.r bd call n v0 v1 ⟨0, .nil⟩ | a => E C n 263 [] (argsA 0 a) ⟨0, .nil⟩ (kR C 263))
theorem pred_across.rf_b (n : Nat) (a : List V) (H : Heap) : (match a with | [v0, v1] => pred_across.r @bdI (callA C n) n v0 v1 H | a => E C n 263 [] (argsA 0 a) H (kR C 263)) = E C n 263 [] (argsA 0 a) H (kR C 263) := by
  split
  · exact pred_across.r_e n _ _ H
  · rfl
theorem pred_across.rf_e (n : Nat) (a : List V) (H : Heap) : pred_across.rf @bdI (callA C n) n a H = callA C (n + 1) 263 a H := by
  unfold pred_across.rf
  refine (congrArg (pureA a H) (funext fun a => pred_across.rf_b n a ⟨0, .nil⟩)).trans ?_
  kernel_rfl
noncomputable def pred_way.r (bd : B3) (call : FuncId → List V → Heap → Option R) (n : Nat) (v0 v1 : V) (H : Heap) : Option R :=
 (bd (boxA ty_api_Point v0) fun o1 =>
 (bd (boxA ty_api_Point v1) fun o2 =>
 (bd (faA 0 (.ptr (some ((H.push o1).n, 0)))) fun t5_3 =>
 (bd (ld1 t5_3 (((H.push o1).push o2).push (.cells [(.int .i64 0), (.int .i64 0)] ty_api_Point false))) fun t6_4 =>
 (bd (faA 0 (.ptr (some (H.n, 0)))) fun t7_5 =>
 (bd (ld1 t7_5 (((H.push o1).push o2).push (.cells [(.int .i64 0), (.int .i64 0)] ty_api_Point false))) fun t8_6 =>
 (bd (arA .sub t6_4 t8_6) fun t9_7 =>
 (bd (faA 1 (.ptr (some ((H.push o1).n, 0)))) fun t10_8 =>
 (bd (ld1 t10_8 (((H.push o1).push o2).push (.cells [(.int .i64 0), (.int .i64 0)] ty_api_Point false))) fun t11_9 =>
 (bd (faA 1 (.ptr (some (H.n, 0)))) fun t12_10 =>
 (bd (ld1 t12_10 (((H.push o1).push o2).push (.cells [(.int .i64 0), (.int .i64 0)] ty_api_Point false))) fun t13_11 =>
 (bd (arA .sub t11_9 t13_11) fun t14_12 =>
 (bd (flA [(0, 1), (1, 1)] [(.int .i64 0), (.int .i64 0)] [(0, t9_7), (1, t14_12)]) fun t15_13 =>
 (bd (stA 2 (.ptr (some (((H.push o1).push o2).n, 0))) t15_13 (((H.push o1).push o2).push (.cells [(.int .i64 0), (.int .i64 0)] ty_api_Point false))) fun H14 =>
 (bd (ldN 2 (.ptr (some (((H.push o1).push o2).n, 0))) H14) fun t15 =>
 (some (t15, H14)))))))))))))))))
theorem pred_way.r_e (n : Nat) (v0 v1 : V) (H : Heap) : pred_way.r @bdI (callA C n) n v0 v1 H = E C n 264 [] (argsA 0 [v0, v1]) H (kR C 264) := by
  unfold pred_way.r
  kernel_rfl
noncomputable def pred_way.rf (bd : B3) (call : FuncId → List V → Heap → Option R) (n : Nat) (a : List V) (H : Heap) : Option R := pureA a H fun a => (match a with | [v0, v1] => pred_way.r bd call n v0 v1 ⟨0, .nil⟩ | a => E C n 264 [] (argsA 0 a) ⟨0, .nil⟩ (kR C 264))
theorem pred_way.rf_b (n : Nat) (a : List V) (H : Heap) : (match a with | [v0, v1] => pred_way.r @bdI (callA C n) n v0 v1 H | a => E C n 264 [] (argsA 0 a) H (kR C 264)) = E C n 264 [] (argsA 0 a) H (kR C 264) := by
  split
  · exact pred_way.r_e n _ _ H
  · rfl
theorem pred_way.rf_e (n : Nat) (a : List V) (H : Heap) : pred_way.rf @bdI (callA C n) n a H = callA C (n + 1) 264 a H := by
  unfold pred_way.rf
  refine (congrArg (pureA a H) (funext fun a => pred_way.rf_b n a ⟨0, .nil⟩)).trans ?_
  kernel_rfl
noncomputable def math_bits_Mul64.r (bd : B3) (call : FuncId → List V → Heap → Option R) (n : Nat) (v0 v1 : V) (H : Heap) : Option R :=
 (bd (arA .and v0 (.int .u64 4294967295)) fun t15_1 =>
 (bd (shA .shr v0 (.int .u64 32)) fun t17_2 =>
 (bd (arA .and v1 (.int .u64 4294967295)) fun t19_3 =>
 (bd (shA .shr v1 (.int .u64 32)) fun t21_4 =>
 (bd (arA .mul t15_1 t19_3) fun t24_5 =>
 (bd (arA .mul t17_2 t19_3) fun t27_6 =>
 (bd (shA .shr t24_5 (.int .u64 32)) fun t29_7 =>
 (bd (arA .add t27_6 t29_7) fun t30_8 =>
 (bd (arA .and t30_8 (.int .u64 4294967295)) fun t32_9 =>
 (bd (shA .shr t30_8 (.int .u64 32)) fun t34_10 =>
 (bd (arA .mul t15_1 t21_4) fun t38_11 =>
 (bd (arA .add t32_9 t38_11) fun t39_12 =>
 (bd (arA .mul t17_2 t21_4) fun t42_13 =>
 (bd (arA .add t42_13 t34_10) fun t44_14 =>
 (bd (shA .shr t39_12 (.int .u64 32)) fun t46_15 =>
 (bd (arA .add t44_14 t46_15) fun t47_16 =>
 (bd (arA .mul v0 v1) fun t50_17 =>
 (some (.tuple [t47_16, t50_17], H)))))))))))))))))))
theorem math_bits_Mul64.r_e (n : Nat) (v0 v1 : V) (H : Heap) : math_bits_Mul64.r @bdI (callA C n) n v0 v1 H = E C n 266 [] (argsA 0 [v0, v1]) H (kR C 266) := by
  unfold math_bits_Mul64.r
  kernel_rfl
noncomputable def math_bits_Mul64.rf (bd : B3) (call : FuncId → List V → Heap → Option R) (n : Nat) (a : List V) (H : Heap) : Option R := (match a with | [v0, v1] => math_bits_Mul64.r bd call n v0 v1 H | a => E C n 266 [] (argsA 0 a) H (kR C 266))
theorem math_bits_Mul64.rf_b (n : Nat) (a : List V) (H : Heap) : (match a with | [v0, v1] => math_bits_Mul64.r @bdI (callA C n) n v0 v1 H | a => E C n 266 [] (argsA 0 a) H (kR C 266)) = E C n 266 [] (argsA 0 a) H (kR C 266) := by
  split
  · exact math_bits_Mul64.r_e n _ _ H
  · rfl
theorem math_bits_Mul64.rf_e (n : Nat) (a : List V) (H : Heap) : math_bits_Mul64.rf @bdI (callA C n) n a H = callA C (n + 1) 266 a H := by
  unfold math_bits_Mul64.rf
  refine (math_bits_Mul64.rf_b n a H).trans ?_
  kernel_rfl
noncomputable def wide_Sign.r (bd : B3) (call : FuncId → List V → Heap → Option R) (n : Nat) (v0 : V) (H : Heap) : Option R :=
 (bd (boxA ty_api_Wide v0) fun o1 =>
 (bd (ldN 2 (.ptr (some (H.n, 0))) (H.push o1)) fun t3_2 =>
 (bd (call 333 [t3_2] (H.push o1)) fun r3 =>
 (some (r3.1, r3.2)))))
theorem wide_Sign.r_e (n : Nat) (v0 : V) (H : Heap) : wide_Sign.r @bdI (callA C n) n v0 H = E C n 279 [] (argsA 0 [v0]) H (kR C 279) := by
  unfold wide_Sign.r
  kernel_rfl
noncomputable def wide_Sign.rf (bd : B3) (call : FuncId → List V → Heap → Option R) (n : Nat) (a : List V) (H : Heap) : Option R := pureA a H fun a => (match a with | [v0] => wide_Sign.r bd call n v0 ⟨0, .nil⟩ | a => E C n 279 [] (argsA 0 a) ⟨0, .nil⟩ (kR C 279))
theorem wide_Sign.rf_b (n : Nat) (a : List V) (H : Heap) : (match a with | [v0] => wide_Sign.r @bdI (callA C n) n v0 H | a => E C n 279 [] (argsA 0 a) H (kR C 279)) = E C n 279 [] (argsA 0 a) H (kR C 279) := by
  split
  · exact wide_Sign.r_e n _ H
  · rfl
theorem wide_Sign.rf_e (n : Nat) (a : List V) (H : Heap) : wide_Sign.rf @bdI (callA C n) n a H = callA C (n + 1) 279 a H := by
  unfold wide_Sign.rf
  refine (congrArg (pureA a H) (funext fun a => wide_Sign.rf_b n a ⟨0, .nil⟩)).trans ?_
  kernel_rfl
noncomputable def wide_Sub.r (bd : B3) (call : FuncId → List V → Heap → Option R) (n : Nat) (v0 v1 : V) (H : Heap) : Option R :=
 (bd (boxA ty_api_Wide v0) fun o1 =>
 (bd (boxA ty_api_Wide v1) fun o2 =>
 (bd (ldN 2 (.ptr (some (H.n, 0))) (((H.push o1).push o2).push (.cells [(.int .i64 0), (.int .u64 0)] ty_api_Wide false))) fun t5_3 =>
 (bd (ldN 2 (.ptr (some ((H.push o1).n, 0))) (((H.push o1).push o2).push (.cells [(.int .i64 0), (.int .u64 0)] ty_api_Wide false))) fun t6_4 =>
 (bd (call 363 [t5_3, t6_4] (((H.push o1).push o2).push (.cells [(.int .i64 0), (.int .u64 0)] ty_api_Wide false))) fun r5 =>
 (bd (stA 2 (.ptr (some (((H.push o1).push o2).n, 0))) r5.1 r5.2) fun H6 =>
 (bd (ldN 2 (.ptr (some (((H.push o1).push o2).n, 0))) H6) fun t7 =>
 (some (t7, H6)))))))))
theorem wide_Sub.r_e (n : Nat) (v0 v1 : V) (H : Heap) : wide_Sub.r @bdI (callA C n) n v0 v1 H = E C n 319 [] (argsA 0 [v0, v1]) H (kR C 319) := by
  unfold wide_Sub.r
  kernel_rfl
noncomputable def wide_Sub.rf (bd : B3) (call : FuncId → List V → Heap → Option R) (n : Nat) (a : List V) (H : Heap) : Option R := pureA a H fun a => (match a with | [v0, v1] => wide_Sub.r bd call n v0 v1 ⟨0, .nil⟩ | a => E C n 319 [] (argsA 0 a) ⟨0, .nil⟩ (kR C 319))
theorem wide_Sub.rf_b (n : Nat) (a : List V) (H : Heap) : (match a with | [v0, v1] => wide_Sub.r @bdI (callA C n) n v0 v1 H | a => E C n 319 [] (argsA 0 a) H (kR C 319)) = E C n 319 [] (argsA 0 a) H (kR C 319) := by
  split
  · exact wide_Sub.r_e n _ _ H
  · rfl
theorem wide_Sub.rf_e (n : Nat) (a : List V) (H : Heap) : wide_Sub.rf @bdI (callA C n) n a H = callA C (n + 1) 319 a H := by
  unfold wide_Sub.rf
  refine (congrArg (pureA a H) (funext fun a => wide_Sub.rf_b n a ⟨0, .nil⟩)).trans ?_
  kernel_rfl
noncomputable def wide_sign.r (bd : B3) (call : FuncId → List V → Heap → Option R) (n : Nat) (v0 : V) (H : Heap) : Option R :=
 (bd (boxA ty_api_Wide v0) fun o1 =>
 (bd (faA 0 (.ptr (some (H.n, 0)))) fun t4_2 =>
 (bd (ld1 t4_2 (H.push o1)) fun t5_3 =>
 (bd (arA .lss t5_3 (.int .i64 0)) fun t6_4 =>
 (bd (asB t6_4) fun b5 =>
 if b5 = true then
 (some ((.int .i64 (-1)), (H.push o1)))
 else
 (bd (faA 0 (.ptr (some (H.n, 0)))) fun t8_6 =>
 (bd (ld1 t8_6 (H.push o1)) fun t9_7 =>
 (bd (arA .eql t9_7 (.int .i64 0)) fun t10_8 =>
 (bd (asB t10_8) fun b9 =>
 if b9 = true then
 (bd (faA 1 (.ptr (some (H.n, 0)))) fun t12_10 =>
 (bd (ld1 t12_10 (H.push o1)) fun t13_11 =>
 (bd (arA .eql t13_11 (.int .u64 0)) fun t14_12 =>
 (bd (asB t14_12) fun b13 =>
 if b13 = true then
 (some ((.int .i64 0), (H.push o1)))
 else
 (some ((.int .i64 1), (H.push o1)))))))
 else
 (some ((.int .i64 1), (H.push o1))))))))))))
theorem wide_sign.r_e (n : Nat) (v0 : V) (H : Heap) : wide_sign.r @bdI (callA C n) n v0 H = E C n 333 [] (argsA 0 [v0]) H (kR C 333) := by
  unfold wide_sign.r
  kernel_rfl
noncomputable def wide_sign.rf (bd : B3) (call : FuncId → List V → Heap → Option R) (n : Nat) (a : List V) (H : Heap) : Option R := pureA a H fun a => (match a with | [v0] => wide_sign.r bd call n v0 ⟨0, .nil⟩ | a => E C n 333 [] (argsA 0 a) ⟨0, .nil⟩ (kR C 333))
theorem wide_sign.rf_b (n : Nat) (a : List V) (H : Heap) : (match a with | [v0] => wide_sign.r @bdI (callA C n) n v0 H | a => E C n 333 [] (argsA 0 a) H (kR C 333)) = E C n 333 [] (argsA 0 a) H (kR C 333) := by
  split
  · exact wide_sign.r_e n _ H
  · rfl
theorem wide_sign.rf_e (n : Nat) (a : List V) (H : Heap) : wide_sign.rf @bdI (callA C n) n a H = callA C (n + 1) 333 a H := by
  unfold wide_sign.rf
  refine (congrArg (pureA a H) (funext fun a => wide_sign.rf_b n a ⟨0, .nil⟩)).trans ?_
  kernel_rfl
noncomputable def wide_sub.r (bd : B3) (call : FuncId → List V → Heap → Option R) (n : Nat) (v0 v1 : V) (H : Heap) : Option R :=
 (bd (boxA ty_api_Wide v0) fun o1 =>
 (bd (boxA ty_api_Wide v1) fun o2 =>
 (bd (faA 1 (.ptr (some (H.n, 0)))) fun t10_3 =>
 (bd (ld1 t10_3 (((H.push o1).push o2).push (.cells [(.int .i64 0), (.int .u64 0)] ty_api_Wide false))) fun t11_4 =>
 (bd (faA 1 (.ptr (some ((H.push o1).n, 0)))) fun t12_5 =>
 (bd (ld1 t12_5 (((H.push o1).push o2).push (.cells [(.int .i64 0), (.int .u64 0)] ty_api_Wide false))) fun t13_6 =>
 (bd (call 367 [t11_4, t13_6, (.int .u64 0)] (((H.push o1).push o2).push (.cells [(.int .i64 0), (.int .u64 0)] ty_api_Wide false))) fun r7 =>
 (bd (extA r7.1 0) fun t15_8 =>
 (bd (extA r7.1 1) fun t16_9 =>
 (bd (faA 0 (.ptr (some (H.n, 0)))) fun t18_10 =>
 (bd (ld1 t18_10 r7.2) fun t19_11 =>
 (bd (cvInt .u64 t19_11) fun t20_12 =>
 (bd (faA 0 (.ptr (some ((H.push o1).n, 0)))) fun t21_13 =>
 (bd (ld1 t21_13 r7.2) fun t22_14 =>
 (bd (cvInt .u64 t22_14) fun t23_15 =>
 (bd (call 367 [t20_12, t23_15, t16_9] r7.2) fun r16 =>
 (bd (extA r16.1 0) fun t26_17 =>
 (bd (extA r16.1 1) fun t27_18 =>
 (bd (cvInt .i64 t26_17) fun t29_19 =>
 (bd (flA [(0, 1), (1, 1)] [(.int .i64 0), (.int .u64 0)] [(0, t29_19), (1, t15_8)]) fun t31_20 =>
 (bd (stA 2 (.ptr (some (((H.push o1).push o2).n, 0))) t31_20 r16.2) fun H21 =>
 (bd (ldN 2 (.ptr (some (((H.push o1).push o2).n, 0))) H21) fun t22 =>
 (some (t22, H21))))))))))))))))))))))))
theorem wide_sub.r_e (n : Nat) (v0 v1 : V) (H : Heap) : wide_sub.r @bdI (callA C n) n v0 v1 H = E C n 363 [] (argsA 0 [v0, v1]) H (kR C 363) := by
  unfold wide_sub.r
  kernel_rfl
noncomputable def wide_sub.rf (bd : B3) (call : FuncId → List V → Heap → Option R) (n : Nat) (a : List V) (H : Heap) : Option R := pureA a H fun a => (match a with | [v0, v1] => wide_sub.r bd call n v0 v1 ⟨0, .nil⟩ | a => E C n 363 [] (argsA 0 a) ⟨0, .nil⟩ (kR C 363))
theorem wide_sub.rf_b (n : Nat) (a : List V) (H : Heap) : (match a with | [v0, v1] => wide_sub.r @bdI (callA C n) n v0 v1 H | a => E C n 363 [] (argsA 0 a) H (kR C 363)) = E C n 363 [] (argsA 0 a) H (kR C 363) := by
  split
  · exact wide_sub.r_e n _ _ H
  · rfl
theorem wide_sub.rf_e (n : Nat) (a : List V) (H : Heap) : wide_sub.rf @bdI (callA C n) n a H = callA C (n + 1) 363 a H := by
  unfold wide_sub.rf
  refine (congrArg (pureA a H) (funext fun a => wide_sub.rf_b n a ⟨0, .nil⟩)).trans ?_
  kernel_rfl
end Go.AM.L
end
section
set_option linter.unusedVariables false
set_option linter.unusedSimpArgs false
namespace Go.AM.S
abbrev ty_bool : Nat := 4
abbrev ty_api_Point : Nat := 67
abbrev ty_uint32 : Nat := 108
abbrev ty_api_Wide : Nat := 307
abbrev ty_api_Nat : Nat := 377
abbrev ty_api_Int : Nat := 379
abbrev ty_api_Quad : Nat := 430
abbrev ty_2_uint64 : Nat := 480
@[simp] theorem eqlA_ty_api_Nat (s : Sl) : eqlA P ty_api_Nat (.slice s) (.slice ⟨none, 0, 0, false⟩) = some (.bool s.ad.isNone) := by rcases s with ⟨_ | a, l, z, f⟩ <;> kernel_rfl
@[simp] theorem neqA_ty_bool (a b : Bool) : neqA P ty_bool (.bool a) (.bool b) = some (.bool (!(a == b))) := by kernel_rfl
def tabList0 : List (Nat × List (Nat × List Nat)) := [(56, [(4, [0, 2]), (7, [0, 2])]),
 (134, []),
 (163, []),
 (167, []),
 (191, []),
 (207, []),
 (208, []),
 (212, [(4, [0, 1, 4, 5, 6])]),
 (221, []),
 (222, []),
 (223, []),
 (224, [])]
def tabList1 : List (Nat × List (Nat × List Nat)) := [(225, []),
 (226, []),
 (227, []),
 (228, []),
 (229, [(2, [5, 6, 7])]),
 (230, []),
 (262, []),
 (263, []),
 (264, []),
 (266, []),
 (270, []),
 (271, [(3, [1, 5, 17, 18, 19]), (7, [1, 5, 6, 7, 8, 17, 18, 19, 24, 25, 26]), (13, [1, 5, 6, 8, 17, 18, 19])])]
def tabList2 : List (Nat × List (Nat × List Nat)) := [(272, []),
 (273, []),
 (274, []),
 (275, []),
 (276, [(4, [1, 2, 3]), (6, [2, 3, 4, 13, 14]), (10, [2, 3, 4])]),
 (277, []),
 (278, [(5, [4, 5, 6, 7, 8, 9, 27]), (9, [4, 5, 6, 7, 8, 9, 10, 11, 27, 30]), (17, [4, 5, 6, 7, 8, 9, 10, 11, 27]), (19, [4, 6, 8, 9])]),
 (279, []),
 (319, []),
 (322, []),
 (323, [(1, [0])]),
 (324, [])]
def tabList3 : List (Nat × List (Nat × List Nat)) := [(325, []),
 (326, []),
 (327, [(7, [0, 1, 5])]),
 (328, []),
 (330, []),
 (331, [(4, [1, 2, 4])]),
 (333, []),
 (363, []),
 (364, []),
 (365, [])]
def tabList : List (Nat × List (Nat × List Nat)) := tabList0 ++ (tabList1 ++ (tabList2 ++ (tabList3)))
def tabs (f : FuncId) : Option (List (Nat × List Nat)) := tabList.lookup f
noncomputable def extList : List (Nat × (List V → Heap → Option R)) := [((318 : Nat), (extAdd64 : List V → Heap → Option R)),
 ((367 : Nat), (extSub64 : List V → Heap → Option R))]
noncomputable def ext (f : FuncId) : Option (List V → Heap → Option R) := extList.lookup f
def faL : List Nat := []
def frL : List Nat := [223, 224, 225, 227, 228, 270, 271, 272, 276, 322, 323]
def puL : List Nat := [134, 163, 167, 191, 207, 208, 212, 221, 222, 223, 224, 225, 226, 227, 228, 229, 230, 262, 263, 264, 270, 271, 272, 273, 274, 275, 276, 277, 278, 279, 319, 322, 323, 325, 326, 327, 328, 330, 331, 333, 363, 364, 365]
def pu (f : FuncId) : Bool := puL.contains f
def fa (f : FuncId) : Bool := faL.contains f
def fr (f : FuncId) : Bool := frL.contains f
noncomputable def C : Cfg := { P, tabs, ext, fa, fr, pu, okc := fun N c => okC P N c }
abbrev i_math_bits_Len32 : Nat := 56
abbrev i_lift_can : Nat := 134
abbrev i_circum_Small : Nat := 163
abbrev i_pred_Orient : Nat := 167
abbrev i_lift_within : Nat := 191
abbrev i_wide_Mul : Nat := 212
abbrev i_lift_Can : Nat := 221
abbrev i_pred_can : Nat := 229
abbrev i_pred_orient : Nat := 230
abbrev i_pred_across : Nat := 263
abbrev i_pred_way : Nat := 264
abbrev i_math_bits_Mul64 : Nat := 266
abbrev i_wide_Sign : Nat := 279
abbrev i_math_bits_Add64 : Nat := 318
abbrev i_wide_Sub : Nat := 319
abbrev i_wide_sign : Nat := 333
abbrev i_wide_sub : Nat := 363
abbrev i_math_bits_Sub64 : Nat := 367
@[irreducible] noncomputable def f_math_bits_Len32 (n : Nat) (args : List V) (H : Heap) : Option R := callA C n 56 args H
@[irreducible] noncomputable def f_lift_can (n : Nat) (args : List V) (H : Heap) : Option R := callA C n 134 args H
@[irreducible] noncomputable def f_circum_Small (n : Nat) (args : List V) (H : Heap) : Option R := callA C n 163 args H
@[irreducible] noncomputable def f_pred_Orient (n : Nat) (args : List V) (H : Heap) : Option R := callA C n 167 args H
@[irreducible] noncomputable def f_lift_within (n : Nat) (args : List V) (H : Heap) : Option R := callA C n 191 args H
@[irreducible] noncomputable def f_wide_Mul (n : Nat) (args : List V) (H : Heap) : Option R := callA C n 212 args H
@[irreducible] noncomputable def f_lift_Can (n : Nat) (args : List V) (H : Heap) : Option R := callA C n 221 args H
@[irreducible] noncomputable def f_pred_can (n : Nat) (args : List V) (H : Heap) : Option R := callA C n 229 args H
@[irreducible] noncomputable def f_pred_orient (n : Nat) (args : List V) (H : Heap) : Option R := callA C n 230 args H
@[irreducible] noncomputable def f_pred_across (n : Nat) (args : List V) (H : Heap) : Option R := callA C n 263 args H
@[irreducible] noncomputable def f_pred_way (n : Nat) (args : List V) (H : Heap) : Option R := callA C n 264 args H
@[irreducible] noncomputable def f_math_bits_Mul64 (n : Nat) (args : List V) (H : Heap) : Option R := callA C n 266 args H
@[irreducible] noncomputable def f_wide_Sign (n : Nat) (args : List V) (H : Heap) : Option R := callA C n 279 args H
@[irreducible] noncomputable def f_math_bits_Add64 (n : Nat) (args : List V) (H : Heap) : Option R := callA C n 318 args H
@[irreducible] noncomputable def f_wide_Sub (n : Nat) (args : List V) (H : Heap) : Option R := callA C n 319 args H
@[irreducible] noncomputable def f_wide_sign (n : Nat) (args : List V) (H : Heap) : Option R := callA C n 333 args H
@[irreducible] noncomputable def f_wide_sub (n : Nat) (args : List V) (H : Heap) : Option R := callA C n 363 args H
@[irreducible] noncomputable def f_math_bits_Sub64 (n : Nat) (args : List V) (H : Heap) : Option R := callA C n 367 args H
theorem math_bits_Add64_ext {H : Heap} {args : List V} {Q : V → Heap → Prop} (h : Tot (fun _ => (extAdd64 : List V → Heap → Option R) args H) Q) : Tot (fun n => f_math_bits_Add64 n args H) Q := Tot.fn (fun n => by unfold f_math_bits_Add64; kernel_rfl) h
theorem math_bits_Sub64_ext {H : Heap} {args : List V} {Q : V → Heap → Prop} (h : Tot (fun _ => (extSub64 : List V → Heap → Option R) args H) Q) : Tot (fun n => f_math_bits_Sub64 n args H) Q := Tot.fn (fun n => by unfold f_math_bits_Sub64; kernel_rfl) h
end Go.AM.S
end
