/- Merged by program from: NvQ2 NvQ EsB EsC EsD EsF EsG EsH EsI EsJ EsK EsL EsM EsN EsO EsP EsQ EsR EsS EsT EsU EsV EsW EsX. -/
import Derived.Test.YtmpkhfnegnlpmaaGreatX5
section
set_option linter.unusedVariables false
set_option linter.unusedSimpArgs false
set_option maxRecDepth 1000000
set_option linter.unusedVariables false
namespace Go.AM.N
@[simp] noncomputable def ref20_Tri_b (bd : B2) (n : Nat) (v0 v1 v2 : V) (H : Heap) : Option R :=
 (bd (boxA ty_ref09_Spot v0) fun o1 =>
 (bd (boxA ty_ref09_Spot v1) fun o2 =>
 (bd (boxA ty_ref09_Spot v2) fun o3 =>
 (bd (faA 0 (.ptr (some ((H.push o1).n, 0)))) fun t9_4 =>
 (bd (ldN 4 t9_4 (((((H.push o1).push o2).push o3).push (.cells [(.int .i64 0), (.slice ⟨none, 0, 0, false⟩), (.int .i64 0), (.slice ⟨none, 0, 0, false⟩)] ty_ref05_Rat false)).more 2)) fun t10_5 =>
 (bd (faA 0 (.ptr (some (H.n, 0)))) fun t11_6 =>
 (bd (ldN 4 t11_6 (((((H.push o1).push o2).push o3).push (.cells [(.int .i64 0), (.slice ⟨none, 0, 0, false⟩), (.int .i64 0), (.slice ⟨none, 0, 0, false⟩)] ty_ref05_Rat false)).more 2)) fun t12_7 =>
 (bd (f_ref05_Sub n [t10_5, t12_7] (((((H.push o1).push o2).push o3).push (.cells [(.int .i64 0), (.slice ⟨none, 0, 0, false⟩), (.int .i64 0), (.slice ⟨none, 0, 0, false⟩)] ty_ref05_Rat false)).more 2)) fun r8 =>
 (bd (faA 4 (.ptr (some (((H.push o1).push o2).n, 0)))) fun t14_9 =>
 (bd (ldN 4 t14_9 r8.2) fun t15_10 =>
 (bd (chk (ldN 4 t14_9 (((((H.push o1).push o2).push o3).push (.cells [(.int .i64 0), (.slice ⟨none, 0, 0, false⟩), (.int .i64 0), (.slice ⟨none, 0, 0, false⟩)] ty_ref05_Rat false)).more 2)) t15_10) fun _ =>
 (bd (faA 4 (.ptr (some (H.n, 0)))) fun t16_11 =>
 (bd (ldN 4 t16_11 r8.2) fun t17_12 =>
 (bd (chk (ldN 4 t16_11 (((((H.push o1).push o2).push o3).push (.cells [(.int .i64 0), (.slice ⟨none, 0, 0, false⟩), (.int .i64 0), (.slice ⟨none, 0, 0, false⟩)] ty_ref05_Rat false)).more 2)) t17_12) fun _ =>
 (bd (f_ref05_Sub n [t15_10, t17_12] r8.2) fun r13 =>
 (bd (f_ref05_Mul n [r8.1, r13.1] r13.2) fun r14 =>
 (bd (faA 4 (.ptr (some ((H.push o1).n, 0)))) fun t20_15 =>
 (bd (ldN 4 t20_15 r14.2) fun t21_16 =>
 (bd (chk (ldN 4 t20_15 r13.2) t21_16) fun _ =>
 (bd (chk (ldN 4 t20_15 r8.2) t21_16) fun _ =>
 (bd (chk (ldN 4 t20_15 (((((H.push o1).push o2).push o3).push (.cells [(.int .i64 0), (.slice ⟨none, 0, 0, false⟩), (.int .i64 0), (.slice ⟨none, 0, 0, false⟩)] ty_ref05_Rat false)).more 2)) t21_16) fun _ =>
 (bd (faA 4 (.ptr (some (H.n, 0)))) fun t22_17 =>
 (bd (ldN 4 t22_17 r14.2) fun t23_18 =>
 (bd (chk (ldN 4 t22_17 r13.2) t23_18) fun _ =>
 (bd (chk (ldN 4 t22_17 r8.2) t23_18) fun _ =>
 (bd (chk (ldN 4 t22_17 (((((H.push o1).push o2).push o3).push (.cells [(.int .i64 0), (.slice ⟨none, 0, 0, false⟩), (.int .i64 0), (.slice ⟨none, 0, 0, false⟩)] ty_ref05_Rat false)).more 2)) t23_18) fun _ =>
 (bd (f_ref05_Sub n [t21_16, t23_18] r14.2) fun r19 =>
 (bd (faA 0 (.ptr (some (((H.push o1).push o2).n, 0)))) fun t25_20 =>
 (bd (ldN 4 t25_20 r19.2) fun t26_21 =>
 (bd (chk (ldN 4 t25_20 r14.2) t26_21) fun _ =>
 (bd (chk (ldN 4 t25_20 r13.2) t26_21) fun _ =>
 (bd (chk (ldN 4 t25_20 r8.2) t26_21) fun _ =>
 (bd (chk (ldN 4 t25_20 (((((H.push o1).push o2).push o3).push (.cells [(.int .i64 0), (.slice ⟨none, 0, 0, false⟩), (.int .i64 0), (.slice ⟨none, 0, 0, false⟩)] ty_ref05_Rat false)).more 2)) t26_21) fun _ =>
 (bd (faA 0 (.ptr (some (H.n, 0)))) fun t27_22 =>
 (bd (ldN 4 t27_22 r19.2) fun t28_23 =>
 (bd (chk (ldN 4 t27_22 r14.2) t28_23) fun _ =>
 (bd (chk (ldN 4 t27_22 r13.2) t28_23) fun _ =>
 (bd (chk (ldN 4 t27_22 r8.2) t28_23) fun _ =>
 (bd (chk (ldN 4 t27_22 (((((H.push o1).push o2).push o3).push (.cells [(.int .i64 0), (.slice ⟨none, 0, 0, false⟩), (.int .i64 0), (.slice ⟨none, 0, 0, false⟩)] ty_ref05_Rat false)).more 2)) t28_23) fun _ =>
 (bd (f_ref05_Sub n [t26_21, t28_23] r19.2) fun r24 =>
 (bd (f_ref05_Mul n [r19.1, r24.1] r24.2) fun r25 =>
 (bd (stA 4 (.ptr (some ((((((H.push o1).push o2).push o3).push (.cells [(.int .i64 0), (.slice ⟨none, 0, 0, false⟩), (.int .i64 0), (.slice ⟨none, 0, 0, false⟩)] ty_ref05_Rat false)).n + 0), 0))) r14.1 ((r25.2.set (((((H.push o1).push o2).push o3).push (.cells [(.int .i64 0), (.slice ⟨none, 0, 0, false⟩), (.int .i64 0), (.slice ⟨none, 0, 0, false⟩)] ty_ref05_Rat false)).n + 0) (.cells [(.int .i64 0), (.slice ⟨none, 0, 0, false⟩), (.int .i64 0), (.slice ⟨none, 0, 0, false⟩)] ty_ref05_Rat false)).set (((((H.push o1).push o2).push o3).push (.cells [(.int .i64 0), (.slice ⟨none, 0, 0, false⟩), (.int .i64 0), (.slice ⟨none, 0, 0, false⟩)] ty_ref05_Rat false)).n + 1) (.cells [(.int .i64 0), (.slice ⟨none, 0, 0, false⟩), (.int .i64 0), (.slice ⟨none, 0, 0, false⟩)] ty_ref05_Rat false))) fun H26 =>
 (bd (stA 4 (.ptr (some ((((((H.push o1).push o2).push o3).push (.cells [(.int .i64 0), (.slice ⟨none, 0, 0, false⟩), (.int .i64 0), (.slice ⟨none, 0, 0, false⟩)] ty_ref05_Rat false)).n + 1), 0))) r25.1 H26) fun H27 =>
 (bd (ldN 4 (.ptr (some ((((((H.push o1).push o2).push o3).push (.cells [(.int .i64 0), (.slice ⟨none, 0, 0, false⟩), (.int .i64 0), (.slice ⟨none, 0, 0, false⟩)] ty_ref05_Rat false)).n + 0), 0))) H27) fun t31_28 =>
 (bd (ldN 4 (.ptr (some ((((((H.push o1).push o2).push o3).push (.cells [(.int .i64 0), (.slice ⟨none, 0, 0, false⟩), (.int .i64 0), (.slice ⟨none, 0, 0, false⟩)] ty_ref05_Rat false)).n + 1), 0))) H27) fun t32_29 =>
 (bd (f_ref05_Sub n [t31_28, t32_29] H27) fun r30 =>
 (bd (f_ref05_Low n [r30.1] r30.2) fun r31 =>
 (bd (stA 4 (.ptr (some ((((H.push o1).push o2).push o3).n, 0))) r31.1 r31.2) fun H32 =>
 (bd (ldN 4 (.ptr (some ((((H.push o1).push o2).push o3).n, 0))) H32) fun t33 =>
 (frzR t33 H32))))))))))))))))))))))))))))))))))))))))))))))))))
theorem ref20_Tri_in (n : Nat) (a : List V) (H : Heap) : f_ref20_Tri (n + 1) a H = pureA a H (fun a => E C n 33 [] (argsA 0 a) ⟨0, .nil⟩ (kR C 33)) := by unfold f_ref20_Tri; kernel_rfl
theorem ref20_Tri_tot {v0 v1 v2 : V} {H : Heap} {Q : V → Heap → Prop} (hf : List.all [v0, v1, v2] V.fro = true) (hg : V.frees [v0, v1, v2] = true) (h : Tot (fun n => ref20_Tri_b @bnd n v0 v1 v2 E0) fun v _ => v.free = true ∧ Q v H) : Tot (fun n => f_ref20_Tri n [v0, v1, v2] H) Q := Tot.pu (k := fun n a => E C n 33 [] (argsA 0 a) ⟨0, .nil⟩ (kR C 33)) hf hg (fun n => ref20_Tri_in n _ _) (fun n => bd_bnd (fun bd => ref20_Tri_b bd n v0 v1 v2 E0) (by kernel_rfl)) h
@[irreducible] noncomputable def ref03_Nat.l0 (n m0 : Nat) (v0 v3 v4 : V) (H : Heap) : Option R := Lp C n 45 [1, 1, 0, 1, 0, 0] m0 [(0, v0), (3, v3), (4, v4)] H (kB 0 (kC C n 45 [1, 1, 1] (kR C 45)))
@[simp] noncomputable def ref03_Nat.l0_b (bd : B2) (n m0 : Nat) (v0 v3 v4 : V) (H : Heap) : Option R :=
 (bd (lenSl v0) fun t9_1 =>
 (bd (arA .lss v4 t9_1) fun t10_2 =>
 (bd (asB t10_2) fun b3 =>
 if b3 = true then
 (bd (idxS 1 v0 v4) fun t15_4 =>
 (bd (ld1 t15_4 H) fun t16_5 =>
 (bd (arA .add v4 (.int .i64 1)) fun t18_6 =>
 (bd (lenSl v0) fun t20_7 =>
 (bd (arA .lss t18_6 t20_7) fun t21_8 =>
 (bd (asB t21_8) fun b9 =>
 if b9 = true then
 (bd (arA .add v4 (.int .i64 1)) fun t25_10 =>
 (bd (idxS 1 v0 t25_10) fun t26_11 =>
 (bd (ld1 t26_11 H) fun t27_12 =>
 (bd (arA .mul (.int .i64 65536) t27_12) fun t28_13 =>
 (bd (arA .add t16_5 t28_13) fun t29_14 =>
 (bd (cvInt .u32 t29_14) fun t32_15 =>
 (bd (bSl 1 ty_uint32 [(.int .u32 0)] 1 [(0, t32_15)]) fun o16 =>
 (bd (appA 1 4 ty_uint32 v3 (.slice ⟨some (H.n, 0), 1, 1, false⟩) (H.push o16)) fun p17 =>
 (bd (arA .add v4 (.int .i64 2)) fun t12_18 =>
 (ref03_Nat.l0 n m0 v0 p17.1 t12_18 p17.2))))))))))
 else
 (bd (cvInt .u32 t16_5) fun t32_19 =>
 (bd (bSl 1 ty_uint32 [(.int .u32 0)] 1 [(0, t32_19)]) fun o20 =>
 (bd (appA 1 4 ty_uint32 v3 (.slice ⟨some (H.n, 0), 1, 1, false⟩) (H.push o20)) fun p21 =>
 (bd (arA .add v4 (.int .i64 2)) fun t12_22 =>
 (ref03_Nat.l0 n m0 v0 p21.1 t12_22 p21.2)))))))))))
 else
 (frzR v3 H))))
theorem ref03_Nat.l0_tot {m0 : Nat → Nat} {v0 v3 v4 : V} {H : Heap} {Q : V → Heap → Prop} (hb : Big m0) (h : ∀ m0', Big m0' → Tot (fun n => ref03_Nat.l0_b @bnd n (m0' n) v0 v3 v4 H) Q) : Tot (fun n => ref03_Nat.l0 n (m0 n) v0 v3 v4 H) Q :=
  Tot.loop (f := fun n k => ref03_Nat.l0 n k v0 v3 v4 H) (g := fun n k => ref03_Nat.l0_b @bnd n k v0 v3 v4 H) hb (fun n k => bd_bnd (fun bd => ref03_Nat.l0_b bd n k v0 v3 v4 H) (by kernel_rfl)) h
@[simp] noncomputable def ref03_Nat_b (bd : B2) (n : Nat) (v0 : V) (H : Heap) : Option R :=
 (bd (bSl 1 ty_uint32 [(.int .u32 0)] 0 []) fun o1 =>
 (ref03_Nat.l0 n n v0 (.slice ⟨some (H.n, 0), 0, 1, false⟩) (.int .i64 0) (H.push o1)))
theorem ref03_Nat_in (n : Nat) (a : List V) (H : Heap) : f_ref03_Nat (n + 1) a H = pureA a H (fun a => E C n 45 [] (argsA 0 a) ⟨0, .nil⟩ (kR C 45)) := by unfold f_ref03_Nat; kernel_rfl
theorem ref03_Nat_tot {v0 : V} {H : Heap} {Q : V → Heap → Prop} (hf : List.all [v0] V.fro = true) (hg : V.frees [v0] = true) (h : Tot (fun n => ref03_Nat_b @bnd n v0 E0) fun v _ => v.free = true ∧ Q v H) : Tot (fun n => f_ref03_Nat n [v0] H) Q := Tot.pu (k := fun n a => E C n 45 [] (argsA 0 a) ⟨0, .nil⟩ (kR C 45)) hf hg (fun n => ref03_Nat_in n _ _) (fun n => bd_bnd (fun bd => ref03_Nat_b bd n v0 E0) (by kernel_rfl)) h
@[simp] noncomputable def rat_Of_b (bd : B2) (n : Nat) (v0 : V) (H : Heap) : Option R :=
 (bd (f_whole_Of n [v0] (H.push (.cells [(.bool false), (.slice ⟨none, 0, 0, false⟩), (.slice ⟨none, 0, 0, false⟩)] ty_api_Rat false))) fun r1 =>
 (bd (bSl 1 ty_uint32 [(.int .u32 0)] 1 [(0, (.int .u32 1))]) fun o2 =>
 (bd (flA [(0, 2), (2, 1)] [(.bool false), (.slice ⟨none, 0, 0, false⟩), (.slice ⟨none, 0, 0, false⟩)] [(0, r1.1), (1, (.slice ⟨some (r1.2.n, 0), 1, 1, false⟩))]) fun t6_3 =>
 (bd (stA 3 (.ptr (some (H.n, 0))) t6_3 (r1.2.push o2)) fun H4 =>
 (bd (ldN 3 (.ptr (some (H.n, 0))) H4) fun t5 =>
 (frzR t5 H4))))))
theorem rat_Of_in (n : Nat) (a : List V) (H : Heap) : f_rat_Of (n + 1) a H = pureA a H (fun a => E C n 46 [] (argsA 0 a) ⟨0, .nil⟩ (kR C 46)) := by unfold f_rat_Of; kernel_rfl
theorem rat_Of_tot {v0 : V} {H : Heap} {Q : V → Heap → Prop} (hf : List.all [v0] V.fro = true) (hg : V.frees [v0] = true) (h : Tot (fun n => rat_Of_b @bnd n v0 E0) fun v _ => v.free = true ∧ Q v H) : Tot (fun n => f_rat_Of n [v0] H) Q := Tot.pu (k := fun n a => E C n 46 [] (argsA 0 a) ⟨0, .nil⟩ (kR C 46)) hf hg (fun n => rat_Of_in n _ _) (fun n => bd_bnd (fun bd => rat_Of_b bd n v0 E0) (by kernel_rfl)) h
@[simp] noncomputable def rat_Add_b (bd : B2) (n : Nat) (v0 v1 : V) (H : Heap) : Option R :=
 (bd (boxA ty_api_Rat v0) fun o1 =>
 (bd (boxA ty_api_Rat v1) fun o2 =>
 (bd (ldN 3 (.ptr (some (H.n, 0))) ((((H.push o1).push o2).push (.cells [(.bool false), (.slice ⟨none, 0, 0, false⟩), (.slice ⟨none, 0, 0, false⟩)] ty_api_Rat false)).more 0)) fun t5_3 =>
 (bd (f_rat_norm n [t5_3] ((((H.push o1).push o2).push (.cells [(.bool false), (.slice ⟨none, 0, 0, false⟩), (.slice ⟨none, 0, 0, false⟩)] ty_api_Rat false)).more 0)) fun r4 =>
 (bd (ldN 3 (.ptr (some ((H.push o1).n, 0))) r4.2) fun t7_5 =>
 (bd (chk (ldN 3 (.ptr (some ((H.push o1).n, 0))) ((((H.push o1).push o2).push (.cells [(.bool false), (.slice ⟨none, 0, 0, false⟩), (.slice ⟨none, 0, 0, false⟩)] ty_api_Rat false)).more 0)) t7_5) fun _ =>
 (bd (f_rat_norm n [t7_5] r4.2) fun r6 =>
 (bd (f_rat_add n [r4.1, r6.1] r6.2) fun r7 =>
 (bd (stA 3 (.ptr (some (((H.push o1).push o2).n, 0))) r7.1 r7.2) fun H8 =>
 (bd (ldN 3 (.ptr (some (((H.push o1).push o2).n, 0))) H8) fun t9 =>
 (frzR t9 H8)))))))))))
theorem rat_Add_in (n : Nat) (a : List V) (H : Heap) : f_rat_Add (n + 1) a H = pureA a H (fun a => E C n 47 [] (argsA 0 a) ⟨0, .nil⟩ (kR C 47)) := by unfold f_rat_Add; kernel_rfl
theorem rat_Add_tot {v0 v1 : V} {H : Heap} {Q : V → Heap → Prop} (hf : List.all [v0, v1] V.fro = true) (hg : V.frees [v0, v1] = true) (h : Tot (fun n => rat_Add_b @bnd n v0 v1 E0) fun v _ => v.free = true ∧ Q v H) : Tot (fun n => f_rat_Add n [v0, v1] H) Q := Tot.pu (k := fun n a => E C n 47 [] (argsA 0 a) ⟨0, .nil⟩ (kR C 47)) hf hg (fun n => rat_Add_in n _ _) (fun n => bd_bnd (fun bd => rat_Add_b bd n v0 v1 E0) (by kernel_rfl)) h
@[simp] noncomputable def energy_part_b (bd : B2) (n : Nat) (v0 v1 : V) (H : Heap) : Option R :=
 (bd (boxA ty_api_Spot v0) fun o1 =>
 (bd (boxA ty_api_Spot v1) fun o2 =>
 (bd (faA 0 (.ptr (some (H.n, 0)))) fun t8_3 =>
 (bd (ldN 3 t8_3 ((((H.push o1).push o2).push (.cells [(.bool false), (.slice ⟨none, 0, 0, false⟩), (.slice ⟨none, 0, 0, false⟩)] ty_api_Rat false)).more 1)) fun t9_4 =>
 (bd (faA 3 (.ptr (some ((H.push o1).n, 0)))) fun t10_5 =>
 (bd (ldN 3 t10_5 ((((H.push o1).push o2).push (.cells [(.bool false), (.slice ⟨none, 0, 0, false⟩), (.slice ⟨none, 0, 0, false⟩)] ty_api_Rat false)).more 1)) fun t11_6 =>
 (bd (f_rat_Mul n [t9_4, t11_6] ((((H.push o1).push o2).push (.cells [(.bool false), (.slice ⟨none, 0, 0, false⟩), (.slice ⟨none, 0, 0, false⟩)] ty_api_Rat false)).more 1)) fun r7 =>
 (bd (faA 3 (.ptr (some (H.n, 0)))) fun t13_8 =>
 (bd (ldN 3 t13_8 r7.2) fun t14_9 =>
 (bd (chk (ldN 3 t13_8 ((((H.push o1).push o2).push (.cells [(.bool false), (.slice ⟨none, 0, 0, false⟩), (.slice ⟨none, 0, 0, false⟩)] ty_api_Rat false)).more 1)) t14_9) fun _ =>
 (bd (faA 0 (.ptr (some ((H.push o1).n, 0)))) fun t15_10 =>
 (bd (ldN 3 t15_10 r7.2) fun t16_11 =>
 (bd (chk (ldN 3 t15_10 ((((H.push o1).push o2).push (.cells [(.bool false), (.slice ⟨none, 0, 0, false⟩), (.slice ⟨none, 0, 0, false⟩)] ty_api_Rat false)).more 1)) t16_11) fun _ =>
 (bd (f_rat_Mul n [t14_9, t16_11] r7.2) fun r12 =>
 (bd (f_rat_Sub n [r7.1, r12.1] r12.2) fun r13 =>
 (bd (stA 3 (.ptr (some (((((H.push o1).push o2).push (.cells [(.bool false), (.slice ⟨none, 0, 0, false⟩), (.slice ⟨none, 0, 0, false⟩)] ty_api_Rat false)).n + 0), 0))) r13.1 (r13.2.set ((((H.push o1).push o2).push (.cells [(.bool false), (.slice ⟨none, 0, 0, false⟩), (.slice ⟨none, 0, 0, false⟩)] ty_api_Rat false)).n + 0) (.cells [(.bool false), (.slice ⟨none, 0, 0, false⟩), (.slice ⟨none, 0, 0, false⟩)] ty_api_Rat false))) fun H14 =>
 (bd (faA 0 (.ptr (some (H.n, 0)))) fun t19_15 =>
 (bd (ldN 3 t19_15 (H14.more 2)) fun t20_16 =>
 (bd (faA 0 (.ptr (some (H.n, 0)))) fun t21_17 =>
 (bd (ldN 3 t21_17 (H14.more 2)) fun t22_18 =>
 (bd (f_rat_Mul n [t20_16, t22_18] (H14.more 2)) fun r19 =>
 (bd (faA 0 (.ptr (some (H.n, 0)))) fun t24_20 =>
 (bd (ldN 3 t24_20 r19.2) fun t25_21 =>
 (bd (chk (ldN 3 t24_20 (H14.more 2)) t25_21) fun _ =>
 (bd (faA 0 (.ptr (some ((H.push o1).n, 0)))) fun t26_22 =>
 (bd (ldN 3 t26_22 r19.2) fun t27_23 =>
 (bd (chk (ldN 3 t26_22 (H14.more 2)) t27_23) fun _ =>
 (bd (f_rat_Mul n [t25_21, t27_23] r19.2) fun r24 =>
 (bd (faA 0 (.ptr (some ((H.push o1).n, 0)))) fun t29_25 =>
 (bd (ldN 3 t29_25 r24.2) fun t30_26 =>
 (bd (chk (ldN 3 t29_25 r19.2) t30_26) fun _ =>
 (bd (chk (ldN 3 t29_25 (H14.more 2)) t30_26) fun _ =>
 (bd (faA 0 (.ptr (some ((H.push o1).n, 0)))) fun t31_27 =>
 (bd (ldN 3 t31_27 r24.2) fun t32_28 =>
 (bd (chk (ldN 3 t31_27 r19.2) t32_28) fun _ =>
 (bd (chk (ldN 3 t31_27 (H14.more 2)) t32_28) fun _ =>
 (bd (f_rat_Mul n [t30_26, t32_28] r24.2) fun r29 =>
 (bd (bSl 3 ty_api_Rat [(.bool false), (.slice ⟨none, 0, 0, false⟩), (.slice ⟨none, 0, 0, false⟩)] 3 [(0, r19.1), (1, r24.1), (2, r29.1)]) fun o30 =>
 (bd (f_energy_sum n [(.slice ⟨some ((H14.n + 0), 0), 3, 3, false⟩)] (r29.2.set (H14.n + 0) o30)) fun r31 =>
 (bd (stA 3 (.ptr (some ((H14.n + 1), 0))) r31.1 (r31.2.set (H14.n + 1) (.cells [(.bool false), (.slice ⟨none, 0, 0, false⟩), (.slice ⟨none, 0, 0, false⟩)] ty_api_Rat false))) fun H32 =>
 (bd (faA 3 (.ptr (some (H.n, 0)))) fun t36_33 =>
 (bd (ldN 3 t36_33 (H32.more 2)) fun t37_34 =>
 (bd (faA 3 (.ptr (some (H.n, 0)))) fun t38_35 =>
 (bd (ldN 3 t38_35 (H32.more 2)) fun t39_36 =>
 (bd (f_rat_Mul n [t37_34, t39_36] (H32.more 2)) fun r37 =>
 (bd (faA 3 (.ptr (some (H.n, 0)))) fun t41_38 =>
 (bd (ldN 3 t41_38 r37.2) fun t42_39 =>
 (bd (chk (ldN 3 t41_38 (H32.more 2)) t42_39) fun _ =>
 (bd (faA 3 (.ptr (some ((H.push o1).n, 0)))) fun t43_40 =>
 (bd (ldN 3 t43_40 r37.2) fun t44_41 =>
 (bd (chk (ldN 3 t43_40 (H32.more 2)) t44_41) fun _ =>
 (bd (f_rat_Mul n [t42_39, t44_41] r37.2) fun r42 =>
 (bd (faA 3 (.ptr (some ((H.push o1).n, 0)))) fun t46_43 =>
 (bd (ldN 3 t46_43 r42.2) fun t47_44 =>
 (bd (chk (ldN 3 t46_43 r37.2) t47_44) fun _ =>
 (bd (chk (ldN 3 t46_43 (H32.more 2)) t47_44) fun _ =>
 (bd (faA 3 (.ptr (some ((H.push o1).n, 0)))) fun t48_45 =>
 (bd (ldN 3 t48_45 r42.2) fun t49_46 =>
 (bd (chk (ldN 3 t48_45 r37.2) t49_46) fun _ =>
 (bd (chk (ldN 3 t48_45 (H32.more 2)) t49_46) fun _ =>
 (bd (f_rat_Mul n [t47_44, t49_46] r42.2) fun r47 =>
 (bd (bSl 3 ty_api_Rat [(.bool false), (.slice ⟨none, 0, 0, false⟩), (.slice ⟨none, 0, 0, false⟩)] 3 [(0, r37.1), (1, r42.1), (2, r47.1)]) fun o48 =>
 (bd (f_energy_sum n [(.slice ⟨some ((H32.n + 0), 0), 3, 3, false⟩)] (r47.2.set (H32.n + 0) o48)) fun r49 =>
 (bd (stA 3 (.ptr (some ((H32.n + 1), 0))) r49.1 (r49.2.set (H32.n + 1) (.cells [(.bool false), (.slice ⟨none, 0, 0, false⟩), (.slice ⟨none, 0, 0, false⟩)] ty_api_Rat false))) fun H50 =>
 (bd (ldN 3 (.ptr (some ((H14.n + 1), 0))) (H50.more 0)) fun t54_51 =>
 (bd (ldN 3 (.ptr (some ((H32.n + 1), 0))) (H50.more 0)) fun t55_52 =>
 (bd (f_rat_Add n [t54_51, t55_52] (H50.more 0)) fun r53 =>
 (bd (ldN 3 (.ptr (some (((((H.push o1).push o2).push (.cells [(.bool false), (.slice ⟨none, 0, 0, false⟩), (.slice ⟨none, 0, 0, false⟩)] ty_api_Rat false)).n + 0), 0))) r53.2) fun t53_54 =>
 (bd (chk (ldN 3 (.ptr (some (((((H.push o1).push o2).push (.cells [(.bool false), (.slice ⟨none, 0, 0, false⟩), (.slice ⟨none, 0, 0, false⟩)] ty_api_Rat false)).n + 0), 0))) (H50.more 0)) t53_54) fun _ =>
 (bd (f_rat_Mul n [t53_54, r53.1] r53.2) fun r55 =>
 (bd (stA 3 (.ptr (some (((H.push o1).push o2).n, 0))) r55.1 r55.2) fun H56 =>
 (bd (ldN 3 (.ptr (some (((H.push o1).push o2).n, 0))) H56) fun t57 =>
 (frzR t57 H56)))))))))))))))))))))))))))))))))))))))))))))))))))))))))))))))))))))))))
theorem energy_part_in (n : Nat) (a : List V) (H : Heap) : f_energy_part (n + 1) a H = pureA a H (fun a => E C n 48 [] (argsA 0 a) ⟨0, .nil⟩ (kR C 48)) := by unfold f_energy_part; kernel_rfl
theorem energy_part_tot {v0 v1 : V} {H : Heap} {Q : V → Heap → Prop} (hf : List.all [v0, v1] V.fro = true) (hg : V.frees [v0, v1] = true) (h : Tot (fun n => energy_part_b @bnd n v0 v1 E0) fun v _ => v.free = true ∧ Q v H) : Tot (fun n => f_energy_part n [v0, v1] H) Q := Tot.pu (k := fun n a => E C n 48 [] (argsA 0 a) ⟨0, .nil⟩ (kR C 48)) hf hg (fun n => energy_part_in n _ _) (fun n => bd_bnd (fun bd => energy_part_b bd n v0 v1 E0) (by kernel_rfl)) h
@[simp] noncomputable def energy_seen_b (bd : B2) (n : Nat) (v0 v1 : V) (H : Heap) : Option R :=
 (bd (boxA ty_api_Spot v0) fun o1 =>
 (bd (boxA ty_api_Spot v1) fun o2 =>
 (bd (faA 0 (.ptr (some (H.n, 0)))) fun t5_3 =>
 (bd (ldN 3 t5_3 ((((H.push o1).push o2).push (.cells [(.bool false), (.slice ⟨none, 0, 0, false⟩), (.slice ⟨none, 0, 0, false⟩), (.bool false), (.slice ⟨none, 0, 0, false⟩), (.slice ⟨none, 0, 0, false⟩)] ty_api_Spot false)).more 0)) fun t6_4 =>
 (bd (faA 0 (.ptr (some ((H.push o1).n, 0)))) fun t7_5 =>
 (bd (ldN 3 t7_5 ((((H.push o1).push o2).push (.cells [(.bool false), (.slice ⟨none, 0, 0, false⟩), (.slice ⟨none, 0, 0, false⟩), (.bool false), (.slice ⟨none, 0, 0, false⟩), (.slice ⟨none, 0, 0, false⟩)] ty_api_Spot false)).more 0)) fun t8_6 =>
 (bd (f_rat_Sub n [t6_4, t8_6] ((((H.push o1).push o2).push (.cells [(.bool false), (.slice ⟨none, 0, 0, false⟩), (.slice ⟨none, 0, 0, false⟩), (.bool false), (.slice ⟨none, 0, 0, false⟩), (.slice ⟨none, 0, 0, false⟩)] ty_api_Spot false)).more 0)) fun r7 =>
 (bd (faA 3 (.ptr (some (H.n, 0)))) fun t10_8 =>
 (bd (ldN 3 t10_8 r7.2) fun t11_9 =>
 (bd (chk (ldN 3 t10_8 ((((H.push o1).push o2).push (.cells [(.bool false), (.slice ⟨none, 0, 0, false⟩), (.slice ⟨none, 0, 0, false⟩), (.bool false), (.slice ⟨none, 0, 0, false⟩), (.slice ⟨none, 0, 0, false⟩)] ty_api_Spot false)).more 0)) t11_9) fun _ =>
 (bd (faA 3 (.ptr (some ((H.push o1).n, 0)))) fun t12_10 =>
 (bd (ldN 3 t12_10 r7.2) fun t13_11 =>
 (bd (chk (ldN 3 t12_10 ((((H.push o1).push o2).push (.cells [(.bool false), (.slice ⟨none, 0, 0, false⟩), (.slice ⟨none, 0, 0, false⟩), (.bool false), (.slice ⟨none, 0, 0, false⟩), (.slice ⟨none, 0, 0, false⟩)] ty_api_Spot false)).more 0)) t13_11) fun _ =>
 (bd (f_rat_Sub n [t11_9, t13_11] r7.2) fun r12 =>
 (bd (flA [(0, 3), (3, 3)] [(.bool false), (.slice ⟨none, 0, 0, false⟩), (.slice ⟨none, 0, 0, false⟩), (.bool false), (.slice ⟨none, 0, 0, false⟩), (.slice ⟨none, 0, 0, false⟩)] [(0, r7.1), (1, r12.1)]) fun t15_13 =>
 (bd (stA 6 (.ptr (some (((H.push o1).push o2).n, 0))) t15_13 r12.2) fun H14 =>
 (bd (ldN 6 (.ptr (some (((H.push o1).push o2).n, 0))) H14) fun t15 =>
 (frzR t15 H14))))))))))))))))))
theorem energy_seen_in (n : Nat) (a : List V) (H : Heap) : f_energy_seen (n + 1) a H = pureA a H (fun a => E C n 49 [] (argsA 0 a) ⟨0, .nil⟩ (kR C 49)) := by unfold f_energy_seen; kernel_rfl
theorem energy_seen_tot {v0 v1 : V} {H : Heap} {Q : V → Heap → Prop} (hf : List.all [v0, v1] V.fro = true) (hg : V.frees [v0, v1] = true) (h : Tot (fun n => energy_seen_b @bnd n v0 v1 E0) fun v _ => v.free = true ∧ Q v H) : Tot (fun n => f_energy_seen n [v0, v1] H) Q := Tot.pu (k := fun n a => E C n 49 [] (argsA 0 a) ⟨0, .nil⟩ (kR C 49)) hf hg (fun n => energy_seen_in n _ _) (fun n => bd_bnd (fun bd => energy_seen_b bd n v0 v1 E0) (by kernel_rfl)) h
@[simp] noncomputable def rat_add_b (bd : B2) (n : Nat) (v0 v1 : V) (H : Heap) : Option R :=
 (bd (boxA ty_api_Rat v0) fun o1 =>
 (bd (boxA ty_api_Rat v1) fun o2 =>
 (bd (ldN 3 (.ptr (some (H.n, 0))) ((((H.push o1).push o2).push (.cells [(.bool false), (.slice ⟨none, 0, 0, false⟩), (.slice ⟨none, 0, 0, false⟩)] ty_api_Rat false)).more 0)) fun t5_3 =>
 (bd (ldN 3 (.ptr (some ((H.push o1).n, 0))) ((((H.push o1).push o2).push (.cells [(.bool false), (.slice ⟨none, 0, 0, false⟩), (.slice ⟨none, 0, 0, false⟩)] ty_api_Rat false)).more 0)) fun t6_4 =>
 (bd (f_rat_cross n [t5_3, t6_4] ((((H.push o1).push o2).push (.cells [(.bool false), (.slice ⟨none, 0, 0, false⟩), (.slice ⟨none, 0, 0, false⟩)] ty_api_Rat false)).more 0)) fun r5 =>
 (bd (ldN 3 (.ptr (some ((H.push o1).n, 0))) r5.2) fun t8_6 =>
 (bd (chk (ldN 3 (.ptr (some ((H.push o1).n, 0))) ((((H.push o1).push o2).push (.cells [(.bool false), (.slice ⟨none, 0, 0, false⟩), (.slice ⟨none, 0, 0, false⟩)] ty_api_Rat false)).more 0)) t8_6) fun _ =>
 (bd (ldN 3 (.ptr (some (H.n, 0))) r5.2) fun t9_7 =>
 (bd (chk (ldN 3 (.ptr (some (H.n, 0))) ((((H.push o1).push o2).push (.cells [(.bool false), (.slice ⟨none, 0, 0, false⟩), (.slice ⟨none, 0, 0, false⟩)] ty_api_Rat false)).more 0)) t9_7) fun _ =>
 (bd (f_rat_cross n [t8_6, t9_7] r5.2) fun r8 =>
 (bd (f_whole_Add n [r5.1, r8.1] r8.2) fun r9 =>
 (bd (faA 2 (.ptr (some (H.n, 0)))) fun t12_10 =>
 (bd (ld1 t12_10 r9.2) fun t13_11 =>
 (bd (chk (ld1 t12_10 r8.2) t13_11) fun _ =>
 (bd (chk (ld1 t12_10 r5.2) t13_11) fun _ =>
 (bd (chk (ld1 t12_10 ((((H.push o1).push o2).push (.cells [(.bool false), (.slice ⟨none, 0, 0, false⟩), (.slice ⟨none, 0, 0, false⟩)] ty_api_Rat false)).more 0)) t13_11) fun _ =>
 (bd (faA 2 (.ptr (some ((H.push o1).n, 0)))) fun t14_12 =>
 (bd (ld1 t14_12 r9.2) fun t15_13 =>
 (bd (chk (ld1 t14_12 r8.2) t15_13) fun _ =>
 (bd (chk (ld1 t14_12 r5.2) t15_13) fun _ =>
 (bd (chk (ld1 t14_12 ((((H.push o1).push o2).push (.cells [(.bool false), (.slice ⟨none, 0, 0, false⟩), (.slice ⟨none, 0, 0, false⟩)] ty_api_Rat false)).more 0)) t15_13) fun _ =>
 (bd (f_nat_Mul n [t13_11, t15_13] r9.2) fun r14 =>
 (bd (f_rat_lowest n [r9.1, r14.1] r14.2) fun r15 =>
 (bd (stA 3 (.ptr (some (((H.push o1).push o2).n, 0))) r15.1 r15.2) fun H16 =>
 (bd (ldN 3 (.ptr (some (((H.push o1).push o2).n, 0))) H16) fun t17 =>
 (frzR t17 H16))))))))))))))))))))))))))
theorem rat_add_in (n : Nat) (a : List V) (H : Heap) : f_rat_add (n + 1) a H = pureA a H (fun a => E C n 66 [] (argsA 0 a) ⟨0, .nil⟩ (kR C 66)) := by unfold f_rat_add; kernel_rfl
theorem rat_add_tot {v0 v1 : V} {H : Heap} {Q : V → Heap → Prop} (hf : List.all [v0, v1] V.fro = true) (hg : V.frees [v0, v1] = true) (h : Tot (fun n => rat_add_b @bnd n v0 v1 E0) fun v _ => v.free = true ∧ Q v H) : Tot (fun n => f_rat_add n [v0, v1] H) Q := Tot.pu (k := fun n a => E C n 66 [] (argsA 0 a) ⟨0, .nil⟩ (kR C 66)) hf hg (fun n => rat_add_in n _ _) (fun n => bd_bnd (fun bd => rat_add_b bd n v0 v1 E0) (by kernel_rfl)) h
@[simp] noncomputable def rat_Sub_b (bd : B2) (n : Nat) (v0 v1 : V) (H : Heap) : Option R :=
 (bd (boxA ty_api_Rat v0) fun o1 =>
 (bd (boxA ty_api_Rat v1) fun o2 =>
 (bd (ldN 3 (.ptr (some (H.n, 0))) ((((H.push o1).push o2).push (.cells [(.bool false), (.slice ⟨none, 0, 0, false⟩), (.slice ⟨none, 0, 0, false⟩)] ty_api_Rat false)).more 0)) fun t5_3 =>
 (bd (f_rat_norm n [t5_3] ((((H.push o1).push o2).push (.cells [(.bool false), (.slice ⟨none, 0, 0, false⟩), (.slice ⟨none, 0, 0, false⟩)] ty_api_Rat false)).more 0)) fun r4 =>
 (bd (ldN 3 (.ptr (some ((H.push o1).n, 0))) r4.2) fun t7_5 =>
 (bd (chk (ldN 3 (.ptr (some ((H.push o1).n, 0))) ((((H.push o1).push o2).push (.cells [(.bool false), (.slice ⟨none, 0, 0, false⟩), (.slice ⟨none, 0, 0, false⟩)] ty_api_Rat false)).more 0)) t7_5) fun _ =>
 (bd (f_rat_norm n [t7_5] r4.2) fun r6 =>
 (bd (f_rat_neg n [r6.1] r6.2) fun r7 =>
 (bd (f_rat_add n [r4.1, r7.1] r7.2) fun r8 =>
 (bd (stA 3 (.ptr (some (((H.push o1).push o2).n, 0))) r8.1 r8.2) fun H9 =>
 (bd (ldN 3 (.ptr (some (((H.push o1).push o2).n, 0))) H9) fun t10 =>
 (frzR t10 H9))))))))))))
theorem rat_Sub_in (n : Nat) (a : List V) (H : Heap) : f_rat_Sub (n + 1) a H = pureA a H (fun a => E C n 68 [] (argsA 0 a) ⟨0, .nil⟩ (kR C 68)) := by unfold f_rat_Sub; kernel_rfl
theorem rat_Sub_tot {v0 v1 : V} {H : Heap} {Q : V → Heap → Prop} (hf : List.all [v0, v1] V.fro = true) (hg : V.frees [v0, v1] = true) (h : Tot (fun n => rat_Sub_b @bnd n v0 v1 E0) fun v _ => v.free = true ∧ Q v H) : Tot (fun n => f_rat_Sub n [v0, v1] H) Q := Tot.pu (k := fun n a => E C n 68 [] (argsA 0 a) ⟨0, .nil⟩ (kR C 68)) hf hg (fun n => rat_Sub_in n _ _) (fun n => bd_bnd (fun bd => rat_Sub_b bd n v0 v1 E0) (by kernel_rfl)) h
@[irreducible] noncomputable def energy_sum.l0 (n m0 : Nat) (v2 v3 v7 v8 v9 : V) (H : Heap) : Option R := Lp C n 70 [1, 1, 0, 1, 0, 0] m0 [(2, v2), (3, v3), (7, v7), (8, v8), (9, v9)] H (kB 0 (kC C n 70 [1, 1, 1] (kR C 70)))
@[simp] noncomputable def energy_sum.l0_b (bd : B2) (n m0 : Nat) (v2 v3 v7 v8 v9 : V) (H : Heap) : Option R :=
 (bd (arA .lss v9 v8) fun t10_1 =>
 (bd (asB t10_1) fun b2 =>
 if b2 = true then
 (bd (idxS 3 v7 v9) fun t11_3 =>
 (bd (ldN 3 t11_3 H) fun t12_4 =>
 (bd (stA 3 (.ptr (some (H.n, 0))) t12_4 (H.push (.cells [(.bool false), (.slice ⟨none, 0, 0, false⟩), (.slice ⟨none, 0, 0, false⟩)] ty_api_Rat false))) fun H5 =>
 (bd (ldN 3 v3 H5) fun t13_6 =>
 (bd (ldN 3 (.ptr (some (H.n, 0))) H5) fun t14_7 =>
 (bd (f_rat_Add n [t13_6, t14_7] H5) fun r8 =>
 (bd (stA 3 v3 r8.1 r8.2) fun H9 =>
 (bd (arA .add v9 (.int .i64 1)) fun t16_10 =>
 (energy_sum.l0 n m0 v2 v3 v7 v8 t16_10 H9)))))))))
 else
 (bd (ldN 3 v3 H) fun t17_11 =>
 (bd (stA 3 v2 t17_11 H) fun H12 =>
 (bd (ldN 3 v2 H12) fun t13 =>
 (frzR t13 H12))))))
theorem energy_sum.l0_tot {m0 : Nat → Nat} {v2 v3 v7 v8 v9 : V} {H : Heap} {Q : V → Heap → Prop} (hb : Big m0) (h : ∀ m0', Big m0' → Tot (fun n => energy_sum.l0_b @bnd n (m0' n) v2 v3 v7 v8 v9 H) Q) : Tot (fun n => energy_sum.l0 n (m0 n) v2 v3 v7 v8 v9 H) Q :=
  Tot.loop (f := fun n k => energy_sum.l0 n k v2 v3 v7 v8 v9 H) (g := fun n k => energy_sum.l0_b @bnd n k v2 v3 v7 v8 v9 H) hb (fun n k => bd_bnd (fun bd => energy_sum.l0_b bd n k v2 v3 v7 v8 v9 H) (by kernel_rfl)) h
@[simp] noncomputable def energy_sum_b (bd : B2) (n : Nat) (v0 : V) (H : Heap) : Option R :=
 (bd (f_rat_Of n [(.int .i64 0)] (H.push (.cells [(.bool false), (.slice ⟨none, 0, 0, false⟩), (.slice ⟨none, 0, 0, false⟩)] ty_api_Rat false))) fun r1 =>
 (bd (stA 3 (.ptr (some (r1.2.n, 0))) r1.1 (r1.2.push (.cells [(.bool false), (.slice ⟨none, 0, 0, false⟩), (.slice ⟨none, 0, 0, false⟩)] ty_api_Rat false))) fun H2 =>
 (bd (lenSl v0) fun t8_3 =>
 (energy_sum.l0 n n (.ptr (some (H.n, 0))) (.ptr (some (r1.2.n, 0))) v0 t8_3 (.int .i64 0) H2))))
theorem energy_sum_in (n : Nat) (a : List V) (H : Heap) : f_energy_sum (n + 1) a H = pureA a H (fun a => E C n 70 [] (argsA 0 a) ⟨0, .nil⟩ (kR C 70)) := by unfold f_energy_sum; kernel_rfl
theorem energy_sum_tot {v0 : V} {H : Heap} {Q : V → Heap → Prop} (hf : List.all [v0] V.fro = true) (hg : V.frees [v0] = true) (h : Tot (fun n => energy_sum_b @bnd n v0 E0) fun v _ => v.free = true ∧ Q v H) : Tot (fun n => f_energy_sum n [v0] H) Q := Tot.pu (k := fun n a => E C n 70 [] (argsA 0 a) ⟨0, .nil⟩ (kR C 70)) hf hg (fun n => energy_sum_in n _ _) (fun n => bd_bnd (fun bd => energy_sum_b bd n v0 E0) (by kernel_rfl)) h
@[simp] noncomputable def rat_cross_b (bd : B2) (n : Nat) (v0 v1 : V) (H : Heap) : Option R :=
 (bd (boxA ty_api_Rat v0) fun o1 =>
 (bd (boxA ty_api_Rat v1) fun o2 =>
 (bd (faA 2 (.ptr (some ((H.push o1).n, 0)))) fun t7_3 =>
 (bd (ld1 t7_3 ((((H.push o1).push o2).push (.cells [(.bool false), (.slice ⟨none, 0, 0, false⟩)] ty_api_Int false)).more 0)) fun t8_4 =>
 (bd (f_rat_plain n [t8_4] ((((H.push o1).push o2).push (.cells [(.bool false), (.slice ⟨none, 0, 0, false⟩)] ty_api_Int false)).more 0)) fun r5 =>
 (bd (faA 0 (.ptr (some (H.n, 0)))) fun t5_6 =>
 (bd (ldN 2 t5_6 r5.2) fun t6_7 =>
 (bd (chk (ldN 2 t5_6 ((((H.push o1).push o2).push (.cells [(.bool false), (.slice ⟨none, 0, 0, false⟩)] ty_api_Int false)).more 0)) t6_7) fun _ =>
 (bd (f_whole_Mul n [t6_7, r5.1] r5.2) fun r8 =>
 (bd (stA 2 (.ptr (some (((H.push o1).push o2).n, 0))) r8.1 r8.2) fun H9 =>
 (bd (ldN 2 (.ptr (some (((H.push o1).push o2).n, 0))) H9) fun t10 =>
 (frzR t10 H9))))))))))))
theorem rat_cross_in (n : Nat) (a : List V) (H : Heap) : f_rat_cross (n + 1) a H = pureA a H (fun a => E C n 81 [] (argsA 0 a) ⟨0, .nil⟩ (kR C 81)) := by unfold f_rat_cross; kernel_rfl
theorem rat_cross_tot {v0 v1 : V} {H : Heap} {Q : V → Heap → Prop} (hf : List.all [v0, v1] V.fro = true) (hg : V.frees [v0, v1] = true) (h : Tot (fun n => rat_cross_b @bnd n v0 v1 E0) fun v _ => v.free = true ∧ Q v H) : Tot (fun n => f_rat_cross n [v0, v1] H) Q := Tot.pu (k := fun n a => E C n 81 [] (argsA 0 a) ⟨0, .nil⟩ (kR C 81)) hf hg (fun n => rat_cross_in n _ _) (fun n => bd_bnd (fun bd => rat_cross_b bd n v0 v1 E0) (by kernel_rfl)) h
@[simp] noncomputable def rat_neg_b (bd : B2) (n : Nat) (v0 : V) (H : Heap) : Option R :=
 (bd (boxA ty_api_Rat v0) fun o1 =>
 (bd (faA 0 (.ptr (some (H.n, 0)))) fun t3_2 =>
 (bd (ldN 2 t3_2 (((H.push o1).push (.cells [(.bool false), (.slice ⟨none, 0, 0, false⟩), (.slice ⟨none, 0, 0, false⟩)] ty_api_Rat false)).more 0)) fun t4_3 =>
 (bd (f_whole_Neg n [t4_3] (((H.push o1).push (.cells [(.bool false), (.slice ⟨none, 0, 0, false⟩), (.slice ⟨none, 0, 0, false⟩)] ty_api_Rat false)).more 0)) fun r4 =>
 (bd (faA 2 (.ptr (some (H.n, 0)))) fun t6_5 =>
 (bd (ld1 t6_5 r4.2) fun t7_6 =>
 (bd (chk (ld1 t6_5 (((H.push o1).push (.cells [(.bool false), (.slice ⟨none, 0, 0, false⟩), (.slice ⟨none, 0, 0, false⟩)] ty_api_Rat false)).more 0)) t7_6) fun _ =>
 (bd (flA [(0, 2), (2, 1)] [(.bool false), (.slice ⟨none, 0, 0, false⟩), (.slice ⟨none, 0, 0, false⟩)] [(0, r4.1), (1, t7_6)]) fun t8_7 =>
 (bd (stA 3 (.ptr (some ((H.push o1).n, 0))) t8_7 r4.2) fun H8 =>
 (bd (ldN 3 (.ptr (some ((H.push o1).n, 0))) H8) fun t9 =>
 (frzR t9 H8)))))))))))
theorem rat_neg_in (n : Nat) (a : List V) (H : Heap) : f_rat_neg (n + 1) a H = pureA a H (fun a => E C n 83 [] (argsA 0 a) ⟨0, .nil⟩ (kR C 83)) := by unfold f_rat_neg; kernel_rfl
theorem rat_neg_tot {v0 : V} {H : Heap} {Q : V → Heap → Prop} (hf : List.all [v0] V.fro = true) (hg : V.frees [v0] = true) (h : Tot (fun n => rat_neg_b @bnd n v0 E0) fun v _ => v.free = true ∧ Q v H) : Tot (fun n => f_rat_neg n [v0] H) Q := Tot.pu (k := fun n a => E C n 83 [] (argsA 0 a) ⟨0, .nil⟩ (kR C 83)) hf hg (fun n => rat_neg_in n _ _) (fun n => bd_bnd (fun bd => rat_neg_b bd n v0 E0) (by kernel_rfl)) h
@[simp] noncomputable def rat_plain_b (bd : B2) (n : Nat) (v0 : V) (H : Heap) : Option R :=
 (bd (flA [(0, 1), (1, 1)] [(.bool false), (.slice ⟨none, 0, 0, false⟩)] [(1, v0)]) fun t4_1 =>
 (bd (stA 2 (.ptr (some (H.n, 0))) t4_1 (H.push (.cells [(.bool false), (.slice ⟨none, 0, 0, false⟩)] ty_api_Int false))) fun H2 =>
 (bd (ldN 2 (.ptr (some (H.n, 0))) H2) fun t3 =>
 (frzR t3 H2))))
theorem rat_plain_in (n : Nat) (a : List V) (H : Heap) : f_rat_plain (n + 1) a H = pureA a H (fun a => E C n 99 [] (argsA 0 a) ⟨0, .nil⟩ (kR C 99)) := by unfold f_rat_plain; kernel_rfl
theorem rat_plain_tot {v0 : V} {H : Heap} {Q : V → Heap → Prop} (hf : List.all [v0] V.fro = true) (hg : V.frees [v0] = true) (h : Tot (fun n => rat_plain_b @bnd n v0 E0) fun v _ => v.free = true ∧ Q v H) : Tot (fun n => f_rat_plain n [v0] H) Q := Tot.pu (k := fun n a => E C n 99 [] (argsA 0 a) ⟨0, .nil⟩ (kR C 99)) hf hg (fun n => rat_plain_in n _ _) (fun n => bd_bnd (fun bd => rat_plain_b bd n v0 E0) (by kernel_rfl)) h
end Go.AM.N
end
section
set_option linter.unusedVariables false
set_option linter.unusedSimpArgs false

end
section
set_option linter.unusedVariables false
set_option linter.unusedSimpArgs false
set_option linter.unusedSimpArgs false
set_option linter.unusedVariables false
namespace Go.AM
abbrev Gv (f : Nat → Option R) (u : V) (H : Heap) : Prop := Tot f fun v H' => H' = H ∧ v = u
theorem Gv.bind {f : Nat → Option R} {u : V} {H : Heap} {k : Nat → R → Option R} {Q : V → Heap → Prop} (hf : Gv f u H) (hk : Tot (fun n => k n (u, H)) Q) : Tot (fun n => bnd (f n) (k n)) Q :=
  Tot.bind hf fun v H' ⟨h1, h2⟩ => by subst h1 h2; exact hk
theorem all1 {a : V} (h : a.fro = true) : List.all [a] V.fro = true := by simp [h]
theorem all2 {a b : V} (h : a.fro = true) (h' : b.fro = true) : List.all [a, b] V.fro = true := by simp [h, h']
theorem fre1 {a : V} (h : a.free = true) : V.frees [a] = true := by simp [V.frees, h]
theorem fre2 {a b : V} (h : a.free = true) (h' : b.free = true) : V.frees [a, b] = true := by simp [V.frees, h, h']
namespace N
variable {H : Heap}
theorem whole_Of_N {z : Int} (h : -9223372036854775808 ≤ z ∧ z ≤ 9223372036854775807) : Gv (fun n => f_whole_Of n [.int .i64 z] H) (intW z) H :=
  whole_Of_ext (ext_tot rfl (by simp only [dZ]; rw [if_pos h]; rfl) ⟨rfl, rfl⟩)
theorem whole_Neg_N {z : Int} (h : szW z.natAbs) : Gv (fun n => f_whole_Neg n [intW z] H) (intW (-z)) H :=
  whole_Neg_ext (ext_tot (all1 intW_fro) (by simp only [dI, decI_intW h]; rfl) ⟨rfl, rfl⟩)
theorem whole_Add_N {x y : Int} (h : szW x.natAbs) (h' : szW y.natAbs) : Gv (fun n => f_whole_Add n [intW x, intW y] H) (intW (x + y)) H :=
  whole_Add_ext (ext_tot (all2 intW_fro intW_fro) (by simp only [dII, decI_intW h, decI_intW h']; rfl) ⟨rfl, rfl⟩)
theorem whole_Mul_N {x y : Int} (h : szW x.natAbs) (h' : szW y.natAbs) : Gv (fun n => f_whole_Mul n [intW x, intW y] H) (intW (x * y)) H :=
  whole_Mul_ext (ext_tot (all2 intW_fro intW_fro) (by simp only [dII, decI_intW h, decI_intW h']; rfl) ⟨rfl, rfl⟩)
theorem nat_Mul_N {x y : Nat} (h : szW x) (h' : szW y) : Gv (fun n => f_nat_Mul n [natW x, natW y] H) (natW (x * y)) H :=
  nat_Mul_ext (ext_tot (all2 natW_fro natW_fro) (by simp only [dNN, decL_natW h, decL_natW h', val_digK (show 2 ≤ 4294967296 by decide)]; rfl) ⟨rfl, rfl⟩)
theorem rat_norm_N {n : Int} {d : Nat} (h : szW n.natAbs) (h' : szW d) : Gv (fun m => f_rat_norm m [ratW n d] H) (ratQ (mkRat n d)) H :=
  rat_norm_ext (ext_tot (all1 ratW_fro) (by simp only [dR, decR_ratW h h']; rfl) ⟨rfl, by simp only [ratQ, low_mk]⟩)
theorem decQ_intW {z : Int} (h : szW z.natAbs) : decQ (intW z) = some z := by
  simp only [intW, decQ, decL_natW h, val_digK (show 2 ≤ 4294967296 by decide), sgn_dec]
theorem rat_lowest_N {n : Int} {d : Nat} (h : szW n.natAbs) (h' : szW d) : Gv (fun m => f_rat_lowest m [intW n, natW d] H) (ratQ (mkRat n d)) H :=
  rat_lowest_ext (ext_tot (all2 intW_fro natW_fro) (by simp only [dQN, decQ_intW h, decL_natW h', val_digK (show 2 ≤ 4294967296 by decide)]; rfl) ⟨rfl, by simp only [ratQ, low_mk]⟩)
theorem rat_Mul_N {p q : Rat} {k m : Nat} (h : Bq k p) (h' : Bq m q) (hk : k < 1000000) (hm : m < 1000000) : Gv (fun n => f_rat_Mul n [ratQ p, ratQ q] H) (ratQ (p * q)) H :=
  rat_Mul_ext (ext_tot (all2 ratW_fro ratW_fro) (by simp only [dRR, ratQ, decR_ratW (szW_of h.1 hk) (szW_of h.2 hk), decR_ratW (szW_of h'.1 hm) (szW_of h'.2 hm)]; rfl) ⟨rfl, by
    simp only [ratQ, low_mk, Rat.mkRat_self, Rat.mul_def']⟩)
theorem r5_Long_N {z : Int} (h : -9223372036854775808 ≤ z ∧ z ≤ 9223372036854775807) : Gv (fun n => f_ref05_Long n [.int .i64 z] H) (ratD z 1) H :=
  ref05_Long_ext (ext_tot rfl (by simp only [dZ]; rw [if_pos h]; rfl) ⟨rfl, rfl⟩)
end N
end Go.AM
end
section
set_option linter.unusedVariables false
set_option linter.unusedSimpArgs false
set_option linter.unusedSimpArgs false
set_option linter.unusedVariables false
namespace Go.AM
attribute [local congr] bnd_weak ite_weak
theorem beqs_nums {k : IntKind} : ∀ {l : List Nat}, V.beqs (nums k l) (nums k l) = true
  | [] => rfl
  | x :: l => by
    have := beqs_nums (k := k) (l := l)
    simp only [nums, List.map_cons, V.beqs, V.beq] at this ⊢
    simp [this]
theorem encN_beq {k : IntKind} {l : List Nat} : V.beq (encN k l) (encN k l) = true := by
  unfold encN; split
  · simp [V.beq, V.beqs]
  · simp only [V.beq, beqs_nums]; simp
theorem natW_beq {x : Nat} : V.beq (natW x) (natW x) = true := encN_beq
theorem natD_beq {x : Nat} : V.beq (natD x) (natD x) = true := encN_beq
theorem chk_natW {x : Nat} : chk (some (natW x)) (natW x) = some () := by simp [chk, natW_beq]
theorem chk_natD {x : Nat} : chk (some (natD x)) (natD x) = some () := by simp [chk, natD_beq]
attribute [simp] natW_one natD_one natW_cells natD_cells natW_beq natD_beq chk_natW chk_natD natW_fro1 natD_fro1 natW_fro natD_fro natW_free natD_free
theorem free_agg {cs : List V} : (V.agg cs).free = V.frees cs := (Eq.refl _).trans (Eq.refl _)
theorem frees_cons {a : V} {cs : List V} : V.frees (a :: cs) = (a.free && V.frees cs) := (Eq.refl _).trans (Eq.refl _)
theorem frees_nil : V.frees [] = true := (Eq.refl _).trans (Eq.refl _)
theorem fro_agg {cs : List V} : (V.agg cs).fro = cs.all V.fro1 := (Eq.refl _).trans (Eq.refl _)
theorem fro1_bool {b : Bool} : (V.bool b).fro1 = true := (Eq.refl _).trans (Eq.refl _)
theorem fro1_int {k : IntKind} {b : Int} : (V.int k b).fro1 = true := (Eq.refl _).trans (Eq.refl _)
theorem free_bool {b : Bool} : (V.bool b).free = true := (Eq.refl _).trans (Eq.refl _)
theorem free_int {k : IntKind} {b : Int} : (V.int k b).free = true := (Eq.refl _).trans (Eq.refl _)
attribute [simp] free_agg frees_cons frees_nil fro_agg fro1_bool fro1_int free_bool free_int
theorem beqs_cons {a b : V} {x y : List V} : V.beqs (a :: x) (b :: y) = (a.beq b && V.beqs x y) := by simp [V.beqs]
theorem beqs_nil : V.beqs [] [] = true := by simp [V.beqs]
theorem chk_aggb {l : List V} : chk (some (.agg l)) (.agg l) = cond (V.beqs l l) (some ()) none := by
  have e : V.beq (.agg l) (.agg l) = V.beqs l l := by simp [V.beq]
  unfold chk
  simp only [Option.bind_some]
  rw [e]
  generalize V.beqs l l = x
  cases x <;> rfl
attribute [simp] beqs_cons beqs_nil chk_aggb
def FzL (H : Heap) (vs us : List V) : Prop := ∃ ids, frzL (frzV H 5) vs = some (us, ids)
theorem FzL.nil {H : Heap} : FzL H [] [] := ⟨[], rfl⟩
theorem FzL.fro {H : Heap} {v : V} {vs us : List V} (h : v.fro1 = true) (t : FzL H vs us) : FzL H (v :: vs) (v :: us) := by
  obtain ⟨ids, e⟩ := t
  exact ⟨ids, by simp only [frzL, frzV_fro1 (d := 4) h, e]; simp⟩
theorem FzL.row {H : Heap} {k : IntKind} {s : Sl} {l : List Nat} {vs us : List V} (r : Row H k s l) (t : FzL H vs us) : FzL H (.slice s :: vs) (encN k l :: us) := by
  obtain ⟨ids, e⟩ := t
  obtain ⟨ids2, e2, _⟩ := frz_row (H := H) (d := 3) (base := 0) r (fun _ _ => Nat.zero_le _)
  exact ⟨ids2 ++ ids, by simp only [frzL, e2, e]⟩
theorem Tot.fa {H : Heap} {vs us : List V} {Q : V → Heap → Prop} (t : FzL H vs us) (q : ∀ H', Q (.agg us) H') : Tot (fun _ => frzR (.agg vs) H) Q := by
  obtain ⟨ids, e⟩ := t
  refine ⟨.agg us, killL ids H, q _, 0, fun _ _ => ?_⟩
  unfold frzR frzV
  simp only [e]
theorem lit_row {H : Heap} {k : IntKind} {l : List Nat} {i e n : Nat} {r f : Bool} (hi : i < H.n) (hg : H.get i = .cells (nums k l) e r) (hn : n = l.length) : Row H k ⟨some (i, 0), n, 1, f⟩ l := by
  subst hn; exact Row.new hi hg
theorem natW_one' : encN .u32 [1] = natW 1 := by
  have : digK 4294967296 1 = [1] := by decide
  unfold natW; rw [this]
namespace N
variable {H : Heap}
theorem rat_neg_N {q : Rat} {k : Nat} (h : Bq k q) (hk : k < 1000000) : Gv (fun n => f_rat_neg n [ratQ q] H) (ratQ (-q)) H := by
  refine rat_neg_tot (all1 ratW_fro) (fre1 ratW_free) ?_
  simp only [rat_neg_b, ratQ, ratW]
  repeat (first | refine Tot.pure (by simp (disch := first | omega | (simp only [hn_push, hn_set, hn_more] <;> omega) | fail) [ld1_get, ldN_get, stA_get, boxA, gz, gs, Heap.get_push_ne, Heap.get_push_eq, Heap.get_set_ne, Heap.get_set_eq, get_more, hn_push, hn_set, hn_more, ]; try exact rfl) ?_ | refine Tot.chk (by simp (disch := first | omega | (simp only [hn_push, hn_set, hn_more] <;> omega) | fail) [ld1_get, ldN_get, stA_get, boxA, gz, gs, Heap.get_push_ne, Heap.get_push_eq, Heap.get_set_ne, Heap.get_set_eq, get_more, hn_push, hn_set, hn_more, ]; done) ?_ | fail)
  refine Gv.bind (whole_Neg_N (szW_of h.1 hk)) ?_
  dsimp only [intW]
  repeat (first | refine Tot.pure (by simp (disch := first | omega | (simp only [hn_push, hn_set, hn_more] <;> omega) | fail) [ld1_get, ldN_get, stA_get, boxA, gz, gs, Heap.get_push_ne, Heap.get_push_eq, Heap.get_set_ne, Heap.get_set_eq, get_more, hn_push, hn_set, hn_more, ]; try exact rfl) ?_ | refine Tot.chk (by simp (disch := first | omega | (simp only [hn_push, hn_set, hn_more] <;> omega) | fail) [ld1_get, ldN_get, stA_get, boxA, gz, gs, Heap.get_push_ne, Heap.get_push_eq, Heap.get_set_ne, Heap.get_set_eq, get_more, hn_push, hn_set, hn_more, ]; done) ?_ | fail)
  exact Tot.rf (by simp) (by simp [ratQ, ratW])
theorem rat_plain_N {x : Nat} : Gv (fun n => f_rat_plain n [natW x] H) (intW x) H := by
  refine rat_plain_tot (all1 natW_fro) (fre1 natW_free) ?_
  simp only [rat_plain_b]
  repeat (first | refine Tot.pure (by simp (disch := first | omega | (simp only [hn_push, hn_set, hn_more] <;> omega) | fail) [ld1_get, ldN_get, stA_get, boxA, gz, gs, Heap.get_push_ne, Heap.get_push_eq, Heap.get_set_ne, Heap.get_set_eq, get_more, hn_push, hn_set, hn_more, ]; try exact rfl) ?_ | refine Tot.chk (by simp (disch := first | omega | (simp only [hn_push, hn_set, hn_more] <;> omega) | fail) [ld1_get, ldN_get, stA_get, boxA, gz, gs, Heap.get_push_ne, Heap.get_push_eq, Heap.get_set_ne, Heap.get_set_eq, get_more, hn_push, hn_set, hn_more, ]; done) ?_ | fail)
  exact Tot.rf (by simp) (by simp [intW])
theorem rat_cross_N {p q : Rat} {k m : Nat} (h : Bq k p) (h' : Bq m q) (hk : k < 1000000) (hm : m < 1000000) : Gv (fun n => f_rat_cross n [ratQ p, ratQ q] H) (intW (p.num * q.den)) H := by
  refine rat_cross_tot (all2 ratW_fro ratW_fro) (fre2 ratW_free ratW_free) ?_
  simp only [rat_cross_b, ratQ, ratW]
  repeat (first | refine Tot.pure (by simp (disch := first | omega | (simp only [hn_push, hn_set, hn_more] <;> omega) | fail) [ld1_get, ldN_get, stA_get, boxA, gz, gs, Heap.get_push_ne, Heap.get_push_eq, Heap.get_set_ne, Heap.get_set_eq, get_more, hn_push, hn_set, hn_more, ]; try exact rfl) ?_ | refine Tot.chk (by simp (disch := first | omega | (simp only [hn_push, hn_set, hn_more] <;> omega) | fail) [ld1_get, ldN_get, stA_get, boxA, gz, gs, Heap.get_push_ne, Heap.get_push_eq, Heap.get_set_ne, Heap.get_set_eq, get_more, hn_push, hn_set, hn_more, ]; done) ?_ | fail)
  refine Gv.bind rat_plain_N ?_
  dsimp only [intW]
  repeat (first | refine Tot.pure (by simp (disch := first | omega | (simp only [hn_push, hn_set, hn_more] <;> omega) | fail) [ld1_get, ldN_get, stA_get, boxA, gz, gs, Heap.get_push_ne, Heap.get_push_eq, Heap.get_set_ne, Heap.get_set_eq, get_more, hn_push, hn_set, hn_more, ]; try exact rfl) ?_ | refine Tot.chk (by simp (disch := first | omega | (simp only [hn_push, hn_set, hn_more] <;> omega) | fail) [ld1_get, ldN_get, stA_get, boxA, gz, gs, Heap.get_push_ne, Heap.get_push_eq, Heap.get_set_ne, Heap.get_set_eq, get_more, hn_push, hn_set, hn_more, ]; done) ?_ | fail)
  refine Gv.bind (whole_Mul_N (x := p.num) (y := (q.den : Int)) (szW_of h.1 hk) (by rw [Int.natAbs_natCast]; exact szW_of h'.2 hm)) ?_
  dsimp only [intW]
  repeat (first | refine Tot.pure (by simp (disch := first | omega | (simp only [hn_push, hn_set, hn_more] <;> omega) | fail) [ld1_get, ldN_get, stA_get, boxA, gz, gs, Heap.get_push_ne, Heap.get_push_eq, Heap.get_set_ne, Heap.get_set_eq, get_more, hn_push, hn_set, hn_more, ]; try exact rfl) ?_ | refine Tot.chk (by simp (disch := first | omega | (simp only [hn_push, hn_set, hn_more] <;> omega) | fail) [ld1_get, ldN_get, stA_get, boxA, gz, gs, Heap.get_push_ne, Heap.get_push_eq, Heap.get_set_ne, Heap.get_set_eq, get_more, hn_push, hn_set, hn_more, ]; done) ?_ | fail)
  exact Tot.rf (by simp) (by simp)
theorem rat_add_N {p q : Rat} {k m : Nat} (h : Bq k p) (h' : Bq m q) (hk : k < 400000) (hm : m < 400000) : Gv (fun n => f_rat_add n [ratQ p, ratQ q] H) (ratQ (p + q)) H := by
  refine rat_add_tot (all2 ratW_fro ratW_fro) (fre2 ratW_free ratW_free) ?_
  simp only [rat_add_b, ratQ, ratW]
  repeat (first | refine Tot.pure (by simp (disch := first | omega | (simp only [hn_push, hn_set, hn_more] <;> omega) | fail) [ld1_get, ldN_get, stA_get, boxA, gz, gs, Heap.get_push_ne, Heap.get_push_eq, Heap.get_set_ne, Heap.get_set_eq, get_more, hn_push, hn_set, hn_more, ]; try exact rfl) ?_ | refine Tot.chk (by simp (disch := first | omega | (simp only [hn_push, hn_set, hn_more] <;> omega) | fail) [ld1_get, ldN_get, stA_get, boxA, gz, gs, Heap.get_push_ne, Heap.get_push_eq, Heap.get_set_ne, Heap.get_set_eq, get_more, hn_push, hn_set, hn_more, ]; done) ?_ | fail)
  refine Gv.bind (rat_cross_N h h' (by omega) (by omega)) ?_
  dsimp only
  repeat (first | refine Tot.pure (by simp (disch := first | omega | (simp only [hn_push, hn_set, hn_more] <;> omega) | fail) [ld1_get, ldN_get, stA_get, boxA, gz, gs, Heap.get_push_ne, Heap.get_push_eq, Heap.get_set_ne, Heap.get_set_eq, get_more, hn_push, hn_set, hn_more, ]; try exact rfl) ?_ | refine Tot.chk (by simp (disch := first | omega | (simp only [hn_push, hn_set, hn_more] <;> omega) | fail) [ld1_get, ldN_get, stA_get, boxA, gz, gs, Heap.get_push_ne, Heap.get_push_eq, Heap.get_set_ne, Heap.get_set_eq, get_more, hn_push, hn_set, hn_more, ]; done) ?_ | fail)
  refine Gv.bind (rat_cross_N h' h (by omega) (by omega)) ?_
  dsimp only
  have a := lt_mul2 h.1 h'.2
  have b := lt_mul2 h'.1 h.2
  have c := lt_mul2 h.2 h'.2
  have e1 : (p.num * (q.den : Int)).natAbs = p.num.natAbs * q.den := by rw [Int.natAbs_mul, Int.natAbs_natCast]
  have e2 : (q.num * (p.den : Int)).natAbs = q.num.natAbs * p.den := by rw [Int.natAbs_mul, Int.natAbs_natCast]
  refine Gv.bind (whole_Add_N (szW_of (by rw [e1]; exact a) (by omega)) (szW_of (by rw [e2]; exact b) (by omega))) ?_
  dsimp only
  repeat (first | refine Tot.pure (by simp (disch := first | omega | (simp only [hn_push, hn_set, hn_more] <;> omega) | fail) [ld1_get, ldN_get, stA_get, boxA, gz, gs, Heap.get_push_ne, Heap.get_push_eq, Heap.get_set_ne, Heap.get_set_eq, get_more, hn_push, hn_set, hn_more, ]; try exact rfl) ?_ | refine Tot.chk (by simp (disch := first | omega | (simp only [hn_push, hn_set, hn_more] <;> omega) | fail) [ld1_get, ldN_get, stA_get, boxA, gz, gs, Heap.get_push_ne, Heap.get_push_eq, Heap.get_set_ne, Heap.get_set_eq, get_more, hn_push, hn_set, hn_more, ]; done) ?_ | fail)
  refine Gv.bind (nat_Mul_N (szW_of h.2 (by omega)) (szW_of h'.2 (by omega))) ?_
  dsimp only
  have t := Int.natAbs_add_le (p.num * q.den) (q.num * p.den)
  have e3 : 2 ^ (k + m + 1) = 2 ^ (k + m) + 2 ^ (k + m) := by rw [Nat.pow_succ]; omega
  rw [Nat.add_comm m k] at b
  refine Gv.bind (rat_lowest_N (szW_of (k := k + m + 1) (by omega) (by omega)) (szW_of c (by omega))) ?_
  dsimp only [ratQ, ratW]
  repeat (first | refine Tot.pure (by simp (disch := first | omega | (simp only [hn_push, hn_set, hn_more] <;> omega) | fail) [ld1_get, ldN_get, stA_get, boxA, gz, gs, Heap.get_push_ne, Heap.get_push_eq, Heap.get_set_ne, Heap.get_set_eq, get_more, hn_push, hn_set, hn_more, ]; try exact rfl) ?_ | refine Tot.chk (by simp (disch := first | omega | (simp only [hn_push, hn_set, hn_more] <;> omega) | fail) [ld1_get, ldN_get, stA_get, boxA, gz, gs, Heap.get_push_ne, Heap.get_push_eq, Heap.get_set_ne, Heap.get_set_eq, get_more, hn_push, hn_set, hn_more, ]; done) ?_ | fail)
  exact Tot.rf (by simp) (by simp [Rat.add_def'])
theorem rat_Add_N {p q : Rat} {k m : Nat} (h : Bq k p) (h' : Bq m q) (hk : k < 400000) (hm : m < 400000) : Gv (fun n => f_rat_Add n [ratQ p, ratQ q] H) (ratQ (p + q)) H := by
  refine rat_Add_tot (all2 ratW_fro ratW_fro) (fre2 ratW_free ratW_free) ?_
  simp only [rat_Add_b, ratQ, ratW]
  repeat (first | refine Tot.pure (by simp (disch := first | omega | (simp only [hn_push, hn_set, hn_more] <;> omega) | fail) [ld1_get, ldN_get, stA_get, boxA, gz, gs, Heap.get_push_ne, Heap.get_push_eq, Heap.get_set_ne, Heap.get_set_eq, get_more, hn_push, hn_set, hn_more, ]; try exact rfl) ?_ | refine Tot.chk (by simp (disch := first | omega | (simp only [hn_push, hn_set, hn_more] <;> omega) | fail) [ld1_get, ldN_get, stA_get, boxA, gz, gs, Heap.get_push_ne, Heap.get_push_eq, Heap.get_set_ne, Heap.get_set_eq, get_more, hn_push, hn_set, hn_more, ]; done) ?_ | fail)
  refine Gv.bind (rat_norm_N (szW_of h.1 (by omega)) (szW_of h.2 (by omega))) ?_
  dsimp only [Rat.mkRat_self]
  repeat (first | refine Tot.pure (by simp (disch := first | omega | (simp only [hn_push, hn_set, hn_more] <;> omega) | fail) [ld1_get, ldN_get, stA_get, boxA, gz, gs, Heap.get_push_ne, Heap.get_push_eq, Heap.get_set_ne, Heap.get_set_eq, get_more, hn_push, hn_set, hn_more, ]; try exact rfl) ?_ | refine Tot.chk (by simp (disch := first | omega | (simp only [hn_push, hn_set, hn_more] <;> omega) | fail) [ld1_get, ldN_get, stA_get, boxA, gz, gs, Heap.get_push_ne, Heap.get_push_eq, Heap.get_set_ne, Heap.get_set_eq, get_more, hn_push, hn_set, hn_more, ]; done) ?_ | fail)
  refine Gv.bind (rat_norm_N (szW_of h'.1 (by omega)) (szW_of h'.2 (by omega))) ?_
  rw [Rat.mkRat_self, Rat.mkRat_self]
  refine Gv.bind (rat_add_N h h' hk hm) ?_
  dsimp only [ratQ, ratW]
  repeat (first | refine Tot.pure (by simp (disch := first | omega | (simp only [hn_push, hn_set, hn_more] <;> omega) | fail) [ld1_get, ldN_get, stA_get, boxA, gz, gs, Heap.get_push_ne, Heap.get_push_eq, Heap.get_set_ne, Heap.get_set_eq, get_more, hn_push, hn_set, hn_more, ]; try exact rfl) ?_ | refine Tot.chk (by simp (disch := first | omega | (simp only [hn_push, hn_set, hn_more] <;> omega) | fail) [ld1_get, ldN_get, stA_get, boxA, gz, gs, Heap.get_push_ne, Heap.get_push_eq, Heap.get_set_ne, Heap.get_set_eq, get_more, hn_push, hn_set, hn_more, ]; done) ?_ | fail)
  exact Tot.rf (by simp) (by simp)
theorem rat_Sub_N {p q : Rat} {k m : Nat} (h : Bq k p) (h' : Bq m q) (hk : k < 400000) (hm : m < 400000) : Gv (fun n => f_rat_Sub n [ratQ p, ratQ q] H) (ratQ (p - q)) H := by
  refine rat_Sub_tot (all2 ratW_fro ratW_fro) (fre2 ratW_free ratW_free) ?_
  simp only [rat_Sub_b, ratQ, ratW]
  repeat (first | refine Tot.pure (by simp (disch := first | omega | (simp only [hn_push, hn_set, hn_more] <;> omega) | fail) [ld1_get, ldN_get, stA_get, boxA, gz, gs, Heap.get_push_ne, Heap.get_push_eq, Heap.get_set_ne, Heap.get_set_eq, get_more, hn_push, hn_set, hn_more, ]; try exact rfl) ?_ | refine Tot.chk (by simp (disch := first | omega | (simp only [hn_push, hn_set, hn_more] <;> omega) | fail) [ld1_get, ldN_get, stA_get, boxA, gz, gs, Heap.get_push_ne, Heap.get_push_eq, Heap.get_set_ne, Heap.get_set_eq, get_more, hn_push, hn_set, hn_more, ]; done) ?_ | fail)
  refine Gv.bind (rat_norm_N (szW_of h.1 (by omega)) (szW_of h.2 (by omega))) ?_
  dsimp only
  repeat (first | refine Tot.pure (by simp (disch := first | omega | (simp only [hn_push, hn_set, hn_more] <;> omega) | fail) [ld1_get, ldN_get, stA_get, boxA, gz, gs, Heap.get_push_ne, Heap.get_push_eq, Heap.get_set_ne, Heap.get_set_eq, get_more, hn_push, hn_set, hn_more, ]; try exact rfl) ?_ | refine Tot.chk (by simp (disch := first | omega | (simp only [hn_push, hn_set, hn_more] <;> omega) | fail) [ld1_get, ldN_get, stA_get, boxA, gz, gs, Heap.get_push_ne, Heap.get_push_eq, Heap.get_set_ne, Heap.get_set_eq, get_more, hn_push, hn_set, hn_more, ]; done) ?_ | fail)
  refine Gv.bind (rat_norm_N (szW_of h'.1 (by omega)) (szW_of h'.2 (by omega))) ?_
  rw [Rat.mkRat_self, Rat.mkRat_self]
  refine Gv.bind (rat_neg_N h' (by omega)) ?_
  dsimp only
  refine Gv.bind (rat_add_N h h'.neg hk hm) ?_
  rw [← Rat.sub_eq_add_neg]
  dsimp only [ratQ, ratW]
  repeat (first | refine Tot.pure (by simp (disch := first | omega | (simp only [hn_push, hn_set, hn_more] <;> omega) | fail) [ld1_get, ldN_get, stA_get, boxA, gz, gs, Heap.get_push_ne, Heap.get_push_eq, Heap.get_set_ne, Heap.get_set_eq, get_more, hn_push, hn_set, hn_more, ]; try exact rfl) ?_ | refine Tot.chk (by simp (disch := first | omega | (simp only [hn_push, hn_set, hn_more] <;> omega) | fail) [ld1_get, ldN_get, stA_get, boxA, gz, gs, Heap.get_push_ne, Heap.get_push_eq, Heap.get_set_ne, Heap.get_set_eq, get_more, hn_push, hn_set, hn_more, ]; done) ?_ | fail)
  exact Tot.rf (by simp) (by simp)
theorem rat_Of_N {z : Int} (hz : -9223372036854775808 ≤ z ∧ z ≤ 9223372036854775807) : Gv (fun n => f_rat_Of n [.int .i64 z] H) (ratQ z) H := by
  refine rat_Of_tot rfl rfl ?_
  simp only [rat_Of_b]
  refine Gv.bind (whole_Of_N hz) ?_
  dsimp only [intW]
  have hb1 : bSl 1 ty_uint32 [.int .u32 0] 1 [(0, .int .u32 1)] = some (.cells (nums .u32 [1]) ty_uint32 false) := by simp [bSl, rowA]
  refine Tot.pure hb1 ?_
  repeat (first | refine Tot.pure (by simp (disch := first | omega | (simp only [hn_push, hn_set, hn_more] <;> omega) | fail) [ld1_get, ldN_get, stA_get, boxA, gz, gs, Heap.get_push_ne, Heap.get_push_eq, Heap.get_set_ne, Heap.get_set_eq, get_more, hn_push, hn_set, hn_more, ]; try exact rfl) ?_ | refine Tot.chk (by simp (disch := first | omega | (simp only [hn_push, hn_set, hn_more] <;> omega) | fail) [ld1_get, ldN_get, stA_get, boxA, gz, gs, Heap.get_push_ne, Heap.get_push_eq, Heap.get_set_ne, Heap.get_set_eq, get_more, hn_push, hn_set, hn_more, ]; done) ?_ | fail)
  refine Tot.fa (FzL.fro (by simp) (FzL.fro (by simp) (FzL.row (lit_row (l := [1]) (k := .u32) (e := ty_uint32) (r := false) (by simp) (by simp (disch := first | omega | (simp only [hn_push, hn_set, hn_more] <;> omega) | (simp <;> omega) | fail) [ld1_get, ldN_get, stA_get, faA_mk, boxA_agg, Heap.get_push_ne, Heap.get_push_eq, Heap.get_set_ne, Heap.get_set_eq, get_more, hn_push, hn_set, hn_more, chk_agg, ]) rfl) FzL.nil))) fun H' => ?_
  rw [natW_one']
  exact ⟨by simp, by simp [ratQ, ratW] <;> first | rfl | exact decide_eq_decide.2 Iff.rfl⟩
end N
end Go.AM
end
section
set_option linter.unusedVariables false
set_option linter.unusedSimpArgs false
set_option linter.unusedSimpArgs false
set_option linter.unusedVariables false
set_option maxRecDepth 100000
namespace Go.AM
theorem Gv.pcall {f : Nat → List V → Heap → Option R} {k : Nat → List V → Option R} (he : ∀ n a H, f (n + 1) a H = pureA a H (k n)) {args args' : List V} {H H' : Heap} {u : V}
    (h1 : frzAs args H = some (args', H')) (h2 : args'.all V.fro = true) (h : Gv (fun n => f n args' H') u H') : Gv (fun n => f n args H) u H' := by
  obtain ⟨v, G, q, n0, hn⟩ := h
  refine ⟨v, G, q, n0 + 1, fun n hle => ?_⟩
  obtain ⟨m, rfl⟩ : ∃ m, n = m + 1 := ⟨n - 1, by omega⟩
  have := hn (m + 1) (by omega)
  simp only [he] at this ⊢
  unfold pureA at this ⊢
  rw [frzAs_fro h2] at this
  rw [h1]
  exact this
theorem Gv.pbind {f : Nat → List V → Heap → Option R} {k : Nat → List V → Option R} (he : ∀ n a H, f (n + 1) a H = pureA a H (k n)) {args args' : List V} {H H' : Heap} {u : V} {kk : Nat → R → Option R} {Q : V → Heap → Prop}
    (h1 : frzAs args H = some (args', H')) (h2 : args'.all V.fro = true) (h : Gv (fun n => f n args' H') u H') (hk : Tot (fun n => kk n (u, H')) Q) : Tot (fun n => bnd (f n args H) (kk n)) Q :=
  Tot.bind (Gv.pcall he h1 h2 h) fun v G ⟨e1, e2⟩ => by subst e1 e2; exact hk
theorem frz_own {H : Heap} {i n s : Nat} {f r : Bool} {cs : List V} {e : TypeId} (hg : H.get i = .cells cs e r) (hc : cs.all V.fro1 = true) (hl : cs.length = n * s) (h0 : n ≠ 0) :
    frzAs [.slice ⟨some (i, 0), n, s, f⟩] H = some ([.list n s cs], H.set i (.cells cs e true)) := by
  have ht : (cs.drop 0).take (n * s) = cs := by rw [List.drop_zero, ← hl, List.take_length]
  have h1 : frzV H 6 (.slice ⟨some (i, 0), n, s, f⟩) = some (.list n s cs, [i]) := by
    unfold frzV
    simp only [if_neg h0, hg, ht, frzL_fro1 (d := 4) hc, Nat.zero_add]
    rw [if_pos (by omega)]
  unfold frzAs
  simp only [frzL, h1, List.append_nil, killL, hg, O.fix]
theorem bool_fro1 {b : Bool} : (V.bool b).fro1 = true := rfl
def spotQ (p q : Rat) : V := .agg [.bool (decide (p.num < 0)), natW p.num.natAbs, natW p.den, .bool (decide (q.num < 0)), natW q.num.natAbs, natW q.den]
theorem spotQ_fro {p q : Rat} : (spotQ p q).fro = true := by simp [spotQ, V.fro, natW_fro1, bool_fro1]
theorem spotQ_free {p q : Rat} : (spotQ p q).free = true := by simp [spotQ, V.free, V.frees]
namespace N
variable {H : Heap}
end N
def rows3 (a b c : Rat) : List V := [.bool (decide (a.num < 0)), natW a.num.natAbs, natW a.den, .bool (decide (b.num < 0)), natW b.num.natAbs, natW b.den, .bool (decide (c.num < 0)), natW c.num.natAbs, natW c.den]
theorem rows3_fro {a b c : Rat} : (rows3 a b c).all V.fro1 = true := by simp [rows3, natW_fro1, bool_fro1]
theorem list_fro {n s : Nat} {cs : List V} : (V.list n s cs).fro = true := rfl
theorem rows3_free {a b c : Rat} {n s : Nat} : (V.list n s (rows3 a b c)).free = true := by simp [rows3, V.free, V.frees]
theorem Bq.zero : Bq 1 0 := by constructor <;> decide
namespace N
variable {H : Heap}
theorem energy_sum_N {a b c : Rat} {k : Nat} (ha : Bq k a) (hb : Bq k b) (hc : Bq k c) (hk : k < 100000) :
    Gv (fun n => f_energy_sum n [.list 3 3 (rows3 a b c)] H) (ratQ (a + b + c)) H := by
  refine energy_sum_tot (all1 list_fro) (fre1 rows3_free) ?_
  simp only [energy_sum_b]
  refine Gv.bind (rat_Of_N (by omega)) ?_
  dsimp only [ratQ, ratW]
  repeat (first | refine Tot.pure (by simp (disch := first | omega | (simp only [hn_push, hn_set, hn_more] <;> omega) | fail) [ld1_get, ldN_get, stA_get, boxA, gz, gs, Heap.get_push_ne, Heap.get_push_eq, Heap.get_set_ne, Heap.get_set_eq, get_more, hn_push, hn_set, hn_more, ]; try exact rfl) ?_ | refine Tot.chk (by simp (disch := first | omega | (simp only [hn_push, hn_set, hn_more] <;> omega) | fail) [ld1_get, ldN_get, stA_get, boxA, gz, gs, Heap.get_push_ne, Heap.get_push_eq, Heap.get_set_ne, Heap.get_set_eq, get_more, hn_push, hn_set, hn_more, ]; done) ?_ | fail)
  refine energy_sum.l0_tot Big.id fun m1 hb1 => ?_
  simp only [energy_sum.l0_b, rows3]
  repeat (first | refine Tot.pure (by simp (disch := first | omega | (simp only [hn_push, hn_set, hn_more] <;> omega) | fail) [ld1_get, ldN_get, stA_get, boxA, gz, gs, Heap.get_push_ne, Heap.get_push_eq, Heap.get_set_ne, Heap.get_set_eq, get_more, hn_push, hn_set, hn_more, ]; try exact rfl) ?_ | refine Tot.chk (by simp (disch := first | omega | (simp only [hn_push, hn_set, hn_more] <;> omega) | fail) [ld1_get, ldN_get, stA_get, boxA, gz, gs, Heap.get_push_ne, Heap.get_push_eq, Heap.get_set_ne, Heap.get_set_eq, get_more, hn_push, hn_set, hn_more, ]; done) ?_ | fail)
  refine Gv.bind (rat_Add_N (p := ((0 : Int) : Rat)) (q := a) Bq.zero ha (by omega) (by omega)) ?_
  have a1 := Bq.add Bq.zero ha
  dsimp only [ratQ, ratW]
  repeat (first | refine Tot.pure (by simp (disch := first | omega | (simp only [hn_push, hn_set, hn_more] <;> omega) | fail) [ld1_get, ldN_get, stA_get, boxA, gz, gs, Heap.get_push_ne, Heap.get_push_eq, Heap.get_set_ne, Heap.get_set_eq, get_more, hn_push, hn_set, hn_more, ]; try exact rfl) ?_ | refine Tot.chk (by simp (disch := first | omega | (simp only [hn_push, hn_set, hn_more] <;> omega) | fail) [ld1_get, ldN_get, stA_get, boxA, gz, gs, Heap.get_push_ne, Heap.get_push_eq, Heap.get_set_ne, Heap.get_set_eq, get_more, hn_push, hn_set, hn_more, ]; done) ?_ | fail)
  refine energy_sum.l0_tot hb1 fun m2 hb2 => ?_
  simp only [energy_sum.l0_b]
  repeat (first | refine Tot.pure (by simp (disch := first | omega | (simp only [hn_push, hn_set, hn_more] <;> omega) | fail) [ld1_get, ldN_get, stA_get, boxA, gz, gs, Heap.get_push_ne, Heap.get_push_eq, Heap.get_set_ne, Heap.get_set_eq, get_more, hn_push, hn_set, hn_more, ]; try exact rfl) ?_ | refine Tot.chk (by simp (disch := first | omega | (simp only [hn_push, hn_set, hn_more] <;> omega) | fail) [ld1_get, ldN_get, stA_get, boxA, gz, gs, Heap.get_push_ne, Heap.get_push_eq, Heap.get_set_ne, Heap.get_set_eq, get_more, hn_push, hn_set, hn_more, ]; done) ?_ | fail)
  refine Gv.bind (rat_Add_N (p := 0 + a) (q := b) a1 hb (by omega) (by omega)) ?_
  have a2 := Bq.add a1 hb
  dsimp only [ratQ, ratW]
  repeat (first | refine Tot.pure (by simp (disch := first | omega | (simp only [hn_push, hn_set, hn_more] <;> omega) | fail) [ld1_get, ldN_get, stA_get, boxA, gz, gs, Heap.get_push_ne, Heap.get_push_eq, Heap.get_set_ne, Heap.get_set_eq, get_more, hn_push, hn_set, hn_more, ]; try exact rfl) ?_ | refine Tot.chk (by simp (disch := first | omega | (simp only [hn_push, hn_set, hn_more] <;> omega) | fail) [ld1_get, ldN_get, stA_get, boxA, gz, gs, Heap.get_push_ne, Heap.get_push_eq, Heap.get_set_ne, Heap.get_set_eq, get_more, hn_push, hn_set, hn_more, ]; done) ?_ | fail)
  refine energy_sum.l0_tot hb2 fun m3 hb3 => ?_
  simp only [energy_sum.l0_b]
  repeat (first | refine Tot.pure (by simp (disch := first | omega | (simp only [hn_push, hn_set, hn_more] <;> omega) | fail) [ld1_get, ldN_get, stA_get, boxA, gz, gs, Heap.get_push_ne, Heap.get_push_eq, Heap.get_set_ne, Heap.get_set_eq, get_more, hn_push, hn_set, hn_more, ]; try exact rfl) ?_ | refine Tot.chk (by simp (disch := first | omega | (simp only [hn_push, hn_set, hn_more] <;> omega) | fail) [ld1_get, ldN_get, stA_get, boxA, gz, gs, Heap.get_push_ne, Heap.get_push_eq, Heap.get_set_ne, Heap.get_set_eq, get_more, hn_push, hn_set, hn_more, ]; done) ?_ | fail)
  refine Gv.bind (rat_Add_N (p := 0 + a + b) (q := c) a2 hc (by omega) (by omega)) ?_
  dsimp only [ratQ, ratW]
  repeat (first | refine Tot.pure (by simp (disch := first | omega | (simp only [hn_push, hn_set, hn_more] <;> omega) | fail) [ld1_get, ldN_get, stA_get, boxA, gz, gs, Heap.get_push_ne, Heap.get_push_eq, Heap.get_set_ne, Heap.get_set_eq, get_more, hn_push, hn_set, hn_more, ]; try exact rfl) ?_ | refine Tot.chk (by simp (disch := first | omega | (simp only [hn_push, hn_set, hn_more] <;> omega) | fail) [ld1_get, ldN_get, stA_get, boxA, gz, gs, Heap.get_push_ne, Heap.get_push_eq, Heap.get_set_ne, Heap.get_set_eq, get_more, hn_push, hn_set, hn_more, ]; done) ?_ | fail)
  refine energy_sum.l0_tot hb3 fun m4 hb4 => ?_
  simp only [energy_sum.l0_b]
  repeat (first | refine Tot.pure (by simp (disch := first | omega | (simp only [hn_push, hn_set, hn_more] <;> omega) | fail) [ld1_get, ldN_get, stA_get, boxA, gz, gs, Heap.get_push_ne, Heap.get_push_eq, Heap.get_set_ne, Heap.get_set_eq, get_more, hn_push, hn_set, hn_more, ]; try exact rfl) ?_ | refine Tot.chk (by simp (disch := first | omega | (simp only [hn_push, hn_set, hn_more] <;> omega) | fail) [ld1_get, ldN_get, stA_get, boxA, gz, gs, Heap.get_push_ne, Heap.get_push_eq, Heap.get_set_ne, Heap.get_set_eq, get_more, hn_push, hn_set, hn_more, ]; done) ?_ | fail)
  refine Tot.rf (by simp [V.fro, natW_fro1, bool_fro1]) ?_
  rw [Rat.zero_add]
  simp [V.free, V.frees]
end N
end Go.AM
end
section
set_option linter.unusedVariables false
set_option linter.unusedSimpArgs false
set_option linter.unusedSimpArgs false
set_option linter.unusedVariables false
set_option maxRecDepth 100000
namespace Go.AM
def partQ (x y u v : Rat) : Rat := (x * v - y * u) * ((x * x + x * u + u * u) + (y * y + y * v + v * v))
theorem bSl_rows3 {a b c : Rat} : bSl 3 ty_api_Rat [.bool false, .slice ⟨none, 0, 0, false⟩, .slice ⟨none, 0, 0, false⟩] 3 [(0, .agg [.bool (decide (a.num < 0)), natW a.num.natAbs, natW a.den]), (1, .agg [.bool (decide (b.num < 0)), natW b.num.natAbs, natW b.den]), (2, .agg [.bool (decide (c.num < 0)), natW c.num.natAbs, natW c.den])] = some (.cells (rows3 a b c) ty_api_Rat false) := by
  simp [bSl, rowA, rows3, natW_one]
namespace N
variable {H : Heap}
theorem energy_part_N {x y u v : Rat} {k : Nat} (hx : Bq k x) (hy : Bq k y) (hu : Bq k u) (hv : Bq k v) (h0 : 0 < k) (hk : k < 5000) :
    Gv (fun n => f_energy_part n [spotQ x y, spotQ u v] H) (ratQ (partQ x y u v)) H := by
  refine energy_part_tot (all2 spotQ_fro spotQ_fro) (fre2 spotQ_free spotQ_free) ?_
  simp only [energy_part_b, spotQ]
  repeat (first | refine Tot.pure (by simp (disch := first | omega | (simp only [hn_push, hn_set, hn_more] <;> omega) | fail) [ld1_get, ldN_get, stA_get, boxA, gz, gs, Heap.get_push_ne, Heap.get_push_eq, Heap.get_set_ne, Heap.get_set_eq, get_more, hn_push, hn_set, hn_more, ]; try exact rfl) ?_ | refine Tot.chk (by simp (disch := first | omega | (simp only [hn_push, hn_set, hn_more] <;> omega) | fail) [ld1_get, ldN_get, stA_get, boxA, gz, gs, Heap.get_push_ne, Heap.get_push_eq, Heap.get_set_ne, Heap.get_set_eq, get_more, hn_push, hn_set, hn_more, ]; done) ?_ | fail)
  refine Gv.bind (rat_Mul_N hx hv (by omega) (by omega)) ?_
  dsimp only [ratQ, ratW]
  repeat (first | refine Tot.pure (by simp (disch := first | omega | (simp only [hn_push, hn_set, hn_more] <;> omega) | fail) [ld1_get, ldN_get, stA_get, boxA, gz, gs, Heap.get_push_ne, Heap.get_push_eq, Heap.get_set_ne, Heap.get_set_eq, get_more, hn_push, hn_set, hn_more, ]; try exact rfl) ?_ | refine Tot.chk (by simp (disch := first | omega | (simp only [hn_push, hn_set, hn_more] <;> omega) | fail) [ld1_get, ldN_get, stA_get, boxA, gz, gs, Heap.get_push_ne, Heap.get_push_eq, Heap.get_set_ne, Heap.get_set_eq, get_more, hn_push, hn_set, hn_more, ]; done) ?_ | fail)
  refine Gv.bind (rat_Mul_N hy hu (by omega) (by omega)) ?_
  dsimp only [ratQ, ratW]
  refine Gv.bind (rat_Sub_N (p := x * v) (q := y * u) (hx.mul hv h0) (hy.mul hu h0) (by omega) (by omega)) ?_
  dsimp only [ratQ, ratW]
  repeat (first | refine Tot.pure (by simp (disch := first | omega | (simp only [hn_push, hn_set, hn_more] <;> omega) | fail) [ld1_get, ldN_get, stA_get, boxA, gz, gs, Heap.get_push_ne, Heap.get_push_eq, Heap.get_set_ne, Heap.get_set_eq, get_more, hn_push, hn_set, hn_more, ]; try exact rfl) ?_ | refine Tot.chk (by simp (disch := first | omega | (simp only [hn_push, hn_set, hn_more] <;> omega) | fail) [ld1_get, ldN_get, stA_get, boxA, gz, gs, Heap.get_push_ne, Heap.get_push_eq, Heap.get_set_ne, Heap.get_set_eq, get_more, hn_push, hn_set, hn_more, ]; done) ?_ | fail)
  refine Gv.bind (rat_Mul_N hx hx (by omega) (by omega)) ?_
  dsimp only [ratQ, ratW]
  repeat (first | refine Tot.pure (by simp (disch := first | omega | (simp only [hn_push, hn_set, hn_more] <;> omega) | fail) [ld1_get, ldN_get, stA_get, boxA, gz, gs, Heap.get_push_ne, Heap.get_push_eq, Heap.get_set_ne, Heap.get_set_eq, get_more, hn_push, hn_set, hn_more, ]; try exact rfl) ?_ | refine Tot.chk (by simp (disch := first | omega | (simp only [hn_push, hn_set, hn_more] <;> omega) | fail) [ld1_get, ldN_get, stA_get, boxA, gz, gs, Heap.get_push_ne, Heap.get_push_eq, Heap.get_set_ne, Heap.get_set_eq, get_more, hn_push, hn_set, hn_more, ]; done) ?_ | fail)
  refine Gv.bind (rat_Mul_N hx hu (by omega) (by omega)) ?_
  dsimp only [ratQ, ratW]
  repeat (first | refine Tot.pure (by simp (disch := first | omega | (simp only [hn_push, hn_set, hn_more] <;> omega) | fail) [ld1_get, ldN_get, stA_get, boxA, gz, gs, Heap.get_push_ne, Heap.get_push_eq, Heap.get_set_ne, Heap.get_set_eq, get_more, hn_push, hn_set, hn_more, ]; try exact rfl) ?_ | refine Tot.chk (by simp (disch := first | omega | (simp only [hn_push, hn_set, hn_more] <;> omega) | fail) [ld1_get, ldN_get, stA_get, boxA, gz, gs, Heap.get_push_ne, Heap.get_push_eq, Heap.get_set_ne, Heap.get_set_eq, get_more, hn_push, hn_set, hn_more, ]; done) ?_ | fail)
  refine Gv.bind (rat_Mul_N hu hu (by omega) (by omega)) ?_
  dsimp only [ratQ, ratW]
  repeat (first | refine Tot.pure (by simp (disch := first | omega | (simp only [hn_push, hn_set, hn_more] <;> omega) | fail) [ld1_get, ldN_get, stA_get, boxA, gz, gs, Heap.get_push_ne, Heap.get_push_eq, Heap.get_set_ne, Heap.get_set_eq, get_more, hn_push, hn_set, hn_more, ]; try exact rfl) ?_ | refine Tot.chk (by simp (disch := first | omega | (simp only [hn_push, hn_set, hn_more] <;> omega) | fail) [ld1_get, ldN_get, stA_get, boxA, gz, gs, Heap.get_push_ne, Heap.get_push_eq, Heap.get_set_ne, Heap.get_set_eq, get_more, hn_push, hn_set, hn_more, ]; done) ?_ | fail)
  refine Tot.pure bSl_rows3 ?_
  refine Gv.pbind energy_sum_in (frz_own (cs := rows3 (x * x) (x * u) (u * u)) (e := ty_api_Rat) (r := false) ?_ rows3_fro rfl (by decide)) (all1 list_fro) (energy_sum_N (hx.mul hx h0) (hx.mul hu h0) (hu.mul hu h0) (by omega)) ?_
  · simp (disch := first | omega | (simp only [hn_push, hn_set, hn_more] <;> omega) | (simp <;> omega) | fail) [ld1_get, ldN_get, stA_get, faA_mk, boxA_agg, Heap.get_push_ne, Heap.get_push_eq, Heap.get_set_ne, Heap.get_set_eq, get_more, hn_push, hn_set, hn_more, chk_agg, rows3]
  dsimp only [ratQ, ratW]
  repeat (first | refine Tot.pure (by simp (disch := first | omega | (simp only [hn_push, hn_set, hn_more] <;> omega) | fail) [ld1_get, ldN_get, stA_get, boxA, gz, gs, Heap.get_push_ne, Heap.get_push_eq, Heap.get_set_ne, Heap.get_set_eq, get_more, hn_push, hn_set, hn_more, ]; try exact rfl) ?_ | refine Tot.chk (by simp (disch := first | omega | (simp only [hn_push, hn_set, hn_more] <;> omega) | fail) [ld1_get, ldN_get, stA_get, boxA, gz, gs, Heap.get_push_ne, Heap.get_push_eq, Heap.get_set_ne, Heap.get_set_eq, get_more, hn_push, hn_set, hn_more, ]; done) ?_ | fail)
  refine Gv.bind (rat_Mul_N hy hy (by omega) (by omega)) ?_
  dsimp only [ratQ, ratW]
  repeat (first | refine Tot.pure (by simp (disch := first | omega | (simp only [hn_push, hn_set, hn_more] <;> omega) | fail) [ld1_get, ldN_get, stA_get, boxA, gz, gs, Heap.get_push_ne, Heap.get_push_eq, Heap.get_set_ne, Heap.get_set_eq, get_more, hn_push, hn_set, hn_more, ]; try exact rfl) ?_ | refine Tot.chk (by simp (disch := first | omega | (simp only [hn_push, hn_set, hn_more] <;> omega) | fail) [ld1_get, ldN_get, stA_get, boxA, gz, gs, Heap.get_push_ne, Heap.get_push_eq, Heap.get_set_ne, Heap.get_set_eq, get_more, hn_push, hn_set, hn_more, ]; done) ?_ | fail)
  refine Gv.bind (rat_Mul_N hy hv (by omega) (by omega)) ?_
  dsimp only [ratQ, ratW]
  repeat (first | refine Tot.pure (by simp (disch := first | omega | (simp only [hn_push, hn_set, hn_more] <;> omega) | fail) [ld1_get, ldN_get, stA_get, boxA, gz, gs, Heap.get_push_ne, Heap.get_push_eq, Heap.get_set_ne, Heap.get_set_eq, get_more, hn_push, hn_set, hn_more, ]; try exact rfl) ?_ | refine Tot.chk (by simp (disch := first | omega | (simp only [hn_push, hn_set, hn_more] <;> omega) | fail) [ld1_get, ldN_get, stA_get, boxA, gz, gs, Heap.get_push_ne, Heap.get_push_eq, Heap.get_set_ne, Heap.get_set_eq, get_more, hn_push, hn_set, hn_more, ]; done) ?_ | fail)
  refine Gv.bind (rat_Mul_N hv hv (by omega) (by omega)) ?_
  dsimp only [ratQ, ratW]
  refine Tot.pure bSl_rows3 ?_
  refine Gv.pbind energy_sum_in (frz_own (cs := rows3 (y * y) (y * v) (v * v)) (e := ty_api_Rat) (r := false) ?_ rows3_fro rfl (by decide)) (all1 list_fro) (energy_sum_N (hy.mul hy h0) (hy.mul hv h0) (hv.mul hv h0) (by omega)) ?_
  · simp (disch := first | omega | (simp only [hn_push, hn_set, hn_more] <;> omega) | (simp <;> omega) | fail) [ld1_get, ldN_get, stA_get, faA_mk, boxA_agg, Heap.get_push_ne, Heap.get_push_eq, Heap.get_set_ne, Heap.get_set_eq, get_more, hn_push, hn_set, hn_more, chk_agg, rows3]
  dsimp only [ratQ, ratW]
  repeat (first | refine Tot.pure (by simp (disch := first | omega | (simp only [hn_push, hn_set, hn_more] <;> omega) | fail) [ld1_get, ldN_get, stA_get, boxA, gz, gs, Heap.get_push_ne, Heap.get_push_eq, Heap.get_set_ne, Heap.get_set_eq, get_more, hn_push, hn_set, hn_more, ]; try exact rfl) ?_ | refine Tot.chk (by simp (disch := first | omega | (simp only [hn_push, hn_set, hn_more] <;> omega) | fail) [ld1_get, ldN_get, stA_get, boxA, gz, gs, Heap.get_push_ne, Heap.get_push_eq, Heap.get_set_ne, Heap.get_set_eq, get_more, hn_push, hn_set, hn_more, ]; done) ?_ | fail)
  have b1 := ((hx.mul hx h0).add (hx.mul hu h0)).add (hu.mul hu h0)
  have b2 := ((hy.mul hy h0).add (hy.mul hv h0)).add (hv.mul hv h0)
  refine Gv.bind (rat_Add_N b1 b2 (by omega) (by omega)) ?_
  dsimp only [ratQ, ratW]
  repeat (first | refine Tot.pure (by simp (disch := first | omega | (simp only [hn_push, hn_set, hn_more] <;> omega) | fail) [ld1_get, ldN_get, stA_get, boxA, gz, gs, Heap.get_push_ne, Heap.get_push_eq, Heap.get_set_ne, Heap.get_set_eq, get_more, hn_push, hn_set, hn_more, ]; try exact rfl) ?_ | refine Tot.chk (by simp (disch := first | omega | (simp only [hn_push, hn_set, hn_more] <;> omega) | fail) [ld1_get, ldN_get, stA_get, boxA, gz, gs, Heap.get_push_ne, Heap.get_push_eq, Heap.get_set_ne, Heap.get_set_eq, get_more, hn_push, hn_set, hn_more, ]; done) ?_ | fail)
  refine Gv.bind (rat_Mul_N (p := x * v - y * u) ((hx.mul hv h0).sub (hy.mul hu h0)) (b1.add b2) (by omega) (by omega)) ?_
  dsimp only [ratQ, ratW]
  repeat (first | refine Tot.pure (by simp (disch := first | omega | (simp only [hn_push, hn_set, hn_more] <;> omega) | fail) [ld1_get, ldN_get, stA_get, boxA, gz, gs, Heap.get_push_ne, Heap.get_push_eq, Heap.get_set_ne, Heap.get_set_eq, get_more, hn_push, hn_set, hn_more, ]; try exact rfl) ?_ | refine Tot.chk (by simp (disch := first | omega | (simp only [hn_push, hn_set, hn_more] <;> omega) | fail) [ld1_get, ldN_get, stA_get, boxA, gz, gs, Heap.get_push_ne, Heap.get_push_eq, Heap.get_set_ne, Heap.get_set_eq, get_more, hn_push, hn_set, hn_more, ]; done) ?_ | fail)
  exact Tot.rf (by simp [V.fro, natW_fro1, bool_fro1]) (by simp [V.free, V.frees, partQ] <;> first | rfl | exact decide_eq_decide.2 Iff.rfl)
end N
end Go.AM
end
section
set_option linter.unusedVariables false
set_option linter.unusedSimpArgs false
set_option linter.unusedSimpArgs false
set_option linter.unusedVariables false
set_option maxRecDepth 100000
namespace Go.AM
def rawL (s : Bool) (l q : List Nat) : V := .agg [.bool s, encN .u32 l, encN .u32 q]
def rawQ (s : Bool) (l q : List Nat) : Rat := mkRat (sgn s (val 4294967296 l)) (val 4294967296 q)
structure Raw (l q : List Nat) : Prop where
  l1 : Lim 4294967296 l
  l2 : Lim 4294967296 q
  l3 : l.length ≤ 2
  l4 : q.length ≤ 1
theorem decR_raw {s : Bool} {l q : List Nat} (h : Raw l q) : decR (rawL s l q) = some (sgn s (val 4294967296 l), val 4294967296 q) := by
  have := h.l3
  have := h.l4
  simp only [rawL, decR, decL_enc h.l1 (by omega), decL_enc h.l2 (by omega)]
theorem rawL_fro {s : Bool} {l q : List Nat} : (rawL s l q).fro = true := by simp [rawL, V.fro, encN_fro1, bool_fro1]
theorem rawL_free {s : Bool} {l q : List Nat} : (rawL s l q).free = true := by simp [rawL, V.free, V.frees, encN_free]
theorem rawQ_B {s : Bool} {l q : List Nat} (h : Raw l q) : Bq 64 (rawQ s l q) := by
  have h1 := val_lt h.l1
  have h2 := val_lt h.l2
  have e1 : 4294967296 ^ l.length ≤ 4294967296 ^ 2 := Nat.pow_le_pow_right (by decide) h.l3
  have e2 : 4294967296 ^ q.length ≤ 4294967296 ^ 2 := Nat.pow_le_pow_right (by decide) (by have := h.l4; omega)
  have e3 : 4294967296 ^ 2 = 2 ^ 64 := by decide
  refine Bq.mk ?_ ?_ (by decide)
  · rw [sgn_abs]; omega
  · omega
namespace N
variable {H : Heap}
theorem rat_norm_raw {s : Bool} {l q : List Nat} (h : Raw l q) : Gv (fun m => f_rat_norm m [rawL s l q] H) (ratQ (rawQ s l q)) H :=
  rat_norm_ext (ext_tot (all1 rawL_fro) (by simp only [dR, decR_raw h]; rfl) ⟨rfl, by simp only [ratQ, low_mk, rawQ]⟩)
theorem rat_Sub_raw {s t : Bool} {l q l' q' : List Nat} (h : Raw l q) (h' : Raw l' q') : Gv (fun n => f_rat_Sub n [rawL s l q, rawL t l' q'] H) (ratQ (rawQ s l q - rawQ t l' q')) H := by
  refine rat_Sub_tot (all2 rawL_fro rawL_fro) (fre2 rawL_free rawL_free) ?_
  simp only [rat_Sub_b, rawL]
  repeat (first | refine Tot.pure (by simp (disch := first | omega | (simp only [hn_push, hn_set, hn_more] <;> omega) | fail) [ld1_get, ldN_get, stA_get, boxA, gz, gs, Heap.get_push_ne, Heap.get_push_eq, Heap.get_set_ne, Heap.get_set_eq, get_more, hn_push, hn_set, hn_more, encN_one, encN_cells, encN_beq]; try exact rfl) ?_ | refine Tot.chk (by simp (disch := first | omega | (simp only [hn_push, hn_set, hn_more] <;> omega) | fail) [ld1_get, ldN_get, stA_get, boxA, gz, gs, Heap.get_push_ne, Heap.get_push_eq, Heap.get_set_ne, Heap.get_set_eq, get_more, hn_push, hn_set, hn_more, encN_one, encN_cells, encN_beq]; done) ?_ | fail)
  refine Gv.bind (rat_norm_raw h) ?_
  dsimp only
  repeat (first | refine Tot.pure (by simp (disch := first | omega | (simp only [hn_push, hn_set, hn_more] <;> omega) | fail) [ld1_get, ldN_get, stA_get, boxA, gz, gs, Heap.get_push_ne, Heap.get_push_eq, Heap.get_set_ne, Heap.get_set_eq, get_more, hn_push, hn_set, hn_more, encN_one, encN_cells, encN_beq]; try exact rfl) ?_ | refine Tot.chk (by simp (disch := first | omega | (simp only [hn_push, hn_set, hn_more] <;> omega) | fail) [ld1_get, ldN_get, stA_get, boxA, gz, gs, Heap.get_push_ne, Heap.get_push_eq, Heap.get_set_ne, Heap.get_set_eq, get_more, hn_push, hn_set, hn_more, encN_one, encN_cells, encN_beq]; done) ?_ | fail)
  refine Gv.bind (rat_norm_raw h') ?_
  refine Gv.bind (rat_neg_N (rawQ_B h') (by omega)) ?_
  dsimp only
  refine Gv.bind (rat_add_N (rawQ_B h) (rawQ_B h').neg (by omega) (by omega)) ?_
  rw [← Rat.sub_eq_add_neg]
  dsimp only [ratQ, ratW]
  repeat (first | refine Tot.pure (by simp (disch := first | omega | (simp only [hn_push, hn_set, hn_more] <;> omega) | fail) [ld1_get, ldN_get, stA_get, boxA, gz, gs, Heap.get_push_ne, Heap.get_push_eq, Heap.get_set_ne, Heap.get_set_eq, get_more, hn_push, hn_set, hn_more, ]; try exact rfl) ?_ | refine Tot.chk (by simp (disch := first | omega | (simp only [hn_push, hn_set, hn_more] <;> omega) | fail) [ld1_get, ldN_get, stA_get, boxA, gz, gs, Heap.get_push_ne, Heap.get_push_eq, Heap.get_set_ne, Heap.get_set_eq, get_more, hn_push, hn_set, hn_more, ]; done) ?_ | fail)
  exact Tot.rf (by simp) (by simp)
def spotR (s : Bool) (l q : List Nat) (t : Bool) (l' q' : List Nat) : V := .agg [.bool s, encN .u32 l, encN .u32 q, .bool t, encN .u32 l', encN .u32 q']
theorem spotR_fro {s t : Bool} {l q l' q' : List Nat} : (spotR s l q t l' q').fro = true := by simp [spotR, V.fro, encN_fro1, bool_fro1]
theorem spotR_free {s t : Bool} {l q l' q' : List Nat} : (spotR s l q t l' q').free = true := by simp [spotR, V.free, V.frees, encN_free]
theorem energy_seen_raw {s1 s2 s3 s4 : Bool} {l1 q1 l2 q2 l3 q3 l4 q4 : List Nat} (h1 : Raw l1 q1) (h2 : Raw l2 q2) (h3 : Raw l3 q3) (h4 : Raw l4 q4) :
    Gv (fun n => f_energy_seen n [spotR s1 l1 q1 s2 l2 q2, spotR s3 l3 q3 s4 l4 q4] H) (spotQ (rawQ s1 l1 q1 - rawQ s3 l3 q3) (rawQ s2 l2 q2 - rawQ s4 l4 q4)) H := by
  refine energy_seen_tot (all2 spotR_fro spotR_fro) (fre2 spotR_free spotR_free) ?_
  simp only [energy_seen_b, spotR]
  repeat (first | refine Tot.pure (by simp (disch := first | omega | (simp only [hn_push, hn_set, hn_more] <;> omega) | fail) [ld1_get, ldN_get, stA_get, boxA, gz, gs, Heap.get_push_ne, Heap.get_push_eq, Heap.get_set_ne, Heap.get_set_eq, get_more, hn_push, hn_set, hn_more, encN_one, encN_cells, encN_beq]; try exact rfl) ?_ | refine Tot.chk (by simp (disch := first | omega | (simp only [hn_push, hn_set, hn_more] <;> omega) | fail) [ld1_get, ldN_get, stA_get, boxA, gz, gs, Heap.get_push_ne, Heap.get_push_eq, Heap.get_set_ne, Heap.get_set_eq, get_more, hn_push, hn_set, hn_more, encN_one, encN_cells, encN_beq]; done) ?_ | fail)
  refine Gv.bind (rat_Sub_raw h1 h3) ?_
  dsimp only [ratQ, ratW]
  repeat (first | refine Tot.pure (by simp (disch := first | omega | (simp only [hn_push, hn_set, hn_more] <;> omega) | fail) [ld1_get, ldN_get, stA_get, boxA, gz, gs, Heap.get_push_ne, Heap.get_push_eq, Heap.get_set_ne, Heap.get_set_eq, get_more, hn_push, hn_set, hn_more, encN_one, encN_cells, encN_beq]; try exact rfl) ?_ | refine Tot.chk (by simp (disch := first | omega | (simp only [hn_push, hn_set, hn_more] <;> omega) | fail) [ld1_get, ldN_get, stA_get, boxA, gz, gs, Heap.get_push_ne, Heap.get_push_eq, Heap.get_set_ne, Heap.get_set_eq, get_more, hn_push, hn_set, hn_more, encN_one, encN_cells, encN_beq]; done) ?_ | fail)
  refine Gv.bind (rat_Sub_raw h2 h4) ?_
  dsimp only [ratQ, ratW]
  repeat (first | refine Tot.pure (by simp (disch := first | omega | (simp only [hn_push, hn_set, hn_more] <;> omega) | fail) [ld1_get, ldN_get, stA_get, boxA, gz, gs, Heap.get_push_ne, Heap.get_push_eq, Heap.get_set_ne, Heap.get_set_eq, get_more, hn_push, hn_set, hn_more, ]; try exact rfl) ?_ | refine Tot.chk (by simp (disch := first | omega | (simp only [hn_push, hn_set, hn_more] <;> omega) | fail) [ld1_get, ldN_get, stA_get, boxA, gz, gs, Heap.get_push_ne, Heap.get_push_eq, Heap.get_set_ne, Heap.get_set_eq, get_more, hn_push, hn_set, hn_more, ]; done) ?_ | fail)
  exact Tot.rf (by simp [V.fro, natW_fro1, bool_fro1]) (by simp [V.free, V.frees, spotQ])
end N
end Go.AM
end
section
set_option linter.unusedVariables false
set_option linter.unusedSimpArgs false
set_option linter.unusedSimpArgs false
set_option linter.unusedVariables false
set_option maxRecDepth 100000
namespace Go.AM
structure Spt where
  s : Bool
  l : List Nat
  q : List Nat
  t : Bool
  m : List Nat
  r : List Nat
structure Spt.ok (p : Spt) : Prop where
  x : Raw p.l p.q
  y : Raw p.m p.r
def Spt.cells (p : Spt) : List V := [.bool p.s, encN .u32 p.l, encN .u32 p.q, .bool p.t, encN .u32 p.m, encN .u32 p.r]
def Spt.x (p : Spt) : Rat := rawQ p.s p.l p.q
def Spt.y (p : Spt) : Rat := rawQ p.t p.m p.r
def rowS (L : List Spt) : V := if L.length = 0 then .list 0 0 [] else .list L.length 6 (L.flatMap Spt.cells)
theorem drop6 : ∀ (L : List Spt) (i : Nat) (h : i < L.length), ((L.flatMap Spt.cells).drop (i * 6)).take 6 = L[i].cells ∧ 6 ≤ ((L.flatMap Spt.cells).drop (i * 6)).length
  | p :: L, 0, h => by simp [Spt.cells]
  | p :: L, i + 1, h => by
    have := drop6 L i (by simpa using h)
    have e : (i + 1) * 6 = 6 + i * 6 := by omega
    have e2 : p.cells.length = 6 := rfl
    have e3 : (p.cells ++ L.flatMap Spt.cells).drop 6 = L.flatMap Spt.cells := by rw [← e2, List.drop_left]
    rw [List.flatMap_cons, e, ← List.drop_drop, e3]
    simpa using this
theorem idxS_row {L : List Spt} {i : Nat} (h : i < L.length) : idxS 6 (rowS L) (.int .i64 (i : Int)) = some (.lptr ((L.flatMap Spt.cells).drop (i * 6))) := by
  unfold rowS
  rw [if_neg (by omega)]
  simp only [idxS, Int.toNat_natCast]
  rw [if_pos (by constructor <;> simp <;> omega)]
theorem ldN_row {L : List Spt} {i : Nat} (h : i < L.length) {H : Heap} : ldN 6 (.lptr ((L.flatMap Spt.cells).drop (i * 6))) H = some (.agg L[i].cells) := by
  obtain ⟨h1, h2⟩ := drop6 L i h
  simp only [ldN, if_pos h2, h1]
theorem lenSl_row {L : List Spt} (h : L.length < 1000) : lenSl (rowS L) = some (.int .i64 (L.length : Int)) := by
  unfold rowS
  split
  · simp_all [lenSl]
  · simp_all [lenSl]
theorem flat_fro : ∀ L : List Spt, (L.flatMap Spt.cells).all V.fro1 = true ∧ V.frees (L.flatMap Spt.cells) = true
  | [] => ⟨rfl, rfl⟩
  | p :: L => by
    have := flat_fro L
    simp only [List.flatMap_cons, Spt.cells, List.cons_append, List.nil_append, List.all_cons, frees_cons]
    simp [encN_fro1, encN_free, this]
theorem rowS_fro {L : List Spt} : (rowS L).fro = true := by unfold rowS; split <;> rfl
theorem rowS_free {L : List Spt} : (rowS L).free = true := by
  unfold rowS; split
  · simp [V.free, V.frees]
  · simp [V.free, (flat_fro L).2]
instance : Inhabited Spt := ⟨⟨false, [], [], false, [], []⟩⟩
def momTo (L : List Spt) (c : Spt) : Nat → Rat
  | 0 => 0
  | i + 1 => momTo L c i + partQ ((L[i]!).x - c.x) ((L[i]!).y - c.y) ((L[(i + 1) % L.length]!).x - c.x) ((L[(i + 1) % L.length]!).y - c.y)
theorem Spt.ok.dx {p c : Spt} (h : p.ok) (k : c.ok) : Bq 129 (p.x - c.x) := (rawQ_B h.x).sub (rawQ_B k.x)
theorem Spt.ok.dy {p c : Spt} (h : p.ok) (k : c.ok) : Bq 129 (p.y - c.y) := (rawQ_B h.y).sub (rawQ_B k.y)
theorem partQ_B {x y u v : Rat} {k : Nat} (hx : Bq k x) (hy : Bq k y) (hu : Bq k u) (hv : Bq k v) (h0 : 0 < k) : Bq (16 * k + 6) (partQ x y u v) := by
  have b1 := ((hx.mul hx h0).add (hx.mul hu h0)).add (hu.mul hu h0)
  have b2 := ((hy.mul hy h0).add (hy.mul hv h0)).add (hv.mul hv h0)
  exact (((hx.mul hv h0).sub (hy.mul hu h0)).mul (b1.add b2) (by omega)).mono (by omega)
theorem momTo_B {L : List Spt} {c : Spt} (hL : ∀ p ∈ L, p.ok) (hc : c.ok) : ∀ i, i ≤ L.length → Bq (1 + i * 2071) (momTo L c i)
  | 0, _ => Bq.zero
  | i + 1, h => by
    have a := momTo_B hL hc i (by omega)
    have h1 : i < L.length := by omega
    have h2 : (i + 1) % L.length < L.length := Nat.mod_lt _ (by omega)
    have o1 := hL L[i] (List.getElem_mem h1)
    have o2 := hL L[(i + 1) % L.length] (List.getElem_mem h2)
    have := a.add (partQ_B (o1.dx hc) (o1.dy hc) (o2.dx hc) (o2.dy hc) (by decide))
    unfold momTo
    rw [getElem!_pos L i h1, getElem!_pos L _ h2]
    exact this.mono (by omega)
end Go.AM
end
section
set_option linter.unusedVariables false
set_option linter.unusedSimpArgs false
set_option linter.unusedSimpArgs false
set_option linter.unusedVariables false
set_option maxRecDepth 100000
namespace Go.AM
theorem rem_is {i n : Nat} (h : 0 < n) (hn : n < 1000) (hi : i < 1000) : arA .rem (.int .i64 (i : Int)) (.int .i64 (n : Int)) = some (.int .i64 ((i % n : Nat) : Int)) := by
  simp (disch := omega) []
theorem chk_ratQ {q : Rat} : chk (some (ratQ q)) (ratQ q) = some () := by simp [ratQ, ratW, V.beq]
theorem bool_one {b : Bool} : (V.bool b).one = true := rfl
theorem more0 {H : Heap} : H.more 0 = H := rfl
theorem beqs_cells {p : Spt} : V.beqs p.cells p.cells = true := by simp [Spt.cells, encN_beq, V.beq]
theorem add1_is {i : Nat} (hi : i < 1000) : arA .add (.int .i64 (i : Int)) (.int .i64 1) = some (.int .i64 ((i + 1 : Nat) : Int)) := by
  simp (disch := omega) []
namespace N
theorem moment_loop {L : List Spt} {c : Spt} (hL : ∀ p ∈ L, p.ok) (hc : c.ok) (hn : L.length < 100) (h3 : 3 ≤ L.length) : ∀ (j i : Nat) (H : Heap) (m : Nat → Nat), i + j = L.length → Big m →
    H.get 0 = .cells c.cells ty_api_Spot false → H.get 1 = .cells [.bool false, .slice ⟨none, 0, 0, false⟩, .slice ⟨none, 0, 0, false⟩] ty_api_Rat false →
    H.get 2 = .cells [.bool (decide ((momTo L c i).num < 0)), natW (momTo L c i).num.natAbs, natW (momTo L c i).den] ty_api_Rat false →
    Tot (fun n => energy_moment.l0 n (m n) (rowS L) (.ptr (some (0, 0))) (.ptr (some (1, 0))) (.ptr (some (2, 0))) (.int .i64 (L.length : Int)) (.int .i64 (i : Int)) H) fun v _ => v = ratQ (momTo L c L.length)
  | 0, i, H, m, hij, hm, g0, g1, g2 => by
    refine energy_moment.l0_tot hm fun m' hm' => ?_
    simp only [energy_moment.l0_b]
    obtain rfl : i = L.length := by omega
    repeat (first | refine Tot.pure (by simp (disch := first | omega | (simp only [hn_push, hn_set, hn_more] <;> omega) | fail) [ld1_get, ldN_get, stA_get, boxA, gz, gs, Heap.get_push_ne, Heap.get_push_eq, Heap.get_set_ne, Heap.get_set_eq, get_more, hn_push, hn_set, hn_more, g0, g1, g2]; try exact rfl) ?_ | refine Tot.chk (by simp (disch := first | omega | (simp only [hn_push, hn_set, hn_more] <;> omega) | fail) [ld1_get, ldN_get, stA_get, boxA, gz, gs, Heap.get_push_ne, Heap.get_push_eq, Heap.get_set_ne, Heap.get_set_eq, get_more, hn_push, hn_set, hn_more, g0, g1, g2]; done) ?_ | fail)
    exact Tot.rf (by simp) (by simp [ratQ, ratW])
  | j + 1, i, H, m, hij, hm, g0, g1, g2 => by
    have h1 : i < L.length := by omega
    have h2 : (i + 1) % L.length < L.length := Nat.mod_lt _ (by omega)
    have o1 := hL L[i] (List.getElem_mem h1)
    have o2 := hL L[(i + 1) % L.length] (List.getElem_mem h2)
    have hr := rem_is (i := i + 1) (n := L.length) (by omega) (by omega) (by omega)
    refine energy_moment.l0_tot hm fun m' hm' => ?_
    simp only [energy_moment.l0_b, more0]
    have l0 : ldN 6 (.ptr (some (0, 0))) H = some (.agg c.cells) := by simp [ldN, g0, Spt.cells]
    have l2 : ldN 3 (.ptr (some (2, 0))) H = some (ratQ (momTo L c i)) := by simp [ldN, g2, ratQ, ratW]
    have ln := lenSl_row (L := L) (by omega)
    have ad := add1_is (i := i) (by omega)
    have e1 : (arA .lss (.int .i64 (i : Int)) (.int .i64 (L.length : Int))) = some (.bool true) := by simp (disch := omega) []; omega
    refine Tot.pure e1 ?_
    repeat (first | refine Tot.pure (by simp (disch := first | omega | (simp only [hn_push, hn_set, hn_more] <;> omega) | fail) [ld1_get, ldN_get, stA_get, boxA, gz, gs, Heap.get_push_ne, Heap.get_push_eq, Heap.get_set_ne, Heap.get_set_eq, get_more, hn_push, hn_set, hn_more, idxS_row h1, ldN_row h1, l0]; try exact rfl) ?_ | refine Tot.chk (by simp (disch := first | omega | (simp only [hn_push, hn_set, hn_more] <;> omega) | fail) [ld1_get, ldN_get, stA_get, boxA, gz, gs, Heap.get_push_ne, Heap.get_push_eq, Heap.get_set_ne, Heap.get_set_eq, get_more, hn_push, hn_set, hn_more, idxS_row h1, ldN_row h1, l0]; done) ?_ | fail)
    refine Gv.bind (energy_seen_raw o1.x o1.y hc.x hc.y) ?_
    refine Tot.pure ad ?_
    refine Tot.pure ln ?_
    refine Tot.pure hr ?_
    refine Tot.pure (idxS_row h2) ?_
    refine Tot.pure (ldN_row h2) ?_
    repeat (first | refine Tot.pure (by simp (disch := first | omega | (simp only [hn_push, hn_set, hn_more] <;> omega) | fail) [ld1_get, ldN_get, stA_get, boxA, gz, gs, Heap.get_push_ne, Heap.get_push_eq, Heap.get_set_ne, Heap.get_set_eq, get_more, hn_push, hn_set, hn_more, idxS_row h2, ldN_row h2, l0, beqs_cells]; try exact rfl) ?_ | refine Tot.chk (by simp (disch := first | omega | (simp only [hn_push, hn_set, hn_more] <;> omega) | fail) [ld1_get, ldN_get, stA_get, boxA, gz, gs, Heap.get_push_ne, Heap.get_push_eq, Heap.get_set_ne, Heap.get_set_eq, get_more, hn_push, hn_set, hn_more, idxS_row h2, ldN_row h2, l0, beqs_cells]; done) ?_ | fail)
    refine Gv.bind (energy_seen_raw o2.x o2.y hc.x hc.y) ?_
    dsimp only
    refine Gv.bind (energy_part_N (o1.dx hc) (o1.dy hc) (o2.dx hc) (o2.dy hc) (by decide) (by decide)) ?_
    dsimp only
    repeat (first | refine Tot.pure (by simp (disch := first | omega | (simp only [hn_push, hn_set, hn_more] <;> omega) | fail) [ld1_get, ldN_get, stA_get, boxA, gz, gs, Heap.get_push_ne, Heap.get_push_eq, Heap.get_set_ne, Heap.get_set_eq, get_more, hn_push, hn_set, hn_more, l2, chk_ratQ]; try exact rfl) ?_ | refine Tot.chk (by simp (disch := first | omega | (simp only [hn_push, hn_set, hn_more] <;> omega) | fail) [ld1_get, ldN_get, stA_get, boxA, gz, gs, Heap.get_push_ne, Heap.get_push_eq, Heap.get_set_ne, Heap.get_set_eq, get_more, hn_push, hn_set, hn_more, l2, chk_ratQ]; done) ?_ | fail)
    have bt := momTo_B hL hc i (by omega)
    have bp := partQ_B (o1.dx hc) (o1.dy hc) (o2.dx hc) (o2.dy hc) (by decide)
    refine Gv.bind (rat_Add_N bt bp (by omega) (by omega)) ?_
    dsimp only
    have st : stA 3 (.ptr (some (2, 0))) (ratQ (momTo L c (i + 1))) H = some (H.set 2 (.cells [.bool (decide ((momTo L c (i + 1)).num < 0)), natW (momTo L c (i + 1)).num.natAbs, natW (momTo L c (i + 1)).den] ty_api_Rat false)) := by
      simp [stA, g2, ratQ, ratW, V.cells, bool_one, lset]
    have mm : momTo L c i + partQ (L[i].x - c.x) (L[i].y - c.y) (L[(i + 1) % L.length].x - c.x) (L[(i + 1) % L.length].y - c.y) = momTo L c (i + 1) := by
      show _ = momTo L c i + _
      rw [getElem!_pos L i h1, getElem!_pos L _ h2]
    have mm' : momTo L c i + partQ (rawQ L[i].s L[i].l L[i].q - rawQ c.s c.l c.q) (rawQ L[i].t L[i].m L[i].r - rawQ c.t c.m c.r) (rawQ L[(i + 1) % L.length].s L[(i + 1) % L.length].l L[(i + 1) % L.length].q - rawQ c.s c.l c.q) (rawQ L[(i + 1) % L.length].t L[(i + 1) % L.length].m L[(i + 1) % L.length].r - rawQ c.t c.m c.r) = momTo L c (i + 1) := mm
    try rw [mm]
    try rw [mm']
    refine Tot.pure st ?_
    refine Tot.pure ad ?_
    exact moment_loop hL hc hn h3 j (i + 1) _ m' (by omega) hm' (by simp (disch := first | omega | (simp only [hn_push, hn_set, hn_more] <;> omega) | (simp <;> omega) | fail) [ld1_get, ldN_get, stA_get, faA_mk, boxA_agg, Heap.get_push_ne, Heap.get_push_eq, Heap.get_set_ne, Heap.get_set_eq, get_more, hn_push, hn_set, hn_more, chk_agg, g0]) (by simp (disch := first | omega | (simp only [hn_push, hn_set, hn_more] <;> omega) | (simp <;> omega) | fail) [ld1_get, ldN_get, stA_get, faA_mk, boxA_agg, Heap.get_push_ne, Heap.get_push_eq, Heap.get_set_ne, Heap.get_set_eq, get_more, hn_push, hn_set, hn_more, chk_agg, g1]) (by simp (disch := first | omega | (simp only [hn_push, hn_set, hn_more] <;> omega) | (simp <;> omega) | fail) [ld1_get, ldN_get, stA_get, faA_mk, boxA_agg, Heap.get_push_ne, Heap.get_push_eq, Heap.get_set_ne, Heap.get_set_eq, get_more, hn_push, hn_set, hn_more, chk_agg, g2])
end N
end Go.AM
end
section
set_option linter.unusedVariables false
set_option linter.unusedSimpArgs false
set_option linter.unusedSimpArgs false
set_option linter.unusedVariables false
set_option maxRecDepth 100000
namespace Go.AM
def momQ (L : List Spt) (c : Spt) : Rat := if L.length < 3 then 0 else momTo L c L.length
theorem cells_fro {c : Spt} : (V.agg c.cells).fro = true := N.spotR_fro
theorem cells_free {c : Spt} : (V.agg c.cells).free = true := N.spotR_free
namespace N
variable {H : Heap}
theorem energy_moment_N {L : List Spt} {c : Spt} (hL : ∀ p ∈ L, p.ok) (hc : c.ok) (hn : L.length < 100) :
    Gv (fun n => f_energy_moment n [rowS L, .agg c.cells] H) (ratQ (momQ L c)) H := by
  refine energy_moment_tot (all2 rowS_fro cells_fro) (fre2 rowS_free cells_free) ?_
  simp only [energy_moment_b, Spt.cells]
  repeat (first | refine Tot.pure (by simp (disch := first | omega | (simp only [hn_push, hn_set, hn_more] <;> omega) | fail) [ld1_get, ldN_get, stA_get, boxA, gz, gs, Heap.get_push_ne, Heap.get_push_eq, Heap.get_set_ne, Heap.get_set_eq, get_more, hn_push, hn_set, hn_more, encN_one, encN_cells]; try exact rfl) ?_ | refine Tot.chk (by simp (disch := first | omega | (simp only [hn_push, hn_set, hn_more] <;> omega) | fail) [ld1_get, ldN_get, stA_get, boxA, gz, gs, Heap.get_push_ne, Heap.get_push_eq, Heap.get_set_ne, Heap.get_set_eq, get_more, hn_push, hn_set, hn_more, encN_one, encN_cells]; done) ?_ | fail)
  refine Gv.bind (rat_Of_N (by omega)) ?_
  dsimp only [ratQ, ratW]
  repeat (first | refine Tot.pure (by simp (disch := first | omega | (simp only [hn_push, hn_set, hn_more] <;> omega) | fail) [ld1_get, ldN_get, stA_get, boxA, gz, gs, Heap.get_push_ne, Heap.get_push_eq, Heap.get_set_ne, Heap.get_set_eq, get_more, hn_push, hn_set, hn_more, ]; try exact rfl) ?_ | refine Tot.chk (by simp (disch := first | omega | (simp only [hn_push, hn_set, hn_more] <;> omega) | fail) [ld1_get, ldN_get, stA_get, boxA, gz, gs, Heap.get_push_ne, Heap.get_push_eq, Heap.get_set_ne, Heap.get_set_eq, get_more, hn_push, hn_set, hn_more, ]; done) ?_ | fail)
  refine Tot.pure (lenSl_row (by omega)) ?_
  by_cases h3 : L.length < 3
  · have e1 : arA .lss (.int .i64 (L.length : Int)) (.int .i64 3) = some (.bool true) := by simp (disch := omega) []; omega
    refine Tot.pure e1 ?_
    repeat (first | refine Tot.pure (by simp (disch := first | omega | (simp only [hn_push, hn_set, hn_more] <;> omega) | fail) [ld1_get, ldN_get, stA_get, boxA, gz, gs, Heap.get_push_ne, Heap.get_push_eq, Heap.get_set_ne, Heap.get_set_eq, get_more, hn_push, hn_set, hn_more, ]; try exact rfl) ?_ | refine Tot.chk (by simp (disch := first | omega | (simp only [hn_push, hn_set, hn_more] <;> omega) | fail) [ld1_get, ldN_get, stA_get, boxA, gz, gs, Heap.get_push_ne, Heap.get_push_eq, Heap.get_set_ne, Heap.get_set_eq, get_more, hn_push, hn_set, hn_more, ]; done) ?_ | fail)
    refine Tot.rf (by simp) ?_
    simp only [momQ, if_pos h3]
    simp [ratQ, ratW]
  · have e1 : arA .lss (.int .i64 (L.length : Int)) (.int .i64 3) = some (.bool false) := by simp (disch := omega) []; omega
    refine Tot.pure e1 ?_
    repeat (first | refine Tot.pure (by simp (disch := first | omega | (simp only [hn_push, hn_set, hn_more] <;> omega) | fail) [ld1_get, ldN_get, stA_get, boxA, gz, gs, Heap.get_push_ne, Heap.get_push_eq, Heap.get_set_ne, Heap.get_set_eq, get_more, hn_push, hn_set, hn_more, ]; try exact rfl) ?_ | refine Tot.chk (by simp (disch := first | omega | (simp only [hn_push, hn_set, hn_more] <;> omega) | fail) [ld1_get, ldN_get, stA_get, boxA, gz, gs, Heap.get_push_ne, Heap.get_push_eq, Heap.get_set_ne, Heap.get_set_eq, get_more, hn_push, hn_set, hn_more, ]; done) ?_ | fail)
    refine Tot.pure (lenSl_row (by omega)) ?_
    refine Tot.mono (moment_loop hL hc hn (by omega) L.length 0 _ _ (by omega) Big.id ?_ ?_ ?_) ?_
    · simp (disch := first | omega | (simp only [hn_push, hn_set, hn_more] <;> omega) | (simp <;> omega) | fail) [ld1_get, ldN_get, stA_get, faA_mk, boxA_agg, Heap.get_push_ne, Heap.get_push_eq, Heap.get_set_ne, Heap.get_set_eq, get_more, hn_push, hn_set, hn_more, chk_agg, Spt.cells]
    · simp (disch := first | omega | (simp only [hn_push, hn_set, hn_more] <;> omega) | (simp <;> omega) | fail) [ld1_get, ldN_get, stA_get, faA_mk, boxA_agg, Heap.get_push_ne, Heap.get_push_eq, Heap.get_set_ne, Heap.get_set_eq, get_more, hn_push, hn_set, hn_more, chk_agg, ]
    · simp (disch := first | omega | (simp only [hn_push, hn_set, hn_more] <;> omega) | (simp <;> omega) | fail) [ld1_get, ldN_get, stA_get, faA_mk, boxA_agg, Heap.get_push_ne, Heap.get_push_eq, Heap.get_set_ne, Heap.get_set_eq, get_more, hn_push, hn_set, hn_more, chk_agg, momTo]
    · intro v _ hv
      subst hv
      simp only [momQ, if_neg h3]
      simp [ratQ, ratW_free] <;> rfl
theorem energy_Moment_N {L : List Spt} {c : Spt} (hL : ∀ p ∈ L, p.ok) (hc : c.ok) (hn : L.length < 100) :
    Gv (fun n => f_energy_Moment n [rowS L, .agg c.cells] H) (ratQ (momQ L c)) H := by
  refine energy_Moment_tot (all2 rowS_fro cells_fro) (fre2 rowS_free cells_free) ?_
  simp only [energy_Moment_b, Spt.cells]
  repeat (first | refine Tot.pure (by simp (disch := first | omega | (simp only [hn_push, hn_set, hn_more] <;> omega) | fail) [ld1_get, ldN_get, stA_get, boxA, gz, gs, Heap.get_push_ne, Heap.get_push_eq, Heap.get_set_ne, Heap.get_set_eq, get_more, hn_push, hn_set, hn_more, encN_one, encN_cells]; try exact rfl) ?_ | refine Tot.chk (by simp (disch := first | omega | (simp only [hn_push, hn_set, hn_more] <;> omega) | fail) [ld1_get, ldN_get, stA_get, boxA, gz, gs, Heap.get_push_ne, Heap.get_push_eq, Heap.get_set_ne, Heap.get_set_eq, get_more, hn_push, hn_set, hn_more, encN_one, encN_cells]; done) ?_ | fail)
  refine Gv.bind (energy_moment_N hL hc hn) ?_
  dsimp only [ratQ, ratW]
  repeat (first | refine Tot.pure (by simp (disch := first | omega | (simp only [hn_push, hn_set, hn_more] <;> omega) | fail) [ld1_get, ldN_get, stA_get, boxA, gz, gs, Heap.get_push_ne, Heap.get_push_eq, Heap.get_set_ne, Heap.get_set_eq, get_more, hn_push, hn_set, hn_more, ]; try exact rfl) ?_ | refine Tot.chk (by simp (disch := first | omega | (simp only [hn_push, hn_set, hn_more] <;> omega) | fail) [ld1_get, ldN_get, stA_get, boxA, gz, gs, Heap.get_push_ne, Heap.get_push_eq, Heap.get_set_ne, Heap.get_set_eq, get_more, hn_push, hn_set, hn_more, ]; done) ?_ | fail)
  exact Tot.rf (by simp) (by simp [ratQ, ratW])
end N
end Go.AM
end
section
set_option linter.unusedVariables false
set_option linter.unusedSimpArgs false
set_option linter.unusedSimpArgs false
set_option linter.unusedVariables false
set_option maxRecDepth 100000
namespace Go.AM
structure Dq (k : Nat) (x : Int) (d : Nat) (q : Rat) : Prop where
  pos : 0 < d
  bx : x.natAbs < 2 ^ k
  bd : d < 2 ^ k
  is : mkRat x d = q
theorem Dq.mono {k m : Nat} {x : Int} {d : Nat} {q : Rat} (h : Dq k x d q) (hm : k ≤ m) : Dq m x d q :=
  ⟨h.pos, Nat.lt_of_lt_of_le h.bx (Nat.pow_le_pow_right (by decide) hm), Nat.lt_of_lt_of_le h.bd (Nat.pow_le_pow_right (by decide) hm), h.is⟩
theorem Dq.add {k m : Nat} {x y : Int} {d e : Nat} {p q : Rat} (h : Dq k x d p) (h' : Dq m y e q) : Dq (k + m + 1) (x * e + y * d) (d * e) (p + q) := by
  have a := lt_mul2 h.bx h'.bd
  have b := lt_mul2 h'.bx h.bd
  have c := lt_mul2 h.bd h'.bd
  have e1 : (x * (e : Int)).natAbs = x.natAbs * e := by rw [Int.natAbs_mul, Int.natAbs_natCast]
  have e2 : (y * (d : Int)).natAbs = y.natAbs * d := by rw [Int.natAbs_mul, Int.natAbs_natCast]
  have t := Int.natAbs_add_le (x * e) (y * d)
  have e3 : 2 ^ (k + m + 1) = 2 ^ (k + m) + 2 ^ (k + m) := by rw [Nat.pow_succ]; omega
  rw [Nat.add_comm m k] at b
  refine ⟨Nat.mul_pos h.pos h'.pos, by omega, by omega, ?_⟩
  rw [← h.is, ← h'.is, Rat.mkRat_add_mkRat _ _ (by have := h.pos; omega) (by have := h'.pos; omega)]
theorem Dq.neg {k : Nat} {x : Int} {d : Nat} {q : Rat} (h : Dq k x d q) : Dq k (-x) d (-q) :=
  ⟨h.pos, by rw [Int.natAbs_neg]; exact h.bx, h.bd, by rw [← h.is, Rat.neg_mkRat]⟩
theorem Dq.sub {k m : Nat} {x y : Int} {d e : Nat} {p q : Rat} (h : Dq k x d p) (h' : Dq m y e q) : Dq (k + m + 1) (x * e - y * d) (d * e) (p - q) := by
  have := h.add h'.neg
  rwa [Int.neg_mul, ← Int.sub_eq_add_neg, ← Rat.sub_eq_add_neg] at this
theorem Dq.mul {k m : Nat} {x y : Int} {d e : Nat} {p q : Rat} (h : Dq k x d p) (h' : Dq m y e q) : Dq (k + m) (x * y) (d * e) (p * q) :=
  ⟨Nat.mul_pos h.pos h'.pos, by rw [Int.natAbs_mul]; exact lt_mul2 h.bx h'.bx, lt_mul2 h.bd h'.bd, by rw [← h.is, ← h'.is, Rat.mkRat_mul_mkRat]⟩
theorem Dq.low {k : Nat} {x : Int} {d : Nat} {q : Rat} (h : Dq k x d q) : Dq k q.num q.den q := by
  have := mk_le x d
  rw [h.is] at this
  exact ⟨q.den_pos, Nat.lt_of_le_of_lt this.1 h.bx, by have := h.pos; have := h.bd; omega, Rat.mkRat_self q⟩
abbrev Dv (f : Nat → Option R) (k : Nat) (q : Rat) (H : Heap) : Prop := Tot f fun v H' => H' = H ∧ ∃ x d, v = ratD x d ∧ Dq k x d q
theorem Dv.bind {f : Nat → Option R} {k : Nat} {q : Rat} {H : Heap} {kk : Nat → R → Option R} {Q : V → Heap → Prop} (hf : Dv f k q H) (hk : ∀ x d, Dq k x d q → Tot (fun n => kk n (ratD x d, H)) Q) : Tot (fun n => bnd (f n) (kk n)) Q :=
  Tot.bind hf fun v H' ⟨h1, x, d, h2, h3⟩ => by subst h1 h2; exact hk x d h3
theorem Dq.dec {k : Nat} {x : Int} {d : Nat} {q : Rat} (h : Dq k x d q) (hk : k < 1000000) : decK (ratD x d) = some (x, d) :=
  decK_ratD (szD_of h.bx hk) (szD_of h.bd hk) h.pos
namespace N
variable {H : Heap}
theorem r5_Add_N {k m : Nat} {x y : Int} {d e : Nat} {p q : Rat} (h : Dq k x d p) (h' : Dq m y e q) (hk : k < 1000000) (hm : m < 1000000) : Dv (fun n => f_ref05_Add n [ratD x d, ratD y e] H) (k + m + 1) (p + q) H :=
  ref05_Add_ext (ext_tot (all2 ratD_fro ratD_fro) (by simp only [dKK, h.dec hk, h'.dec hm]; rfl) ⟨rfl, _, _, rfl, h.add h'⟩)
theorem r5_Sub_N {k m : Nat} {x y : Int} {d e : Nat} {p q : Rat} (h : Dq k x d p) (h' : Dq m y e q) (hk : k < 1000000) (hm : m < 1000000) : Dv (fun n => f_ref05_Sub n [ratD x d, ratD y e] H) (k + m + 1) (p - q) H :=
  ref05_Sub_ext (ext_tot (all2 ratD_fro ratD_fro) (by simp only [dKK, h.dec hk, h'.dec hm]; rfl) ⟨rfl, _, _, rfl, h.sub h'⟩)
theorem r5_Mul_N {k m : Nat} {x y : Int} {d e : Nat} {p q : Rat} (h : Dq k x d p) (h' : Dq m y e q) (hk : k < 1000000) (hm : m < 1000000) : Dv (fun n => f_ref05_Mul n [ratD x d, ratD y e] H) (k + m) (p * q) H :=
  ref05_Mul_ext (ext_tot (all2 ratD_fro ratD_fro) (by simp only [dKK, h.dec hk, h'.dec hm]; rfl) ⟨rfl, _, _, rfl, h.mul h'⟩)
theorem r5_Low_N {k : Nat} {x : Int} {d : Nat} {q : Rat} (h : Dq k x d q) (hk : k < 1000000) : Gv (fun n => f_ref05_Low n [ratD x d] H) (ratD q.num q.den) H :=
  ref05_Low_ext (ext_tot (all1 ratD_fro) (by simp only [dK, h.dec hk]; rfl) ⟨rfl, by simp only [low_mk, h.is]⟩)
theorem r5_Of_raw {s : Bool} {l q : List Nat} (h : Raw l q) : Dv (fun n => f_ref05_Of n [rawL s l q] H) 64 (rawQ s l q) H := by
  refine ref05_Of_ext (ext_tot (all1 rawL_fro) (by simp only [dR, decR_raw h]; rfl) ⟨rfl, _, _, rfl, ?_⟩)
  have h1 := val_lt h.l1
  have h2 := val_lt h.l2
  have e1 : 4294967296 ^ l.length ≤ 4294967296 ^ 2 := Nat.pow_le_pow_right (by decide) h.l3
  have e2 : 4294967296 ^ q.length ≤ 4294967296 ^ 2 := Nat.pow_le_pow_right (by decide) (by have := h.l4; omega)
  have e3 : 4294967296 ^ 2 = 2 ^ 64 := by decide
  have e4 : 0 < 2 ^ 64 := by decide
  have e5 : 1 < 2 ^ 64 := by decide
  by_cases hz : val 4294967296 q = 0
  · simp only [hz, if_true]
    exact ⟨by decide, by simpa using e4, e5, by unfold rawQ; rw [hz, Rat.mkRat_zero, Rat.zero_mkRat]⟩
  · simp only [hz, if_false]
    exact ⟨by omega, by rw [sgn_abs]; omega, by omega, rfl⟩
end N
end Go.AM
end
section
set_option linter.unusedVariables false
set_option linter.unusedSimpArgs false
set_option linter.unusedSimpArgs false
set_option linter.unusedVariables false
set_option maxRecDepth 100000
namespace Go.AM
def cellsD (p q : Rat) : List V := [.int .i64 p.num.sign, natD p.num.natAbs, .int .i64 (p.den : Int).sign, natD p.den, .int .i64 q.num.sign, natD q.num.natAbs, .int .i64 (q.den : Int).sign, natD q.den]
def spotD (p q : Rat) : V := .agg (cellsD p q)
theorem spotD_fro {p q : Rat} : (spotD p q).fro = true := by simp [spotD, cellsD]
theorem spotD_free {p q : Rat} : (spotD p q).free = true := by simp [spotD, cellsD]
namespace N
variable {H : Heap}
theorem ref20_Of_N {c : Spt} (hc : c.ok) : Gv (fun n => f_ref20_Of n [.agg c.cells] H) (spotD c.x c.y) H := by
  refine ref20_Of_tot (all1 cells_fro) (fre1 cells_free) ?_
  simp only [ref20_Of_b, Spt.cells]
  repeat (first | refine Tot.pure (by simp (disch := first | omega | (simp only [hn_push, hn_set, hn_more] <;> omega) | fail) [ld1_get, ldN_get, stA_get, boxA, gz, gs, Heap.get_push_ne, Heap.get_push_eq, Heap.get_set_ne, Heap.get_set_eq, get_more, hn_push, hn_set, hn_more, encN_one, encN_cells, encN_beq]; try exact rfl) ?_ | refine Tot.chk (by simp (disch := first | omega | (simp only [hn_push, hn_set, hn_more] <;> omega) | fail) [ld1_get, ldN_get, stA_get, boxA, gz, gs, Heap.get_push_ne, Heap.get_push_eq, Heap.get_set_ne, Heap.get_set_eq, get_more, hn_push, hn_set, hn_more, encN_one, encN_cells, encN_beq]; done) ?_ | fail)
  refine Dv.bind (r5_Of_raw hc.x) fun x d h => ?_
  dsimp only
  refine Gv.bind (r5_Low_N h (by decide)) ?_
  dsimp only [ratD]
  repeat (first | refine Tot.pure (by simp (disch := first | omega | (simp only [hn_push, hn_set, hn_more] <;> omega) | fail) [ld1_get, ldN_get, stA_get, boxA, gz, gs, Heap.get_push_ne, Heap.get_push_eq, Heap.get_set_ne, Heap.get_set_eq, get_more, hn_push, hn_set, hn_more, encN_one, encN_cells, encN_beq]; try exact rfl) ?_ | refine Tot.chk (by simp (disch := first | omega | (simp only [hn_push, hn_set, hn_more] <;> omega) | fail) [ld1_get, ldN_get, stA_get, boxA, gz, gs, Heap.get_push_ne, Heap.get_push_eq, Heap.get_set_ne, Heap.get_set_eq, get_more, hn_push, hn_set, hn_more, encN_one, encN_cells, encN_beq]; done) ?_ | fail)
  refine Dv.bind (r5_Of_raw hc.y) fun y e h' => ?_
  dsimp only
  refine Gv.bind (r5_Low_N h' (by decide)) ?_
  dsimp only [ratD]
  repeat (first | refine Tot.pure (by simp (disch := first | omega | (simp only [hn_push, hn_set, hn_more] <;> omega) | fail) [ld1_get, ldN_get, stA_get, boxA, gz, gs, Heap.get_push_ne, Heap.get_push_eq, Heap.get_set_ne, Heap.get_set_eq, get_more, hn_push, hn_set, hn_more, ]; try exact rfl) ?_ | refine Tot.chk (by simp (disch := first | omega | (simp only [hn_push, hn_set, hn_more] <;> omega) | fail) [ld1_get, ldN_get, stA_get, boxA, gz, gs, Heap.get_push_ne, Heap.get_push_eq, Heap.get_set_ne, Heap.get_set_eq, get_more, hn_push, hn_set, hn_more, ]; done) ?_ | fail)
  exact Tot.rf (by simp) (by simp [spotD, cellsD, Spt.x, Spt.y])
end N
end Go.AM
end
section
set_option linter.unusedVariables false
set_option linter.unusedSimpArgs false
set_option linter.unusedSimpArgs false
set_option linter.unusedVariables false
set_option maxRecDepth 100000
namespace Go.AM
theorem Bq.dq {k : Nat} {q : Rat} (h : Bq k q) : Dq k q.num q.den q := ⟨q.den_pos, h.1, h.2, Rat.mkRat_self q⟩
theorem all3 {a b c : V} (h : a.fro = true) (h' : b.fro = true) (h'' : c.fro = true) : List.all [a, b, c] V.fro = true := by simp [h, h', h'']
theorem fre3 {a b c : V} (h : a.free = true) (h' : b.free = true) (h'' : c.free = true) : V.frees [a, b, c] = true := by simp [V.frees, h, h', h'']
def triQ (ax ay bx by_ cx cy : Rat) : Rat := (bx - ax) * (cy - ay) - (by_ - ay) * (cx - ax)
theorem triQ_B {ax ay bx by_ cx cy : Rat} {k : Nat} (h1 : Bq k ax) (h2 : Bq k ay) (h3 : Bq k bx) (h4 : Bq k by_) (h5 : Bq k cx) (h6 : Bq k cy) : Bq (8 * k + 5) (triQ ax ay bx by_ cx cy) :=
  ((((h3.sub h1).mul (h6.sub h2) (by omega)).sub ((h4.sub h2).mul (h5.sub h1) (by omega)))).mono (by omega)
namespace N
variable {H : Heap}
theorem ref20_Tri_N {ax ay bx by_ cx cy : Rat} {k : Nat} (h1 : Bq k ax) (h2 : Bq k ay) (h3 : Bq k bx) (h4 : Bq k by_) (h5 : Bq k cx) (h6 : Bq k cy) (hk : k < 10000) :
    Gv (fun n => f_ref20_Tri n [spotD ax ay, spotD bx by_, spotD cx cy] H) (ratD (triQ ax ay bx by_ cx cy).num (triQ ax ay bx by_ cx cy).den) H := by
  refine ref20_Tri_tot (all3 spotD_fro spotD_fro spotD_fro) (fre3 spotD_free spotD_free spotD_free) ?_
  simp only [ref20_Tri_b, spotD, cellsD]
  repeat (first | refine Tot.pure (by simp (disch := first | omega | (simp only [hn_push, hn_set, hn_more] <;> omega) | fail) [ld1_get, ldN_get, stA_get, boxA, gz, gs, Heap.get_push_ne, Heap.get_push_eq, Heap.get_set_ne, Heap.get_set_eq, get_more, hn_push, hn_set, hn_more, ]; try exact rfl) ?_ | refine Tot.chk (by simp (disch := first | omega | (simp only [hn_push, hn_set, hn_more] <;> omega) | fail) [ld1_get, ldN_get, stA_get, boxA, gz, gs, Heap.get_push_ne, Heap.get_push_eq, Heap.get_set_ne, Heap.get_set_eq, get_more, hn_push, hn_set, hn_more, ]; done) ?_ | fail)
  refine Dv.bind (r5_Sub_N h3.dq h1.dq (by omega) (by omega)) fun x1 d1 e1 => ?_
  dsimp only [ratD]
  repeat (first | refine Tot.pure (by simp (disch := first | omega | (simp only [hn_push, hn_set, hn_more] <;> omega) | fail) [ld1_get, ldN_get, stA_get, boxA, gz, gs, Heap.get_push_ne, Heap.get_push_eq, Heap.get_set_ne, Heap.get_set_eq, get_more, hn_push, hn_set, hn_more, ]; try exact rfl) ?_ | refine Tot.chk (by simp (disch := first | omega | (simp only [hn_push, hn_set, hn_more] <;> omega) | fail) [ld1_get, ldN_get, stA_get, boxA, gz, gs, Heap.get_push_ne, Heap.get_push_eq, Heap.get_set_ne, Heap.get_set_eq, get_more, hn_push, hn_set, hn_more, ]; done) ?_ | fail)
  refine Dv.bind (r5_Sub_N h6.dq h2.dq (by omega) (by omega)) fun x2 d2 e2 => ?_
  dsimp only [ratD]
  refine Dv.bind (r5_Mul_N e1 e2 (by omega) (by omega)) fun x3 d3 e3 => ?_
  dsimp only [ratD]
  repeat (first | refine Tot.pure (by simp (disch := first | omega | (simp only [hn_push, hn_set, hn_more] <;> omega) | fail) [ld1_get, ldN_get, stA_get, boxA, gz, gs, Heap.get_push_ne, Heap.get_push_eq, Heap.get_set_ne, Heap.get_set_eq, get_more, hn_push, hn_set, hn_more, ]; try exact rfl) ?_ | refine Tot.chk (by simp (disch := first | omega | (simp only [hn_push, hn_set, hn_more] <;> omega) | fail) [ld1_get, ldN_get, stA_get, boxA, gz, gs, Heap.get_push_ne, Heap.get_push_eq, Heap.get_set_ne, Heap.get_set_eq, get_more, hn_push, hn_set, hn_more, ]; done) ?_ | fail)
  refine Dv.bind (r5_Sub_N h4.dq h2.dq (by omega) (by omega)) fun x4 d4 e4 => ?_
  dsimp only [ratD]
  repeat (first | refine Tot.pure (by simp (disch := first | omega | (simp only [hn_push, hn_set, hn_more] <;> omega) | fail) [ld1_get, ldN_get, stA_get, boxA, gz, gs, Heap.get_push_ne, Heap.get_push_eq, Heap.get_set_ne, Heap.get_set_eq, get_more, hn_push, hn_set, hn_more, ]; try exact rfl) ?_ | refine Tot.chk (by simp (disch := first | omega | (simp only [hn_push, hn_set, hn_more] <;> omega) | fail) [ld1_get, ldN_get, stA_get, boxA, gz, gs, Heap.get_push_ne, Heap.get_push_eq, Heap.get_set_ne, Heap.get_set_eq, get_more, hn_push, hn_set, hn_more, ]; done) ?_ | fail)
  refine Dv.bind (r5_Sub_N h5.dq h1.dq (by omega) (by omega)) fun x5 d5 e5 => ?_
  dsimp only [ratD]
  refine Dv.bind (r5_Mul_N e4 e5 (by omega) (by omega)) fun x6 d6 e6 => ?_
  dsimp only [ratD]
  repeat (first | refine Tot.pure (by simp (disch := first | omega | (simp only [hn_push, hn_set, hn_more] <;> omega) | fail) [ld1_get, ldN_get, stA_get, boxA, gz, gs, Heap.get_push_ne, Heap.get_push_eq, Heap.get_set_ne, Heap.get_set_eq, get_more, hn_push, hn_set, hn_more, ]; try exact rfl) ?_ | refine Tot.chk (by simp (disch := first | omega | (simp only [hn_push, hn_set, hn_more] <;> omega) | fail) [ld1_get, ldN_get, stA_get, boxA, gz, gs, Heap.get_push_ne, Heap.get_push_eq, Heap.get_set_ne, Heap.get_set_eq, get_more, hn_push, hn_set, hn_more, ]; done) ?_ | fail)
  refine Dv.bind (r5_Sub_N e3 e6 (by omega) (by omega)) fun x7 d7 e7 => ?_
  dsimp only
  refine Gv.bind (r5_Low_N e7 (by omega)) ?_
  dsimp only [ratD]
  repeat (first | refine Tot.pure (by simp (disch := first | omega | (simp only [hn_push, hn_set, hn_more] <;> omega) | fail) [ld1_get, ldN_get, stA_get, boxA, gz, gs, Heap.get_push_ne, Heap.get_push_eq, Heap.get_set_ne, Heap.get_set_eq, get_more, hn_push, hn_set, hn_more, ]; try exact rfl) ?_ | refine Tot.chk (by simp (disch := first | omega | (simp only [hn_push, hn_set, hn_more] <;> omega) | fail) [ld1_get, ldN_get, stA_get, boxA, gz, gs, Heap.get_push_ne, Heap.get_push_eq, Heap.get_set_ne, Heap.get_set_eq, get_more, hn_push, hn_set, hn_more, ]; done) ?_ | fail)
  exact Tot.rf (by simp) (by simp [ratD, triQ])
end N
end Go.AM
end
section
set_option linter.unusedVariables false
set_option linter.unusedSimpArgs false
set_option linter.unusedSimpArgs false
set_option linter.unusedVariables false
set_option maxRecDepth 100000
namespace Go.AM
def tri42 (ax ay bx by_ cx cy : Rat) : Rat := triQ ax ay bx by_ cx cy * (((bx - ax) * (bx - ax) + (by_ - ay) * (by_ - ay)) + ((cx - ax) * (cx - ax) + (cy - ay) * (cy - ay)) + ((bx - ax) * (cx - ax) + (by_ - ay) * (cy - ay)))
theorem tri42_part {ax ay bx by_ cx cy : Rat} : tri42 ax ay bx by_ cx cy = partQ (bx - ax) (by_ - ay) (cx - ax) (cy - ay) := by
  unfold tri42 partQ triQ
  grind
theorem low_Bq {k : Nat} {x : Int} {d : Nat} {q : Rat} (h : Dq k x d q) : Bq k q := ⟨h.low.bx, h.low.bd⟩
namespace N
variable {H : Heap}
theorem ref42_Tri_N {ax ay bx by_ cx cy : Rat} {k : Nat} (h1 : Bq k ax) (h2 : Bq k ay) (h3 : Bq k bx) (h4 : Bq k by_) (h5 : Bq k cx) (h6 : Bq k cy) (hk : k < 10000) :
    Gv (fun n => f_ref42_Tri n [spotD ax ay, spotD bx by_, spotD cx cy] H) (ratD (tri42 ax ay bx by_ cx cy).num (tri42 ax ay bx by_ cx cy).den) H := by
  refine ref42_Tri_tot (all3 spotD_fro spotD_fro spotD_fro) (fre3 spotD_free spotD_free spotD_free) ?_
  simp only [ref42_Tri_b, spotD, cellsD]
  repeat (first | refine Tot.pure (by simp (disch := first | omega | (simp only [hn_push, hn_set, hn_more] <;> omega) | fail) [ld1_get, ldN_get, stA_get, boxA, gz, gs, Heap.get_push_ne, Heap.get_push_eq, Heap.get_set_ne, Heap.get_set_eq, get_more, hn_push, hn_set, hn_more, ]; try exact rfl) ?_ | refine Tot.chk (by simp (disch := first | omega | (simp only [hn_push, hn_set, hn_more] <;> omega) | fail) [ld1_get, ldN_get, stA_get, boxA, gz, gs, Heap.get_push_ne, Heap.get_push_eq, Heap.get_set_ne, Heap.get_set_eq, get_more, hn_push, hn_set, hn_more, ]; done) ?_ | fail)
  refine Dv.bind (r5_Sub_N h3.dq h1.dq (by omega) (by omega)) fun x1 d1 e1 => ?_
  dsimp only [ratD]
  repeat (first | refine Tot.pure (by simp (disch := first | omega | (simp only [hn_push, hn_set, hn_more] <;> omega) | fail) [ld1_get, ldN_get, stA_get, boxA, gz, gs, Heap.get_push_ne, Heap.get_push_eq, Heap.get_set_ne, Heap.get_set_eq, get_more, hn_push, hn_set, hn_more, ]; try exact rfl) ?_ | refine Tot.chk (by simp (disch := first | omega | (simp only [hn_push, hn_set, hn_more] <;> omega) | fail) [ld1_get, ldN_get, stA_get, boxA, gz, gs, Heap.get_push_ne, Heap.get_push_eq, Heap.get_set_ne, Heap.get_set_eq, get_more, hn_push, hn_set, hn_more, ]; done) ?_ | fail)
  refine Dv.bind (r5_Sub_N h4.dq h2.dq (by omega) (by omega)) fun x2 d2 e2 => ?_
  dsimp only [ratD]
  repeat (first | refine Tot.pure (by simp (disch := first | omega | (simp only [hn_push, hn_set, hn_more] <;> omega) | fail) [ld1_get, ldN_get, stA_get, boxA, gz, gs, Heap.get_push_ne, Heap.get_push_eq, Heap.get_set_ne, Heap.get_set_eq, get_more, hn_push, hn_set, hn_more, ]; try exact rfl) ?_ | refine Tot.chk (by simp (disch := first | omega | (simp only [hn_push, hn_set, hn_more] <;> omega) | fail) [ld1_get, ldN_get, stA_get, boxA, gz, gs, Heap.get_push_ne, Heap.get_push_eq, Heap.get_set_ne, Heap.get_set_eq, get_more, hn_push, hn_set, hn_more, ]; done) ?_ | fail)
  refine Dv.bind (r5_Sub_N h5.dq h1.dq (by omega) (by omega)) fun x3 d3 e3 => ?_
  dsimp only [ratD]
  repeat (first | refine Tot.pure (by simp (disch := first | omega | (simp only [hn_push, hn_set, hn_more] <;> omega) | fail) [ld1_get, ldN_get, stA_get, boxA, gz, gs, Heap.get_push_ne, Heap.get_push_eq, Heap.get_set_ne, Heap.get_set_eq, get_more, hn_push, hn_set, hn_more, ]; try exact rfl) ?_ | refine Tot.chk (by simp (disch := first | omega | (simp only [hn_push, hn_set, hn_more] <;> omega) | fail) [ld1_get, ldN_get, stA_get, boxA, gz, gs, Heap.get_push_ne, Heap.get_push_eq, Heap.get_set_ne, Heap.get_set_eq, get_more, hn_push, hn_set, hn_more, ]; done) ?_ | fail)
  refine Dv.bind (r5_Sub_N h6.dq h2.dq (by omega) (by omega)) fun x4 d4 e4 => ?_
  dsimp only [ratD]
  repeat (first | refine Tot.pure (by simp (disch := first | omega | (simp only [hn_push, hn_set, hn_more] <;> omega) | fail) [ld1_get, ldN_get, stA_get, boxA, gz, gs, Heap.get_push_ne, Heap.get_push_eq, Heap.get_set_ne, Heap.get_set_eq, get_more, hn_push, hn_set, hn_more, ]; try exact rfl) ?_ | refine Tot.chk (by simp (disch := first | omega | (simp only [hn_push, hn_set, hn_more] <;> omega) | fail) [ld1_get, ldN_get, stA_get, boxA, gz, gs, Heap.get_push_ne, Heap.get_push_eq, Heap.get_set_ne, Heap.get_set_eq, get_more, hn_push, hn_set, hn_more, ]; done) ?_ | fail)
  refine Dv.bind (r5_Mul_N e1 e1 (by omega) (by omega)) fun y1 f1 g1 => ?_
  dsimp only [ratD]
  repeat (first | refine Tot.pure (by simp (disch := first | omega | (simp only [hn_push, hn_set, hn_more] <;> omega) | fail) [ld1_get, ldN_get, stA_get, boxA, gz, gs, Heap.get_push_ne, Heap.get_push_eq, Heap.get_set_ne, Heap.get_set_eq, get_more, hn_push, hn_set, hn_more, ]; try exact rfl) ?_ | refine Tot.chk (by simp (disch := first | omega | (simp only [hn_push, hn_set, hn_more] <;> omega) | fail) [ld1_get, ldN_get, stA_get, boxA, gz, gs, Heap.get_push_ne, Heap.get_push_eq, Heap.get_set_ne, Heap.get_set_eq, get_more, hn_push, hn_set, hn_more, ]; done) ?_ | fail)
  refine Dv.bind (r5_Mul_N e2 e2 (by omega) (by omega)) fun y2 f2 g2 => ?_
  dsimp only [ratD]
  refine Dv.bind (r5_Add_N g1 g2 (by omega) (by omega)) fun y3 f3 g3 => ?_
  dsimp only [ratD]
  repeat (first | refine Tot.pure (by simp (disch := first | omega | (simp only [hn_push, hn_set, hn_more] <;> omega) | fail) [ld1_get, ldN_get, stA_get, boxA, gz, gs, Heap.get_push_ne, Heap.get_push_eq, Heap.get_set_ne, Heap.get_set_eq, get_more, hn_push, hn_set, hn_more, ]; try exact rfl) ?_ | refine Tot.chk (by simp (disch := first | omega | (simp only [hn_push, hn_set, hn_more] <;> omega) | fail) [ld1_get, ldN_get, stA_get, boxA, gz, gs, Heap.get_push_ne, Heap.get_push_eq, Heap.get_set_ne, Heap.get_set_eq, get_more, hn_push, hn_set, hn_more, ]; done) ?_ | fail)
  refine Dv.bind (r5_Mul_N e3 e3 (by omega) (by omega)) fun y4 f4 g4 => ?_
  dsimp only [ratD]
  repeat (first | refine Tot.pure (by simp (disch := first | omega | (simp only [hn_push, hn_set, hn_more] <;> omega) | fail) [ld1_get, ldN_get, stA_get, boxA, gz, gs, Heap.get_push_ne, Heap.get_push_eq, Heap.get_set_ne, Heap.get_set_eq, get_more, hn_push, hn_set, hn_more, ]; try exact rfl) ?_ | refine Tot.chk (by simp (disch := first | omega | (simp only [hn_push, hn_set, hn_more] <;> omega) | fail) [ld1_get, ldN_get, stA_get, boxA, gz, gs, Heap.get_push_ne, Heap.get_push_eq, Heap.get_set_ne, Heap.get_set_eq, get_more, hn_push, hn_set, hn_more, ]; done) ?_ | fail)
  refine Dv.bind (r5_Mul_N e4 e4 (by omega) (by omega)) fun y5 f5 g5 => ?_
  dsimp only [ratD]
  refine Dv.bind (r5_Add_N g4 g5 (by omega) (by omega)) fun y6 f6 g6 => ?_
  dsimp only [ratD]
  repeat (first | refine Tot.pure (by simp (disch := first | omega | (simp only [hn_push, hn_set, hn_more] <;> omega) | fail) [ld1_get, ldN_get, stA_get, boxA, gz, gs, Heap.get_push_ne, Heap.get_push_eq, Heap.get_set_ne, Heap.get_set_eq, get_more, hn_push, hn_set, hn_more, ]; try exact rfl) ?_ | refine Tot.chk (by simp (disch := first | omega | (simp only [hn_push, hn_set, hn_more] <;> omega) | fail) [ld1_get, ldN_get, stA_get, boxA, gz, gs, Heap.get_push_ne, Heap.get_push_eq, Heap.get_set_ne, Heap.get_set_eq, get_more, hn_push, hn_set, hn_more, ]; done) ?_ | fail)
  refine Dv.bind (r5_Mul_N e1 e3 (by omega) (by omega)) fun y7 f7 g7 => ?_
  dsimp only [ratD]
  repeat (first | refine Tot.pure (by simp (disch := first | omega | (simp only [hn_push, hn_set, hn_more] <;> omega) | fail) [ld1_get, ldN_get, stA_get, boxA, gz, gs, Heap.get_push_ne, Heap.get_push_eq, Heap.get_set_ne, Heap.get_set_eq, get_more, hn_push, hn_set, hn_more, ]; try exact rfl) ?_ | refine Tot.chk (by simp (disch := first | omega | (simp only [hn_push, hn_set, hn_more] <;> omega) | fail) [ld1_get, ldN_get, stA_get, boxA, gz, gs, Heap.get_push_ne, Heap.get_push_eq, Heap.get_set_ne, Heap.get_set_eq, get_more, hn_push, hn_set, hn_more, ]; done) ?_ | fail)
  refine Dv.bind (r5_Mul_N e2 e4 (by omega) (by omega)) fun y8 f8 g8 => ?_
  dsimp only [ratD]
  refine Dv.bind (r5_Add_N g7 g8 (by omega) (by omega)) fun y9 f9 g9 => ?_
  dsimp only [ratD]
  repeat (first | refine Tot.pure (by simp (disch := first | omega | (simp only [hn_push, hn_set, hn_more] <;> omega) | fail) [ld1_get, ldN_get, stA_get, boxA, gz, gs, Heap.get_push_ne, Heap.get_push_eq, Heap.get_set_ne, Heap.get_set_eq, get_more, hn_push, hn_set, hn_more, ]; try exact rfl) ?_ | refine Tot.chk (by simp (disch := first | omega | (simp only [hn_push, hn_set, hn_more] <;> omega) | fail) [ld1_get, ldN_get, stA_get, boxA, gz, gs, Heap.get_push_ne, Heap.get_push_eq, Heap.get_set_ne, Heap.get_set_eq, get_more, hn_push, hn_set, hn_more, ]; done) ?_ | fail)
  refine Gv.bind (ref20_Tri_N h1 h2 h3 h4 h5 h6 (by omega)) ?_
  dsimp only [ratD]
  repeat (first | refine Tot.pure (by simp (disch := first | omega | (simp only [hn_push, hn_set, hn_more] <;> omega) | fail) [ld1_get, ldN_get, stA_get, boxA, gz, gs, Heap.get_push_ne, Heap.get_push_eq, Heap.get_set_ne, Heap.get_set_eq, get_more, hn_push, hn_set, hn_more, ]; try exact rfl) ?_ | refine Tot.chk (by simp (disch := first | omega | (simp only [hn_push, hn_set, hn_more] <;> omega) | fail) [ld1_get, ldN_get, stA_get, boxA, gz, gs, Heap.get_push_ne, Heap.get_push_eq, Heap.get_set_ne, Heap.get_set_eq, get_more, hn_push, hn_set, hn_more, ]; done) ?_ | fail)
  refine Gv.bind (r5_Low_N g3 (by omega)) ?_
  dsimp only [ratD]
  repeat (first | refine Tot.pure (by simp (disch := first | omega | (simp only [hn_push, hn_set, hn_more] <;> omega) | fail) [ld1_get, ldN_get, stA_get, boxA, gz, gs, Heap.get_push_ne, Heap.get_push_eq, Heap.get_set_ne, Heap.get_set_eq, get_more, hn_push, hn_set, hn_more, ]; try exact rfl) ?_ | refine Tot.chk (by simp (disch := first | omega | (simp only [hn_push, hn_set, hn_more] <;> omega) | fail) [ld1_get, ldN_get, stA_get, boxA, gz, gs, Heap.get_push_ne, Heap.get_push_eq, Heap.get_set_ne, Heap.get_set_eq, get_more, hn_push, hn_set, hn_more, ]; done) ?_ | fail)
  refine Gv.bind (r5_Low_N g6 (by omega)) ?_
  dsimp only [ratD]
  refine Dv.bind (r5_Add_N (low_Bq g3).dq (low_Bq g6).dq (by omega) (by omega)) fun z1 w1 v1 => ?_
  dsimp only [ratD]
  repeat (first | refine Tot.pure (by simp (disch := first | omega | (simp only [hn_push, hn_set, hn_more] <;> omega) | fail) [ld1_get, ldN_get, stA_get, boxA, gz, gs, Heap.get_push_ne, Heap.get_push_eq, Heap.get_set_ne, Heap.get_set_eq, get_more, hn_push, hn_set, hn_more, ]; try exact rfl) ?_ | refine Tot.chk (by simp (disch := first | omega | (simp only [hn_push, hn_set, hn_more] <;> omega) | fail) [ld1_get, ldN_get, stA_get, boxA, gz, gs, Heap.get_push_ne, Heap.get_push_eq, Heap.get_set_ne, Heap.get_set_eq, get_more, hn_push, hn_set, hn_more, ]; done) ?_ | fail)
  refine Gv.bind (r5_Low_N g9 (by omega)) ?_
  dsimp only [ratD]
  refine Dv.bind (r5_Add_N v1 (low_Bq g9).dq (by omega) (by omega)) fun z2 w2 v2 => ?_
  dsimp only
  refine Gv.bind (r5_Low_N v2 (by omega)) ?_
  dsimp only [ratD]
  refine Dv.bind (r5_Mul_N (triQ_B h1 h2 h3 h4 h5 h6).dq (low_Bq v2).dq (by omega) (by omega)) fun z3 w3 v3 => ?_
  dsimp only
  refine Gv.bind (r5_Low_N v3 (by omega)) ?_
  dsimp only [ratD]
  repeat (first | refine Tot.pure (by simp (disch := first | omega | (simp only [hn_push, hn_set, hn_more] <;> omega) | fail) [ld1_get, ldN_get, stA_get, boxA, gz, gs, Heap.get_push_ne, Heap.get_push_eq, Heap.get_set_ne, Heap.get_set_eq, get_more, hn_push, hn_set, hn_more, ]; try exact rfl) ?_ | refine Tot.chk (by simp (disch := first | omega | (simp only [hn_push, hn_set, hn_more] <;> omega) | fail) [ld1_get, ldN_get, stA_get, boxA, gz, gs, Heap.get_push_ne, Heap.get_push_eq, Heap.get_set_ne, Heap.get_set_eq, get_more, hn_push, hn_set, hn_more, ]; done) ?_ | fail)
  exact Tot.rf (by simp) (by simp [ratD, tri42])
end N
end Go.AM
end
section
set_option linter.unusedVariables false
set_option linter.unusedSimpArgs false
set_option linter.unusedSimpArgs false
set_option linter.unusedVariables false
set_option maxRecDepth 100000
namespace Go.AM
def Spt.dc (p : Spt) : List V := cellsD p.x p.y
def rowD (L : List Spt) : V := if L.length = 0 then .list 0 0 [] else .list L.length 8 (L.flatMap Spt.dc)
theorem drop8 : ∀ (L : List Spt) (i : Nat) (h : i < L.length), ((L.flatMap Spt.dc).drop (i * 8)).take 8 = L[i].dc ∧ 8 ≤ ((L.flatMap Spt.dc).drop (i * 8)).length
  | p :: L, 0, h => by simp [Spt.dc, cellsD]
  | p :: L, i + 1, h => by
    have := drop8 L i (by simpa using h)
    have e : (i + 1) * 8 = 8 + i * 8 := by omega
    have e2 : p.dc.length = 8 := rfl
    have e3 : (p.dc ++ L.flatMap Spt.dc).drop 8 = L.flatMap Spt.dc := by rw [← e2, List.drop_left]
    rw [List.flatMap_cons, e, ← List.drop_drop, e3]
    simpa using this
theorem idxS_rowD {L : List Spt} {i : Nat} (h : i < L.length) : idxS 8 (rowD L) (.int .i64 (i : Int)) = some (.lptr ((L.flatMap Spt.dc).drop (i * 8))) := by
  unfold rowD
  rw [if_neg (by omega)]
  simp only [idxS, Int.toNat_natCast]
  rw [if_pos (by constructor <;> simp <;> omega)]
theorem ldN_rowD {L : List Spt} {i : Nat} (h : i < L.length) {H : Heap} : ldN 8 (.lptr ((L.flatMap Spt.dc).drop (i * 8))) H = some (spotD L[i].x L[i].y) := by
  obtain ⟨h1, h2⟩ := drop8 L i h
  simp only [ldN, if_pos h2, h1]; rfl
theorem lenSl_rowD {L : List Spt} (h : L.length < 1000) : lenSl (rowD L) = some (.int .i64 (L.length : Int)) := by
  unfold rowD
  split
  · simp_all [lenSl]
  · simp_all [lenSl]
theorem flatD_fro : ∀ L : List Spt, (L.flatMap Spt.dc).all V.fro1 = true ∧ V.frees (L.flatMap Spt.dc) = true
  | [] => ⟨rfl, rfl⟩
  | p :: L => by
    have := flatD_fro L
    simp only [List.flatMap_cons, Spt.dc, cellsD, List.cons_append, List.nil_append, List.all_cons, frees_cons]
    simp [this]
theorem rowD_fro {L : List Spt} : (rowD L).fro = true := by unfold rowD; split <;> rfl
theorem rowD_free {L : List Spt} : (rowD L).free = true := by
  unfold rowD; split
  · simp [V.free, V.frees]
  · simp [V.free, (flatD_fro L).2]
def momAt (L : List Spt) (cx cy : Rat) : Nat → Rat
  | 0 => 0
  | i + 1 => momAt L cx cy i + partQ ((L[i]!).x - cx) ((L[i]!).y - cy) ((L[(i + 1) % L.length]!).x - cx) ((L[(i + 1) % L.length]!).y - cy)
theorem momTo_at {L : List Spt} {c : Spt} : ∀ i, momTo L c i = momAt L c.x c.y i
  | 0 => rfl
  | i + 1 => by unfold momTo momAt; rw [momTo_at i]
theorem Spt.ok.bx {p : Spt} (h : p.ok) : Bq 64 p.x := rawQ_B h.x
theorem Spt.ok.by_ {p : Spt} (h : p.ok) : Bq 64 p.y := rawQ_B h.y
theorem momAt_B {L : List Spt} {cx cy : Rat} {k : Nat} (hL : ∀ p ∈ L, p.ok) (hx : Bq k cx) (hy : Bq k cy) : ∀ i, i ≤ L.length → Bq (1 + i * (16 * (65 + k) + 7)) (momAt L cx cy i)
  | 0, _ => by show Bq _ 0; exact Bq.zero.mono (by omega)
  | i + 1, h => by
    have a := momAt_B hL hx hy i (by omega)
    have h1 : i < L.length := by omega
    have h2 : (i + 1) % L.length < L.length := Nat.mod_lt _ (by omega)
    have o1 := hL L[i] (List.getElem_mem h1)
    have o2 := hL L[(i + 1) % L.length] (List.getElem_mem h2)
    have b := partQ_B (k := 65 + k) ((o1.bx.sub hx).mono (by omega)) ((o1.by_.sub hy).mono (by omega)) ((o2.bx.sub hx).mono (by omega)) ((o2.by_.sub hy).mono (by omega)) (by omega)
    have := a.add b
    unfold momAt
    rw [getElem!_pos L i h1, getElem!_pos L _ h2]
    refine this.mono ?_
    have e := Nat.succ_mul i (16 * (65 + k) + 7)
    have e' : i.succ * (16 * (65 + k) + 7) = (i + 1) * (16 * (65 + k) + 7) := rfl
    omega
theorem chk_ratD {x : Int} {d : Nat} : chk (some (ratD x d)) (ratD x d) = some () := by simp [ratD, V.beq]
namespace N
theorem moment42_loop {L : List Spt} {cx cy : Rat} {k : Nat} (hL : ∀ p ∈ L, p.ok) (hx : Bq k cx) (hy : Bq k cy) (hk : 64 ≤ k) (hk2 : k < 10000) (hb : L.length * (16 * (65 + k) + 7) < 900000) (h3 : 3 ≤ L.length) : ∀ (j i : Nat) (H : Heap) (m : Nat → Nat), i + j = L.length → Big m →
    H.get 0 = .cells (cellsD cx cy) ty_ref09_Spot false → H.get 1 = .cells [.int .i64 0, .slice ⟨none, 0, 0, false⟩, .int .i64 0, .slice ⟨none, 0, 0, false⟩] ty_ref05_Rat false →
    H.get 2 = .cells [.int .i64 (momAt L cx cy i).num.sign, natD (momAt L cx cy i).num.natAbs, .int .i64 ((momAt L cx cy i).den : Int).sign, natD (momAt L cx cy i).den] ty_ref05_Rat false →
    Tot (fun n => ref42_Moment.l0 n (m n) (rowD L) (.ptr (some (0, 0))) (.ptr (some (1, 0))) (.ptr (some (2, 0))) (.int .i64 (i : Int)) H) fun v _ => v = ratD (momAt L cx cy L.length).num (momAt L cx cy L.length).den
  | 0, i, H, m, hij, hm, g0, g1, g2 => by
    refine ref42_Moment.l0_tot hm fun m' hm' => ?_
    simp only [ref42_Moment.l0_b]
    obtain rfl : i = L.length := by omega
    have hn : L.length < 800 := by
      rcases Nat.lt_or_ge L.length 800 with h | h
      · exact h
      · have := Nat.mul_le_mul h (show 1129 ≤ 16 * (65 + k) + 7 by omega); omega
    refine Tot.pure (lenSl_rowD (by omega)) ?_
    repeat (first | refine Tot.pure (by simp (disch := first | omega | (simp only [hn_push, hn_set, hn_more] <;> omega) | fail) [ld1_get, ldN_get, stA_get, boxA, gz, gs, Heap.get_push_ne, Heap.get_push_eq, Heap.get_set_ne, Heap.get_set_eq, get_more, hn_push, hn_set, hn_more, g0, g1, g2]; try exact rfl) ?_ | refine Tot.chk (by simp (disch := first | omega | (simp only [hn_push, hn_set, hn_more] <;> omega) | fail) [ld1_get, ldN_get, stA_get, boxA, gz, gs, Heap.get_push_ne, Heap.get_push_eq, Heap.get_set_ne, Heap.get_set_eq, get_more, hn_push, hn_set, hn_more, g0, g1, g2]; done) ?_ | fail)
    exact Tot.rf (by simp) (by simp [ratD])
  | j + 1, i, H, m, hij, hm, g0, g1, g2 => by
    have h1 : i < L.length := by omega
    have hn : L.length < 800 := by
      rcases Nat.lt_or_ge L.length 800 with h | h
      · exact h
      · have := Nat.mul_le_mul h (show 1129 ≤ 16 * (65 + k) + 7 by omega); omega
    have h2 : (i + 1) % L.length < L.length := Nat.mod_lt _ (by omega)
    have o1 := hL L[i] (List.getElem_mem h1)
    have o2 := hL L[(i + 1) % L.length] (List.getElem_mem h2)
    have hr := rem_is (i := i + 1) (n := L.length) (by omega) (by omega) (by omega)
    refine ref42_Moment.l0_tot hm fun m' hm' => ?_
    simp only [ref42_Moment.l0_b, more0]
    have l0 : ldN 8 (.ptr (some (0, 0))) H = some (spotD cx cy) := by simp [ldN, g0, spotD, cellsD]
    have l2 : ldN 4 (.ptr (some (2, 0))) H = some (ratD (momAt L cx cy i).num (momAt L cx cy i).den) := by simp [ldN, g2, ratD]
    have ln := lenSl_rowD (L := L) (by omega)
    have ad := add1_is (i := i) (by omega)
    have e1 : (arA .lss (.int .i64 (i : Int)) (.int .i64 (L.length : Int))) = some (.bool true) := by simp (disch := omega) []; omega
    have e2 : decide ((2 : Int) < (L.length : Int)) = true := decide_eq_true (by omega)
    refine Tot.pure ln ?_
    refine Tot.pure e1 ?_
    repeat (first | refine Tot.pure (by simp (disch := first | omega | (simp only [hn_push, hn_set, hn_more] <;> omega) | fail) [ld1_get, ldN_get, stA_get, boxA, gz, gs, Heap.get_push_ne, Heap.get_push_eq, Heap.get_set_ne, Heap.get_set_eq, get_more, hn_push, hn_set, hn_more, ln]; try exact rfl) ?_ | refine Tot.chk (by simp (disch := first | omega | (simp only [hn_push, hn_set, hn_more] <;> omega) | fail) [ld1_get, ldN_get, stA_get, boxA, gz, gs, Heap.get_push_ne, Heap.get_push_eq, Heap.get_set_ne, Heap.get_set_eq, get_more, hn_push, hn_set, hn_more, ln]; done) ?_ | fail)
    simp only [e2, if_true]
    repeat (first | refine Tot.pure (by simp (disch := first | omega | (simp only [hn_push, hn_set, hn_more] <;> omega) | fail) [ld1_get, ldN_get, stA_get, boxA, gz, gs, Heap.get_push_ne, Heap.get_push_eq, Heap.get_set_ne, Heap.get_set_eq, get_more, hn_push, hn_set, hn_more, idxS_rowD h1, ldN_rowD h1, l0]; try exact rfl) ?_ | refine Tot.chk (by simp (disch := first | omega | (simp only [hn_push, hn_set, hn_more] <;> omega) | fail) [ld1_get, ldN_get, stA_get, boxA, gz, gs, Heap.get_push_ne, Heap.get_push_eq, Heap.get_set_ne, Heap.get_set_eq, get_more, hn_push, hn_set, hn_more, idxS_rowD h1, ldN_rowD h1, l0]; done) ?_ | fail)
    have hr' : arA .rem (.int .i64 ((i : Int) + 1)) (.int .i64 (L.length : Int)) = some (.int .i64 (((i + 1) % L.length : Nat) : Int)) := hr
    refine Tot.pure ln ?_
    refine Tot.pure hr' ?_
    refine Tot.pure (idxS_rowD h2) ?_
    refine Tot.pure (ldN_rowD h2) ?_
    refine Gv.bind (ref42_Tri_N hx hy (o1.bx.mono hk) (o1.by_.mono hk) (o2.bx.mono hk) (o2.by_.mono hk) (by omega)) ?_
    dsimp only
    repeat (first | refine Tot.pure (by simp (disch := first | omega | (simp only [hn_push, hn_set, hn_more] <;> omega) | fail) [ld1_get, ldN_get, stA_get, boxA, gz, gs, Heap.get_push_ne, Heap.get_push_eq, Heap.get_set_ne, Heap.get_set_eq, get_more, hn_push, hn_set, hn_more, l2, chk_ratD]; try exact rfl) ?_ | refine Tot.chk (by simp (disch := first | omega | (simp only [hn_push, hn_set, hn_more] <;> omega) | fail) [ld1_get, ldN_get, stA_get, boxA, gz, gs, Heap.get_push_ne, Heap.get_push_eq, Heap.get_set_ne, Heap.get_set_eq, get_more, hn_push, hn_set, hn_more, l2, chk_ratD]; done) ?_ | fail)
    have bt := momAt_B hL hx hy i (by omega)
    have hm1 : i.succ * (16 * (65 + k) + 7) ≤ L.length * (16 * (65 + k) + 7) := Nat.mul_le_mul_right _ h1
    have hm2 := Nat.succ_mul i (16 * (65 + k) + 7)
    have bp := partQ_B (k := 65 + k) ((o1.bx.sub hx).mono (by omega)) ((o1.by_.sub hy).mono (by omega)) ((o2.bx.sub hx).mono (by omega)) ((o2.by_.sub hy).mono (by omega)) (by omega)
    rw [tri42_part]
    have mm : momAt L cx cy i + partQ (L[i].x - cx) (L[i].y - cy) (L[(i + 1) % L.length].x - cx) (L[(i + 1) % L.length].y - cy) = momAt L cx cy (i + 1) := by
      show _ = momAt L cx cy i + _
      rw [getElem!_pos L i h1, getElem!_pos L _ h2]
    refine Dv.bind (r5_Add_N bt.dq bp.dq (by omega) (by omega)) fun x d e => ?_
    rw [mm] at e
    dsimp only
    refine Gv.bind (r5_Low_N e (by omega)) ?_
    dsimp only
    have st : stA 4 (.ptr (some (2, 0))) (ratD (momAt L cx cy (i + 1)).num (momAt L cx cy (i + 1)).den) H = some (H.set 2 (.cells [.int .i64 (momAt L cx cy (i + 1)).num.sign, natD (momAt L cx cy (i + 1)).num.natAbs, .int .i64 ((momAt L cx cy (i + 1)).den : Int).sign, natD (momAt L cx cy (i + 1)).den] ty_ref05_Rat false)) := by
      have io : ∀ {k : IntKind} {z : Int}, (V.int k z).one = true := rfl
      simp [stA, g2, ratD, V.cells, io, lset]
    refine Tot.pure st ?_
    refine Tot.pure ad ?_
    exact moment42_loop hL hx hy hk hk2 hb h3 j (i + 1) _ m' (by omega) hm' (by simp (disch := first | omega | (simp only [hn_push, hn_set, hn_more] <;> omega) | (simp <;> omega) | fail) [ld1_get, ldN_get, stA_get, faA_mk, boxA_agg, Heap.get_push_ne, Heap.get_push_eq, Heap.get_set_ne, Heap.get_set_eq, get_more, hn_push, hn_set, hn_more, chk_agg, g0]) (by simp (disch := first | omega | (simp only [hn_push, hn_set, hn_more] <;> omega) | (simp <;> omega) | fail) [ld1_get, ldN_get, stA_get, faA_mk, boxA_agg, Heap.get_push_ne, Heap.get_push_eq, Heap.get_set_ne, Heap.get_set_eq, get_more, hn_push, hn_set, hn_more, chk_agg, g1]) (by simp (disch := first | omega | (simp only [hn_push, hn_set, hn_more] <;> omega) | (simp <;> omega) | fail) [ld1_get, ldN_get, stA_get, faA_mk, boxA_agg, Heap.get_push_ne, Heap.get_push_eq, Heap.get_set_ne, Heap.get_set_eq, get_more, hn_push, hn_set, hn_more, chk_agg, g2])
end N
end Go.AM
end
section
set_option linter.unusedVariables false
set_option linter.unusedSimpArgs false
set_option linter.unusedSimpArgs false
set_option linter.unusedVariables false
set_option maxRecDepth 100000
namespace Go.AM
def momA (L : List Spt) (cx cy : Rat) : Rat := if L.length < 3 then 0 else momAt L cx cy L.length
theorem momA_Q {L : List Spt} {c : Spt} : momA L c.x c.y = momQ L c := by unfold momA momQ; rw [momTo_at]
namespace N
variable {H : Heap}
theorem ref42_Moment_A {L : List Spt} {cx cy : Rat} {k : Nat} (hL : ∀ p ∈ L, p.ok) (hx : Bq k cx) (hy : Bq k cy) (hk : 64 ≤ k) (hk2 : k < 10000) (hb : L.length * (16 * (65 + k) + 7) < 900000) :
    Gv (fun n => f_ref42_Moment n [rowD L, spotD cx cy] H) (ratD (momA L cx cy).num (momA L cx cy).den) H := by
  have hn : L.length < 800 := by
    rcases Nat.lt_or_ge L.length 800 with h | h
    · exact h
    · have := Nat.mul_le_mul h (show 1129 ≤ 16 * (65 + k) + 7 by omega); omega
  refine ref42_Moment_tot (all2 rowD_fro spotD_fro) (fre2 rowD_free spotD_free) ?_
  simp only [ref42_Moment_b, spotD, cellsD]
  repeat (first | refine Tot.pure (by simp (disch := first | omega | (simp only [hn_push, hn_set, hn_more] <;> omega) | fail) [ld1_get, ldN_get, stA_get, boxA, gz, gs, Heap.get_push_ne, Heap.get_push_eq, Heap.get_set_ne, Heap.get_set_eq, get_more, hn_push, hn_set, hn_more, ]; try exact rfl) ?_ | refine Tot.chk (by simp (disch := first | omega | (simp only [hn_push, hn_set, hn_more] <;> omega) | fail) [ld1_get, ldN_get, stA_get, boxA, gz, gs, Heap.get_push_ne, Heap.get_push_eq, Heap.get_set_ne, Heap.get_set_eq, get_more, hn_push, hn_set, hn_more, ]; done) ?_ | fail)
  refine Gv.bind (r5_Long_N (by omega)) ?_
  dsimp only [ratD]
  repeat (first | refine Tot.pure (by simp (disch := first | omega | (simp only [hn_push, hn_set, hn_more] <;> omega) | fail) [ld1_get, ldN_get, stA_get, boxA, gz, gs, Heap.get_push_ne, Heap.get_push_eq, Heap.get_set_ne, Heap.get_set_eq, get_more, hn_push, hn_set, hn_more, ]; try exact rfl) ?_ | refine Tot.chk (by simp (disch := first | omega | (simp only [hn_push, hn_set, hn_more] <;> omega) | fail) [ld1_get, ldN_get, stA_get, boxA, gz, gs, Heap.get_push_ne, Heap.get_push_eq, Heap.get_set_ne, Heap.get_set_eq, get_more, hn_push, hn_set, hn_more, ]; done) ?_ | fail)
  by_cases h3 : L.length < 3
  · refine ref42_Moment.l0_tot Big.id fun m' hm' => ?_
    simp only [ref42_Moment.l0_b]
    refine Tot.pure (lenSl_rowD (by omega)) ?_
    by_cases h0 : L.length = 0
    · have e1 : arA .lss (.int .i64 0) (.int .i64 (L.length : Int)) = some (.bool false) := by rw [h0]; simp (disch := omega) []
      refine Tot.pure e1 ?_
      repeat (first | refine Tot.pure (by simp (disch := first | omega | (simp only [hn_push, hn_set, hn_more] <;> omega) | fail) [ld1_get, ldN_get, stA_get, boxA, gz, gs, Heap.get_push_ne, Heap.get_push_eq, Heap.get_set_ne, Heap.get_set_eq, get_more, hn_push, hn_set, hn_more, ]; try exact rfl) ?_ | refine Tot.chk (by simp (disch := first | omega | (simp only [hn_push, hn_set, hn_more] <;> omega) | fail) [ld1_get, ldN_get, stA_get, boxA, gz, gs, Heap.get_push_ne, Heap.get_push_eq, Heap.get_set_ne, Heap.get_set_eq, get_more, hn_push, hn_set, hn_more, ]; done) ?_ | fail)
      refine Tot.rf (by simp) ?_
      simp only [momA, if_pos h3]
      simp [ratD]
    · have e1 : arA .lss (.int .i64 0) (.int .i64 (L.length : Int)) = some (.bool true) := by simp (disch := omega) []; omega
      refine Tot.pure e1 ?_
      repeat (first | refine Tot.pure (by simp (disch := first | omega | (simp only [hn_push, hn_set, hn_more] <;> omega) | fail) [ld1_get, ldN_get, stA_get, boxA, gz, gs, Heap.get_push_ne, Heap.get_push_eq, Heap.get_set_ne, Heap.get_set_eq, get_more, hn_push, hn_set, hn_more, lenSl_rowD (L := L) (by omega)]; try exact rfl) ?_ | refine Tot.chk (by simp (disch := first | omega | (simp only [hn_push, hn_set, hn_more] <;> omega) | fail) [ld1_get, ldN_get, stA_get, boxA, gz, gs, Heap.get_push_ne, Heap.get_push_eq, Heap.get_set_ne, Heap.get_set_eq, get_more, hn_push, hn_set, hn_more, lenSl_rowD (L := L) (by omega)]; done) ?_ | fail)
      have e2 : decide ((2 : Int) < (L.length : Int)) = false := decide_eq_false (by omega)
      simp only [e2, if_false, Bool.false_eq_true]
      repeat (first | refine Tot.pure (by simp (disch := first | omega | (simp only [hn_push, hn_set, hn_more] <;> omega) | fail) [ld1_get, ldN_get, stA_get, boxA, gz, gs, Heap.get_push_ne, Heap.get_push_eq, Heap.get_set_ne, Heap.get_set_eq, get_more, hn_push, hn_set, hn_more, ]; try exact rfl) ?_ | refine Tot.chk (by simp (disch := first | omega | (simp only [hn_push, hn_set, hn_more] <;> omega) | fail) [ld1_get, ldN_get, stA_get, boxA, gz, gs, Heap.get_push_ne, Heap.get_push_eq, Heap.get_set_ne, Heap.get_set_eq, get_more, hn_push, hn_set, hn_more, ]; done) ?_ | fail)
      refine Tot.rf (by simp) ?_
      simp only [momA, if_pos h3]
      simp [ratD]
  · refine Tot.mono (moment42_loop hL hx hy hk hk2 hb (by omega) L.length 0 _ _ (by omega) Big.id ?_ ?_ ?_) ?_
    · simp (disch := first | omega | (simp only [hn_push, hn_set, hn_more] <;> omega) | (simp <;> omega) | fail) [ld1_get, ldN_get, stA_get, faA_mk, boxA_agg, Heap.get_push_ne, Heap.get_push_eq, Heap.get_set_ne, Heap.get_set_eq, get_more, hn_push, hn_set, hn_more, chk_agg, cellsD]
    · simp (disch := first | omega | (simp only [hn_push, hn_set, hn_more] <;> omega) | (simp <;> omega) | fail) [ld1_get, ldN_get, stA_get, faA_mk, boxA_agg, Heap.get_push_ne, Heap.get_push_eq, Heap.get_set_ne, Heap.get_set_eq, get_more, hn_push, hn_set, hn_more, chk_agg, ]
    · simp (disch := first | omega | (simp only [hn_push, hn_set, hn_more] <;> omega) | (simp <;> omega) | fail) [ld1_get, ldN_get, stA_get, faA_mk, boxA_agg, Heap.get_push_ne, Heap.get_push_eq, Heap.get_set_ne, Heap.get_set_eq, get_more, hn_push, hn_set, hn_more, chk_agg, momAt]
    · intro v _ hv
      subst hv
      simp only [momA, if_neg h3]
      exact ⟨ratD_free, by simp [ratD]⟩
theorem ref42_Moment_N {L : List Spt} {c : Spt} (hL : ∀ p ∈ L, p.ok) (hc : c.ok) (hn : L.length < 100) :
    Gv (fun n => f_ref42_Moment n [rowD L, spotD c.x c.y] H) (ratD (momQ L c).num (momQ L c).den) H := by
  rw [← momA_Q]
  exact ref42_Moment_A hL (rawQ_B hc.x) (rawQ_B hc.y) (Nat.le_refl _) (by decide) (by omega)
end N
end Go.AM
end
section
set_option linter.unusedVariables false
set_option linter.unusedSimpArgs false
set_option linter.unusedSimpArgs false
set_option linter.unusedVariables false
set_option maxRecDepth 100000
namespace Go.AM
def Grow (H : Heap) (e : TypeId) (v : V) (m n : Nat) (cs : List V) : Prop := ∃ i, v = .slice ⟨some (i, 0), m, n, false⟩ ∧ i < H.n ∧ H.get i = .cells cs e false ∧ cs.length = m * n
theorem app_one {H : Heap} {e : TypeId} {v : V} {m n by_ j : Nat} {cs xs : List V} {e' : TypeId} {r f : Bool} (g : Grow H e v m n cs) (hj : H.get j = .cells xs e' r) (hx : xs.length = n) (hm : m < 1000000) (hb : by_ ≤ 4096) :
    ∃ v' H', appA n by_ e v (.slice ⟨some (j, 0), 1, n, f⟩) H = some (v', H') ∧ Grow H' e v' (m + 1) n (cs ++ xs) := by
  obtain ⟨i, rfl, h1, h2, h3⟩ := g
  unfold appA
  have s1 : srcA n (.slice ⟨some (j, 0), 1, n, f⟩) H = some (1, xs) := by
    simp only [srcA, rdS, hj, Nat.one_mul, Nat.zero_add, List.drop_zero]
    simp [hx, List.take_of_length_le (Nat.le_of_eq hx)]
  simp only [s1, Option.bind_some]
  rw [if_neg (by decide), if_pos ⟨by omega, hb, .inr trivial⟩]
  have r1 : rdS ⟨some (i, 0), m, n, false⟩ H = some cs := by
    simp only [rdS, h2, Nat.zero_add, List.drop_zero, ← h3, List.take_length, Nat.le_refl, if_true]
    split
    · rename_i hz
      subst hz
      have : cs = [] := List.eq_nil_of_length_eq_zero (by omega)
      rw [this]
    · rfl
  simp only [r1, Option.bind_some, killA, h2, Bool.false_eq_true, if_false, if_true]
  exact ⟨_, _, rfl, H.n, by simp, by simp, by rw [Heap.get_push_eq (by simp)], by rw [List.length_append, h3, hx, Nat.add_mul, Nat.one_mul]⟩
theorem Grow.frz {H : Heap} {e : TypeId} {v : V} {m n : Nat} {cs : List V} (g : Grow H e v m n cs) (hc : cs.all V.fro1 = true) {Q : V → Heap → Prop} (q : ∀ H', Q (if m = 0 then .list 0 0 [] else .list m n cs) H') : Tot (fun _ => frzR v H) Q := by
  obtain ⟨i, rfl, h1, h2, h3⟩ := g
  by_cases hz : m = 0
  · have h : frzR (.slice ⟨some (i, 0), m, n, false⟩) H = some (.list 0 0 [], killL [] H) := by unfold frzR frzV; simp only [hz, if_true]
    exact Tot.frz h (by have := q (killL [] H); rwa [if_pos hz] at this)
  · have ht : (cs.drop 0).take (m * n) = cs := by rw [List.drop_zero, ← h3, List.take_length]
    have h : frzR (.slice ⟨some (i, 0), m, n, false⟩) H = some (.list m n cs, killL [i] H) := by
      unfold frzR frzV
      simp only [if_neg hz, h2, ht, frzL_fro1 (d := 4) hc, Nat.zero_add]
      rw [if_pos (by omega)]
    exact Tot.frz h (by have := q (killL [i] H); rwa [if_neg hz] at this)
namespace N
theorem all_loop {L : List Spt} (hL : ∀ p ∈ L, p.ok) (hn : L.length < 100) : ∀ (j i : Nat) (H : Heap) (v : V) (m : Nat → Nat), i + j = L.length → Big m → Grow H ty_ref09_Spot v i 8 ((L.take i).flatMap Spt.dc) →
    Tot (fun n => ref20_All.l0 n (m n) (rowS L) v (.int .i64 (i : Int)) H) fun u _ => u = rowD L
  | 0, i, H, v, m, hij, hm, g => by
    refine ref20_All.l0_tot hm fun m' hm' => ?_
    simp only [ref20_All.l0_b]
    obtain rfl : i = L.length := by omega
    refine Tot.pure (lenSl_row (by omega)) ?_
    have e1 : arA .lss (.int .i64 (L.length : Int)) (.int .i64 (L.length : Int)) = some (.bool false) := by simp (disch := omega) []
    refine Tot.pure e1 ?_
    repeat (first | refine Tot.pure (by simp (disch := first | omega | (simp only [hn_push, hn_set, hn_more] <;> omega) | fail) [ld1_get, ldN_get, stA_get, boxA, gz, gs, Heap.get_push_ne, Heap.get_push_eq, Heap.get_set_ne, Heap.get_set_eq, get_more, hn_push, hn_set, hn_more, ]; try exact rfl) ?_ | refine Tot.chk (by simp (disch := first | omega | (simp only [hn_push, hn_set, hn_more] <;> omega) | fail) [ld1_get, ldN_get, stA_get, boxA, gz, gs, Heap.get_push_ne, Heap.get_push_eq, Heap.get_set_ne, Heap.get_set_eq, get_more, hn_push, hn_set, hn_more, ]; done) ?_ | fail)
    rw [List.take_length] at g
    exact g.frz (flatD_fro L).1 fun H' => rfl
  | j + 1, i, H, v, m, hij, hm, g => by
    have h1 : i < L.length := by omega
    have o1 := hL L[i] (List.getElem_mem h1)
    refine ref20_All.l0_tot hm fun m' hm' => ?_
    simp only [ref20_All.l0_b]
    refine Tot.pure (lenSl_row (by omega)) ?_
    have e1 : (arA .lss (.int .i64 (i : Int)) (.int .i64 (L.length : Int))) = some (.bool true) := by simp (disch := omega) []; omega
    refine Tot.pure e1 ?_
    repeat (first | refine Tot.pure (by simp (disch := first | omega | (simp only [hn_push, hn_set, hn_more] <;> omega) | fail) [ld1_get, ldN_get, stA_get, boxA, gz, gs, Heap.get_push_ne, Heap.get_push_eq, Heap.get_set_ne, Heap.get_set_eq, get_more, hn_push, hn_set, hn_more, idxS_row h1, ldN_row h1]; try exact rfl) ?_ | refine Tot.chk (by simp (disch := first | omega | (simp only [hn_push, hn_set, hn_more] <;> omega) | fail) [ld1_get, ldN_get, stA_get, boxA, gz, gs, Heap.get_push_ne, Heap.get_push_eq, Heap.get_set_ne, Heap.get_set_eq, get_more, hn_push, hn_set, hn_more, idxS_row h1, ldN_row h1]; done) ?_ | fail)
    refine Gv.bind (ref20_Of_N o1) ?_
    have b1 : bSl 8 ty_ref09_Spot [.int .i64 0, .slice ⟨none, 0, 0, false⟩, .int .i64 0, .slice ⟨none, 0, 0, false⟩, .int .i64 0, .slice ⟨none, 0, 0, false⟩, .int .i64 0, .slice ⟨none, 0, 0, false⟩] 1 [(0, spotD L[i].x L[i].y)] = some (.cells L[i].dc ty_ref09_Spot false) := by
      have io : ∀ {k : IntKind} {z : Int}, (V.int k z).one = true := rfl
      simp [bSl, rowA, spotD, cellsD, Spt.dc, natD_one, io]
    refine Tot.pure b1 ?_
    have g' : Grow (H.push (.cells L[i].dc ty_ref09_Spot false)) ty_ref09_Spot v i 8 ((L.take i).flatMap Spt.dc) := by
      obtain ⟨a, rfl, c1, c2, c3⟩ := g
      exact ⟨a, rfl, by simp; omega, by rw [Heap.get_push_ne (by omega)]; exact c2, c3⟩
    obtain ⟨v', H', a1, g2⟩ := app_one (by_ := 128) (j := H.n) (xs := L[i].dc) (r := false) (f := false) (e' := ty_ref09_Spot) g' (by rw [Heap.get_push_eq rfl]) rfl (by omega) (by decide)
    refine Tot.pure a1 ?_
    refine Tot.pure (add1_is (i := i) (by omega)) ?_
    refine all_loop hL hn j (i + 1) H' v' m' (by omega) hm' ?_
    have : (L.take (i + 1)).flatMap Spt.dc = (L.take i).flatMap Spt.dc ++ L[i].dc := by
      rw [List.take_succ_eq_append_getElem h1, List.flatMap_append, List.flatMap_cons, List.flatMap_nil, List.append_nil]
    rw [this]; exact g2
theorem ref20_All_N {H : Heap} {L : List Spt} (hL : ∀ p ∈ L, p.ok) (hn : L.length < 100) : Gv (fun n => f_ref20_All n [rowS L] H) (rowD L) H := by
  refine ref20_All_tot (all1 rowS_fro) (fre1 rowS_free) ?_
  simp only [ref20_All_b]
  have b1 : bSl 8 ty_ref09_Spot [.int .i64 0, .slice ⟨none, 0, 0, false⟩, .int .i64 0, .slice ⟨none, 0, 0, false⟩, .int .i64 0, .slice ⟨none, 0, 0, false⟩, .int .i64 0, .slice ⟨none, 0, 0, false⟩] 0 [] = some (.cells [] ty_ref09_Spot false) := by
    have io : ∀ {k : IntKind} {z : Int}, (V.int k z).one = true := rfl
    simp [bSl, rowA, io]
  refine Tot.pure b1 ?_
  refine Tot.mono (all_loop hL hn L.length 0 _ _ _ (by omega) Big.id ⟨0, rfl, by simp, by simp (disch := first | omega | (simp only [hn_push, hn_set, hn_more] <;> omega) | (simp <;> omega) | fail) [ld1_get, ldN_get, stA_get, faA_mk, boxA_agg, Heap.get_push_ne, Heap.get_push_eq, Heap.get_set_ne, Heap.get_set_eq, get_more, hn_push, hn_set, hn_more, chk_agg, ], by simp⟩) ?_
  intro v _ hv
  subst hv
  simp [rowD_free]
end N
end Go.AM
end
section
set_option linter.unusedVariables false
set_option linter.unusedSimpArgs false
set_option linter.unusedSimpArgs false
set_option linter.unusedVariables false
set_option maxRecDepth 100000
namespace Go.AM
def pairs : List Nat → List Nat
  | [] => []
  | [a] => [a]
  | a :: c :: r => (a + 65536 * c) :: pairs r
theorem pairs_dig (b : Nat) (hb : 2 ≤ b) (hb' : b = 65536) : ∀ (n x : Nat), x ≤ n → pairs (dig b x) = dig (b * b) x := by
  intro n
  induction n with
  | zero => intro x h; obtain rfl : x = 0 := by omega
            rw [dig_zero, dig_zero]; rfl
  | succ n ih =>
    intro x h
    by_cases hx : x = 0
    · subst hx; rw [dig_zero, dig_zero]; rfl
    have hbb : 2 ≤ b * b := Nat.le_trans hb (Nat.le_mul_self b)
    rw [dig_pos hb hx, dig_pos hbb hx]
    by_cases hx2 : x / b = 0
    · have hlt : x < b := by
        rcases Nat.div_eq_zero_iff.1 hx2 with h | h
        · omega
        · exact h
      have h2 : x < b * b := Nat.lt_of_lt_of_le hlt (Nat.le_mul_self b)
      rw [hx2, dig_zero, Nat.mod_eq_of_lt hlt, Nat.mod_eq_of_lt h2, Nat.div_eq_of_lt h2, dig_zero]; rfl
    · rw [dig_pos hb hx2]
      have e1 : x / b / b = x / (b * b) := Nat.div_div_eq_div_mul x b b
      have e2 : x % (b * b) = x % b + b * (x / b % b) := Nat.mod_mul
      have e3 : x / (b * b) < x := Nat.div_lt_self (by omega) (by omega)
      unfold pairs
      rw [e1, ih _ (by omega), e2, ← hb']
theorem idx_encN {k : IntKind} {l : List Nat} {i : Nat} (h : i < l.length) : idxS 1 (encN k l) (.int .i64 (i : Int)) = some (.lptr ((nums k l).drop i)) := by
  unfold encN
  rw [if_neg (by omega)]
  simp only [idxS, Int.toNat_natCast, Nat.mul_one]
  rw [if_pos (by constructor <;> simp <;> omega)]
theorem ld1_encN {k : IntKind} {l : List Nat} {i : Nat} (h : i < l.length) {H : Heap} : ld1 (.lptr ((nums k l).drop i)) H = some (.int k (l[i] : Int)) := by
  have : (nums k l).drop i = .int k (l[i] : Int) :: (nums k l).drop (i + 1) := by
    rw [List.drop_eq_getElem_cons (by simpa [nums] using h)]; simp [nums]
  rw [this]; rfl
theorem len_encN {k : IntKind} {l : List Nat} (h : l.length < 1000000) : lenSl (encN k l) = some (.int .i64 (l.length : Int)) := by
  unfold encN; split
  · simp_all [lenSl]
  · simp_all [lenSl]
end Go.AM
end
section
set_option linter.unusedVariables false
set_option linter.unusedSimpArgs false
set_option linter.unusedSimpArgs false
set_option linter.unusedVariables false
set_option maxRecDepth 100000
namespace Go.AM
namespace N
theorem nat_loop {l : List Nat} (hl : Lim 65536 l) (hn : l.length < 900000) : ∀ (j i : Nat) (H : Heap) (v : V) (m : Nat → Nat) (done : List Nat), l.length ≤ i + j → i ≤ l.length + 1 → Big m → done.length ≤ i → Grow H ty_uint32 v done.length 1 (nums .u32 done) →
    Tot (fun n => ref03_Nat.l0 n (m n) (encN .i64 l) v (.int .i64 (i : Int)) H) fun u _ => u = encN .u32 (done ++ pairs (l.drop i)) := by
  intro j
  induction j with
  | zero =>
    intro i H v m done h1 h2 hm h3 g
    refine ref03_Nat.l0_tot hm fun m' hm' => ?_
    simp only [ref03_Nat.l0_b]
    refine Tot.pure (len_encN (by omega)) ?_
    have e1 : arA .lss (.int .i64 (i : Int)) (.int .i64 (l.length : Int)) = some (.bool false) := by simp (disch := omega) []; omega
    refine Tot.pure e1 ?_
    repeat (first | refine Tot.pure (by simp (disch := first | omega | (simp only [hn_push, hn_set, hn_more] <;> omega) | fail) [ld1_get, ldN_get, stA_get, boxA, gz, gs, Heap.get_push_ne, Heap.get_push_eq, Heap.get_set_ne, Heap.get_set_eq, get_more, hn_push, hn_set, hn_more, ]; try exact rfl) ?_ | refine Tot.chk (by simp (disch := first | omega | (simp only [hn_push, hn_set, hn_more] <;> omega) | fail) [ld1_get, ldN_get, stA_get, boxA, gz, gs, Heap.get_push_ne, Heap.get_push_eq, Heap.get_set_ne, Heap.get_set_eq, get_more, hn_push, hn_set, hn_more, ]; done) ?_ | fail)
    rw [List.drop_of_length_le (by omega)]
    exact g.frz (by simp [nums]) fun H' => by simp [pairs, encN]
  | succ j ih =>
    intro i H v m done h1 h2 hm h3 g
    refine ref03_Nat.l0_tot hm fun m' hm' => ?_
    simp only [ref03_Nat.l0_b]
    refine Tot.pure (len_encN (by omega)) ?_
    by_cases hi : i < l.length
    · have e1 : arA .lss (.int .i64 (i : Int)) (.int .i64 (l.length : Int)) = some (.bool true) := by simp (disch := omega) []; omega
      refine Tot.pure e1 ?_
      repeat (first | refine Tot.pure (by simp (disch := first | omega | (simp only [hn_push, hn_set, hn_more] <;> omega) | fail) [ld1_get, ldN_get, stA_get, boxA, gz, gs, Heap.get_push_ne, Heap.get_push_eq, Heap.get_set_ne, Heap.get_set_eq, get_more, hn_push, hn_set, hn_more, idx_encN hi, ld1_encN hi]; try exact rfl) ?_ | refine Tot.chk (by simp (disch := first | omega | (simp only [hn_push, hn_set, hn_more] <;> omega) | fail) [ld1_get, ldN_get, stA_get, boxA, gz, gs, Heap.get_push_ne, Heap.get_push_eq, Heap.get_set_ne, Heap.get_set_eq, get_more, hn_push, hn_set, hn_more, idx_encN hi, ld1_encN hi]; done) ?_ | fail)
      have a1 : l[i] < 65536 := hl _ (List.getElem_mem hi)
      have tail : ∀ w : Nat, Tot (fun n => bnd (bSl 1 ty_uint32 [.int .u32 0] 1 [(0, .int .u32 (w : Int))]) fun o => bnd (appA 1 4 ty_uint32 v (.slice ⟨some (H.n, 0), 1, 1, false⟩) (H.push o)) fun p =>
          bnd (arA .add (.int .i64 (i : Int)) (.int .i64 2)) fun t => ref03_Nat.l0 n (m' n) (encN .i64 l) p.1 t p.2) fun u _ => u = encN .u32 ((done ++ [w]) ++ pairs (l.drop (i + 2))) := by
        intro w
        have b1 : bSl 1 ty_uint32 [.int .u32 0] 1 [(0, .int .u32 (w : Int))] = some (.cells (nums .u32 [w]) ty_uint32 false) := by
          have io : ∀ {k : IntKind} {z : Int}, (V.int k z).one = true := rfl
          simp [bSl, rowA, nums, io]
        refine Tot.pure b1 ?_
        have g' : Grow (H.push (.cells (nums .u32 [w]) ty_uint32 false)) ty_uint32 v done.length 1 (nums .u32 done) := by
          obtain ⟨a, rfl, c1, c2, c3⟩ := g
          exact ⟨a, rfl, by simp; omega, by rw [Heap.get_push_ne (by omega)]; exact c2, c3⟩
        obtain ⟨v', H', q1, g2⟩ := app_one (by_ := 4) (j := H.n) (xs := nums .u32 [w]) (r := false) (f := false) (e' := ty_uint32) g' (by rw [Heap.get_push_eq rfl]) rfl (by omega) (by decide)
        refine Tot.pure q1 ?_
        have e2 : arA .add (.int .i64 (i : Int)) (.int .i64 2) = some (.int .i64 ((i + 2 : Nat) : Int)) := by simp (disch := omega) []
        refine Tot.pure e2 ?_
        refine ih (i + 2) H' v' m' (done ++ [w]) (by omega) (by omega) hm' (by simp; omega) ?_
        have e3 : nums .u32 done ++ nums .u32 [w] = nums .u32 (done ++ [w]) := by simp [nums]
        rw [e3] at g2
        rw [List.length_append]
        exact g2
      refine Tot.pure (len_encN (by omega)) ?_
      by_cases hi2 : i + 1 < l.length
      · have a2 : l[i + 1] < 65536 := hl _ (List.getElem_mem hi2)
        have e4 : arA .lss (.int .i64 ((i : Int) + 1)) (.int .i64 (l.length : Int)) = some (.bool true) := by simp (disch := omega) []; omega
        refine Tot.pure e4 ?_
        refine Tot.pure (show asB (.bool true) = some true from rfl) ?_
        simp only [if_true]
        have e9 : arA .add (.int .i64 (i : Int)) (.int .i64 1) = some (.int .i64 ((i + 1 : Nat) : Int)) := by simp (disch := omega) []
        refine Tot.pure e9 ?_
        refine Tot.pure (idx_encN hi2) ?_
        refine Tot.pure (ld1_encN hi2) ?_
        have e5 : arA .mul (.int .i64 65536) (.int .i64 (l[i + 1] : Int)) = some (.int .i64 ((65536 * l[i + 1] : Nat) : Int)) := by simp (disch := omega) []
        have e6 : arA .add (.int .i64 (l[i] : Int)) (.int .i64 ((65536 * l[i + 1] : Nat) : Int)) = some (.int .i64 ((l[i] + 65536 * l[i + 1] : Nat) : Int)) := by simp (disch := omega) []
        have e7 : cvInt .u32 (.int .i64 ((l[i] + 65536 * l[i + 1] : Nat) : Int)) = some (.int .u32 ((l[i] + 65536 * l[i + 1] : Nat) : Int)) := by simp (disch := omega) [cvInt]
        refine Tot.pure e5 ?_
        refine Tot.pure e6 ?_
        refine Tot.pure e7 ?_
        have e8 : l.drop i = l[i] :: l[i + 1] :: l.drop (i + 2) := by rw [List.drop_eq_getElem_cons hi, List.drop_eq_getElem_cons hi2]
        have := tail (l[i] + 65536 * l[i + 1])
        rw [List.append_assoc] at this
        rw [e8]
        exact this
      · have e4 : arA .lss (.int .i64 ((i : Int) + 1)) (.int .i64 (l.length : Int)) = some (.bool false) := by simp (disch := omega) []; omega
        refine Tot.pure e4 ?_
        refine Tot.pure (show asB (.bool false) = some false from rfl) ?_
        simp only [Bool.false_eq_true, if_false]
        have e7 : cvInt .u32 (.int .i64 (l[i] : Int)) = some (.int .u32 (l[i] : Int)) := by simp (disch := omega) [cvInt]
        refine Tot.pure e7 ?_
        have e8 : l.drop i = [l[i]] := by rw [List.drop_eq_getElem_cons hi, List.drop_of_length_le (by omega)]
        have := tail l[i]
        rw [List.drop_of_length_le (by omega)] at this
        rw [e8]
        simpa [pairs] using this
    · have e1 : arA .lss (.int .i64 (i : Int)) (.int .i64 (l.length : Int)) = some (.bool false) := by simp (disch := omega) []; omega
      refine Tot.pure e1 ?_
      repeat (first | refine Tot.pure (by simp (disch := first | omega | (simp only [hn_push, hn_set, hn_more] <;> omega) | fail) [ld1_get, ldN_get, stA_get, boxA, gz, gs, Heap.get_push_ne, Heap.get_push_eq, Heap.get_set_ne, Heap.get_set_eq, get_more, hn_push, hn_set, hn_more, ]; try exact rfl) ?_ | refine Tot.chk (by simp (disch := first | omega | (simp only [hn_push, hn_set, hn_more] <;> omega) | fail) [ld1_get, ldN_get, stA_get, boxA, gz, gs, Heap.get_push_ne, Heap.get_push_eq, Heap.get_set_ne, Heap.get_set_eq, get_more, hn_push, hn_set, hn_more, ]; done) ?_ | fail)
      rw [List.drop_of_length_le (by omega)]
      exact g.frz (by simp [nums]) fun H' => by simp [pairs, encN]
theorem pairs_digK {x : Nat} : pairs (digK 65536 x) = digK 4294967296 x := by
  rw [digK_eq (by decide), digK_eq (by decide), pairs_dig 65536 (by decide) rfl x x (Nat.le_refl _)]
theorem ref03_Nat_N {H : Heap} {x k : Nat} (h : x < 2 ^ k) (hk : k < 900000) : Gv (fun n => f_ref03_Nat n [natD x] H) (natW x) H := by
  refine ref03_Nat_tot (all1 natD_fro) (fre1 natD_free) ?_
  simp only [ref03_Nat_b]
  have b1 : bSl 1 ty_uint32 [.int .u32 0] 0 [] = some (.cells [] ty_uint32 false) := by
    have io : ∀ {k : IntKind} {z : Int}, (V.int k z).one = true := rfl
    simp [bSl, rowA, io]
  refine Tot.pure b1 ?_
  have hl : (digK 65536 x).length < 900000 := by
    rw [digK_eq (by decide)]
    exact Nat.lt_of_le_of_lt (dig_len2 (by decide) h) hk
  refine Tot.mono (nat_loop (digK_lim (by decide)) hl (digK 65536 x).length 0 _ _ _ [] (by omega) (by omega) Big.id (by simp) ⟨0, rfl, by simp, by simp (disch := first | omega | (simp only [hn_push, hn_set, hn_more] <;> omega) | (simp <;> omega) | fail) [ld1_get, ldN_get, stA_get, faA_mk, boxA_agg, Heap.get_push_ne, Heap.get_push_eq, Heap.get_set_ne, Heap.get_set_eq, get_more, hn_push, hn_set, hn_more, chk_agg, nums], by simp [nums]⟩) ?_
  intro v _ hv
  rw [List.drop_zero, List.nil_append, pairs_digK] at hv
  subst hv
  exact ⟨natW_free, by simp [natW]⟩
end N
end Go.AM
end
section
set_option linter.unusedVariables false
set_option linter.unusedSimpArgs false
set_option linter.unusedSimpArgs false
set_option linter.unusedVariables false
set_option maxRecDepth 100000
namespace Go.AM
namespace N
theorem same_loop {l : List Nat} (hn : l.length < 900000) : ∀ (j i : Nat) (H : Heap) (m : Nat → Nat), i + j = l.length → Big m →
    Tot (fun n => ref03_Same.l0 n (m n) (encN .u32 l) (encN .u32 l) (.int .i64 (i : Int)) H) fun u H' => H' = H ∧ u = .bool true := by
  intro j
  induction j with
  | zero =>
    intro i H m h1 hm
    refine ref03_Same.l0_tot hm fun m' hm' => ?_
    simp only [ref03_Same.l0_b]
    refine Tot.pure (len_encN (by omega)) ?_
    have e1 : arA .lss (.int .i64 (i : Int)) (.int .i64 (l.length : Int)) = some (.bool false) := by simp (disch := omega) []; omega
    refine Tot.pure e1 ?_
    repeat (first | refine Tot.pure (by simp (disch := first | omega | (simp only [hn_push, hn_set, hn_more] <;> omega) | fail) [ld1_get, ldN_get, stA_get, boxA, gz, gs, Heap.get_push_ne, Heap.get_push_eq, Heap.get_set_ne, Heap.get_set_eq, get_more, hn_push, hn_set, hn_more, ]; try exact rfl) ?_ | refine Tot.chk (by simp (disch := first | omega | (simp only [hn_push, hn_set, hn_more] <;> omega) | fail) [ld1_get, ldN_get, stA_get, boxA, gz, gs, Heap.get_push_ne, Heap.get_push_eq, Heap.get_set_ne, Heap.get_set_eq, get_more, hn_push, hn_set, hn_more, ]; done) ?_ | fail)
    exact ⟨_, _, ⟨rfl, rfl⟩, 0, fun _ _ => rfl⟩
  | succ j ih =>
    intro i H m h1 hm
    have hi : i < l.length := by omega
    refine ref03_Same.l0_tot hm fun m' hm' => ?_
    simp only [ref03_Same.l0_b, more0]
    refine Tot.pure (len_encN (by omega)) ?_
    have e1 : arA .lss (.int .i64 (i : Int)) (.int .i64 (l.length : Int)) = some (.bool true) := by simp (disch := omega) []; omega
    refine Tot.pure e1 ?_
    repeat (first | refine Tot.pure (by simp (disch := first | omega | (simp only [hn_push, hn_set, hn_more] <;> omega) | fail) [ld1_get, ldN_get, stA_get, boxA, gz, gs, Heap.get_push_ne, Heap.get_push_eq, Heap.get_set_ne, Heap.get_set_eq, get_more, hn_push, hn_set, hn_more, idx_encN hi, ld1_encN hi]; try exact rfl) ?_ | refine Tot.chk (by simp (disch := first | omega | (simp only [hn_push, hn_set, hn_more] <;> omega) | fail) [ld1_get, ldN_get, stA_get, boxA, gz, gs, Heap.get_push_ne, Heap.get_push_eq, Heap.get_set_ne, Heap.get_set_eq, get_more, hn_push, hn_set, hn_more, idx_encN hi, ld1_encN hi]; done) ?_ | fail)
    have e9 : arA .add (.int .i64 (i : Int)) (.int .i64 1) = some (.int .i64 ((i + 1 : Nat) : Int)) := by simp (disch := omega) []
    first
      | exact ih (i + 1) H m' (by omega) hm'
      | (simp only [Bool.false_eq_true, if_false]; refine Tot.pure e9 ?_; exact ih (i + 1) H m' (by omega) hm')
theorem ref03_Same_N {H : Heap} {x k : Nat} (h : x < 2 ^ k) (hk : k < 900000) : Gv (fun n => f_ref03_Same n [natW x, natD x] H) (.bool true) H := by
  refine ref03_Same_tot (all2 natW_fro natD_fro) (fre2 natW_free natD_free) ?_
  simp only [ref03_Same_b]
  refine Gv.bind (ref03_Nat_N h hk) ?_
  dsimp only
  have hl : (digK 4294967296 x).length < 900000 := by
    rw [digK_eq (by decide)]
    exact Nat.lt_of_le_of_lt (dig_len2 (by decide) h) hk
  refine Tot.pure (len_encN (by omega)) ?_
  refine Tot.pure (len_encN (by omega)) ?_
  repeat (first | refine Tot.pure (by simp (disch := first | omega | (simp only [hn_push, hn_set, hn_more] <;> omega) | fail) [ld1_get, ldN_get, stA_get, boxA, gz, gs, Heap.get_push_ne, Heap.get_push_eq, Heap.get_set_ne, Heap.get_set_eq, get_more, hn_push, hn_set, hn_more, ]; try exact rfl) ?_ | refine Tot.chk (by simp (disch := first | omega | (simp only [hn_push, hn_set, hn_more] <;> omega) | fail) [ld1_get, ldN_get, stA_get, boxA, gz, gs, Heap.get_push_ne, Heap.get_push_eq, Heap.get_set_ne, Heap.get_set_eq, get_more, hn_push, hn_set, hn_more, ]; done) ?_ | fail)
  refine Tot.mono (same_loop hl (digK 4294967296 x).length 0 _ _ (by omega) Big.id) ?_
  intro v _ ⟨_, hv⟩
  subst hv
  simp
end N
end Go.AM
end
section
set_option linter.unusedVariables false
set_option linter.unusedSimpArgs false
set_option linter.unusedSimpArgs false
set_option linter.unusedVariables false
set_option maxRecDepth 100000
namespace Go.AM
namespace N
variable {H : Heap}
theorem ref04_Same_N {z : Int} {k : Nat} (h : z.natAbs < 2 ^ k) (hk : k < 900000) : Gv (fun n => f_ref04_Same n [intW z, intD z] H) (.bool true) H := by
  refine ref04_Same_tot (all2 intW_fro intD_fro) (fre2 intW_free intD_free) ?_
  simp only [ref04_Same_b, intW, intD]
  repeat (first | refine Tot.pure (by simp (disch := first | omega | (simp only [hn_push, hn_set, hn_more] <;> omega) | fail) [ld1_get, ldN_get, stA_get, boxA, gz, gs, Heap.get_push_ne, Heap.get_push_eq, Heap.get_set_ne, Heap.get_set_eq, get_more, hn_push, hn_set, hn_more, ]; try exact rfl) ?_ | refine Tot.chk (by simp (disch := first | omega | (simp only [hn_push, hn_set, hn_more] <;> omega) | fail) [ld1_get, ldN_get, stA_get, boxA, gz, gs, Heap.get_push_ne, Heap.get_push_eq, Heap.get_set_ne, Heap.get_set_eq, get_more, hn_push, hn_set, hn_more, ]; done) ?_ | fail)
  refine Gv.bind (ref03_Same_N h hk) ?_
  dsimp only
  repeat (first | refine Tot.pure (by simp (disch := first | omega | (simp only [hn_push, hn_set, hn_more] <;> omega) | fail) [ld1_get, ldN_get, stA_get, boxA, gz, gs, Heap.get_push_ne, Heap.get_push_eq, Heap.get_set_ne, Heap.get_set_eq, get_more, hn_push, hn_set, hn_more, ]; try exact rfl) ?_ | refine Tot.chk (by simp (disch := first | omega | (simp only [hn_push, hn_set, hn_more] <;> omega) | fail) [ld1_get, ldN_get, stA_get, boxA, gz, gs, Heap.get_push_ne, Heap.get_push_eq, Heap.get_set_ne, Heap.get_set_eq, get_more, hn_push, hn_set, hn_more, ]; done) ?_ | fail)
  exact Tot.ret (by simp)
theorem ref05_Same_N {q : Rat} {k : Nat} (h : Bq k q) (hk : k < 900000) : Gv (fun n => f_ref05_Same n [ratQ q, ratD q.num q.den] H) (.bool true) H := by
  refine ref05_Same_tot (all2 ratW_fro ratD_fro) (fre2 ratW_free ratD_free) ?_
  simp only [ref05_Same_b, ratQ, ratW, ratD]
  repeat (first | refine Tot.pure (by simp (disch := first | omega | (simp only [hn_push, hn_set, hn_more] <;> omega) | fail) [ld1_get, ldN_get, stA_get, boxA, gz, gs, Heap.get_push_ne, Heap.get_push_eq, Heap.get_set_ne, Heap.get_set_eq, get_more, hn_push, hn_set, hn_more, ]; try exact rfl) ?_ | refine Tot.chk (by simp (disch := first | omega | (simp only [hn_push, hn_set, hn_more] <;> omega) | fail) [ld1_get, ldN_get, stA_get, boxA, gz, gs, Heap.get_push_ne, Heap.get_push_eq, Heap.get_set_ne, Heap.get_set_eq, get_more, hn_push, hn_set, hn_more, ]; done) ?_ | fail)
  refine Gv.bind (r5_Low_N h.dq (by omega)) ?_
  dsimp only [ratD]
  repeat (first | refine Tot.pure (by simp (disch := first | omega | (simp only [hn_push, hn_set, hn_more] <;> omega) | fail) [ld1_get, ldN_get, stA_get, boxA, gz, gs, Heap.get_push_ne, Heap.get_push_eq, Heap.get_set_ne, Heap.get_set_eq, get_more, hn_push, hn_set, hn_more, ]; try exact rfl) ?_ | refine Tot.chk (by simp (disch := first | omega | (simp only [hn_push, hn_set, hn_more] <;> omega) | fail) [ld1_get, ldN_get, stA_get, boxA, gz, gs, Heap.get_push_ne, Heap.get_push_eq, Heap.get_set_ne, Heap.get_set_eq, get_more, hn_push, hn_set, hn_more, ]; done) ?_ | fail)
  refine Gv.bind (ref04_Same_N h.1 hk) ?_
  dsimp only
  repeat (first | refine Tot.pure (by simp (disch := first | omega | (simp only [hn_push, hn_set, hn_more] <;> omega) | fail) [ld1_get, ldN_get, stA_get, boxA, gz, gs, Heap.get_push_ne, Heap.get_push_eq, Heap.get_set_ne, Heap.get_set_eq, get_more, hn_push, hn_set, hn_more, ]; try exact rfl) ?_ | refine Tot.chk (by simp (disch := first | omega | (simp only [hn_push, hn_set, hn_more] <;> omega) | fail) [ld1_get, ldN_get, stA_get, boxA, gz, gs, Heap.get_push_ne, Heap.get_push_eq, Heap.get_set_ne, Heap.get_set_eq, get_more, hn_push, hn_set, hn_more, ]; done) ?_ | fail)
  refine Gv.bind (ref03_Same_N h.2 hk) ?_
  dsimp only
  exact Tot.ret (by simp)
end N
end Go.AM
end
section
set_option linter.unusedVariables false
set_option linter.unusedSimpArgs false
set_option linter.unusedSimpArgs false
set_option linter.unusedVariables false
set_option maxRecDepth 100000
namespace Go.AM
theorem sl_encN {k : IntKind} {l : List Nat} {m : Nat} (h0 : 0 < m) (h : m < l.length) : slSl 1 (encN k l) none (some (.int .i64 (m : Int))) = some (encN k (l.take m)) := by
  have e : (l.take m).length = m := by rw [List.length_take]; omega
  unfold encN
  rw [if_neg (by omega), if_neg (by omega), e]
  simp only [slSl, bndA, Option.bind_some, Int.toNat_natCast]
  simp [nums, List.map_take, show ¬ 0 = m by omega, show m ≤ l.length by omega]
theorem len_enc {k : IntKind} {l : List Nat} : lenSl (encN k l) = some (.int .i64 (l.length : Int)) := by
  unfold encN; split
  · simp_all [lenSl]
  · simp_all [lenSl]
namespace N
variable {H : Heap}
theorem src_encN {k : IntKind} {l : List Nat} : srcA 1 (encN k l) H = some (l.length, nums k l) := by
  unfold encN; split
  · rename_i h
    obtain rfl := List.eq_nil_of_length_eq_zero h
    simp [srcA, nums]
  · simp [srcA, nums]
theorem short_p1 {s : Bool} {l q : List Nat} {a b : V} (hl : l.length < 900000) (hq : q.length < 900000) (h2 : H.n = 2) (g0 : H.get 0 = .cells [.bool s, a, b] ty_api_Rat false)
    (g1 : H.get 1 = .cells [.bool false, .slice ⟨none, 0, 0, false⟩, .slice ⟨none, 0, 0, false⟩] ty_api_Rat false) :
    Tot (fun n => law42_short.p1 n (.ptr (some (0, 0))) (.ptr (some (1, 0))) (encN .u32 l) (encN .u32 q) H) fun u _ => u = rawL s l q := by
  refine law42_short.p1_tot ?_
  simp only [law42_short.p1_b]
  have b1 : bSl 1 ty_uint32 [.int .u32 0] 0 [] = some (.cells (nums .u32 []) ty_uint32 false) := by
    have io : ∀ {k : IntKind} {z : Int}, (V.int k z).one = true := rfl
    simp [bSl, rowA, io, nums]
  refine Tot.pure b1 ?_
  have o1 : Own ((H.more 2).set (H.n + 0) (.cells (nums .u32 []) ty_uint32 false)) .u32 ty_uint32 ⟨some (H.n + 0, 0), 0, 1, false⟩ [] := .inr ⟨H.n + 0, rfl, by simp (disch := first | omega | (simp only [hn_push, hn_set, hn_more] <;> omega) | (simp <;> omega) | fail) [ld1_get, ldN_get, stA_get, faA_mk, boxA_agg, Heap.get_push_ne, Heap.get_push_eq, Heap.get_set_ne, Heap.get_set_eq, get_more, hn_push, hn_set, hn_more, chk_agg, h2], by simp (disch := first | omega | (simp only [hn_push, hn_set, hn_more] <;> omega) | (simp <;> omega) | fail) [ld1_get, ldN_get, stA_get, faA_mk, boxA_agg, Heap.get_push_ne, Heap.get_push_eq, Heap.get_set_ne, Heap.get_set_eq, get_more, hn_push, hn_set, hn_more, chk_agg, h2]⟩
  have cA : Ext0 H ((H.more 2).set (H.n + 0) (.cells (nums .u32 []) ty_uint32 false)) := Keep.ext (by (repeat (first | exact Keep.refl | refine Keep.call ?_ (by assumption) | refine Keep.push ?_ | refine Keep.more ?_ | refine Keep.set ?_ (by first | omega | (simp only [hn_push, hn_set, hn_more] <;> omega) | fail))))
  obtain ⟨s1, H1, a1, w1, c1, d1⟩ := appA_own (by_ := 4) o1 (src_encN (l := l)) (by simp; omega) (by decide)
  refine Tot.pure a1 ?_
  refine Tot.pure b1 ?_
  have c1' : Ext0 H H1 := (cA.trans c1 (Y := (Sl.mk (some (H.n + 0, 0)) 0 1 false).has) fun i hi hx => by rw [has_mk] at hx; omega)
  have n1 := c1.n
  simp only [hn_set, hn_more] at n1
  have o2 : Own (H1.set (H.n + 1) (.cells (nums .u32 []) ty_uint32 false)) .u32 ty_uint32 ⟨some (H.n + 1, 0), 0, 1, false⟩ [] := .inr ⟨H.n + 1, rfl, by simp; omega, Heap.get_set_eq rfl⟩
  have cB : Ext0 H (H1.set (H.n + 1) (.cells (nums .u32 []) ty_uint32 false)) := (c1'.trans (Y := fun i => i = H.n + 1) (Ch.set rfl) fun i hi hx => by omega)
  obtain ⟨s2, H2, a2, w2, c2, d2⟩ := appA_own (by_ := 4) o2 (src_encN (l := q)) (by simp; omega) (by decide)
  dsimp only
  refine Tot.pure a2 ?_
  have c2' : Ext0 H H2 := cB.trans c2 fun i hi hx => by rw [has_mk] at hx; omega
  have n2 := c2.n
  simp only [hn_set] at n2
  have x0 := c1'.get 0 (by omega) (fun f => f)
  have x1 := c2'.get 0 (by omega) (fun f => f)
  have y1 := c2'.get 1 (by omega) (fun f => f)
  rw [g0] at x0 x1
  rw [g1] at y1
  dsimp only
  have hs1 : ∀ i, s1.has i → i ≠ H.n + 1 := by
    intro i hi
    rcases d1 i hi with h | h
    · rw [has_mk] at h; omega
    · simp at h; omega
  have hb : ∀ i, s1.has i → 2 ≤ i := by
    intro i hi
    rcases d1 i hi with h | h
    · rw [has_mk] at h; omega
    · simp at h; omega
  have hb2 : ∀ i, s2.has i → 2 ≤ i := by
    intro i hi
    rcases d2 i hi with h | h
    · rw [has_mk] at h; omega
    · simp at h; omega
  repeat (first | refine Tot.pure (by simp (disch := first | omega | (simp only [hn_push, hn_set, hn_more] <;> omega) | fail) [ld1_get, ldN_get, stA_get, boxA, gz, gs, Heap.get_push_ne, Heap.get_push_eq, Heap.get_set_ne, Heap.get_set_eq, get_more, hn_push, hn_set, hn_more, x0, x1, y1, g0, faA_mk]; try exact rfl) ?_ | refine Tot.chk (by simp (disch := first | omega | (simp only [hn_push, hn_set, hn_more] <;> omega) | fail) [ld1_get, ldN_get, stA_get, boxA, gz, gs, Heap.get_push_ne, Heap.get_push_eq, Heap.get_set_ne, Heap.get_set_eq, get_more, hn_push, hn_set, hn_more, x0, x1, y1, g0, faA_mk]; done) ?_ | fail)
  have r1 : Row H2 .u32 s1 ([] ++ l) := ((w1.ch (X := fun i => i = H.n + 1) (Ch.set rfl) hs1).ch c2 fun i hi hx => hs1 i hi (has_mk.1 hx)).row
  have r2 : Row H2 .u32 s2 ([] ++ q) := w2.row
  have r1' := r1.ch (H' := H2.set 1 (.cells [.bool s, .slice s1, .slice s2] ty_api_Rat false)) (X := fun i => i = 1) (Ch.set rfl) fun i hi hx => by have := hb i hi; omega
  have r2' := r2.ch (H' := H2.set 1 (.cells [.bool s, .slice s1, .slice s2] ty_api_Rat false)) (X := fun i => i = 1) (Ch.set rfl) fun i hi hx => by have := hb2 i hi; omega
  exact Tot.fa (FzL.fro (by simp) (FzL.row r1' (FzL.row r2' FzL.nil))) fun H' => rfl
theorem short_p0 {s : Bool} {l q : List Nat} {a b : V} (hl : l.length < 900000) (h2 : H.n = 2) (g0 : H.get 0 = .cells [.bool s, a, b] ty_api_Rat false)
    (g1 : H.get 1 = .cells [.bool false, .slice ⟨none, 0, 0, false⟩, .slice ⟨none, 0, 0, false⟩] ty_api_Rat false) :
    Tot (fun n => law42_short.p0 n (.ptr (some (0, 0))) (.ptr (some (1, 0))) (encN .u32 l) (encN .u32 q) H) fun u _ => u = rawL s l (q.take 1) := by
  refine law42_short.p0_tot ?_
  simp only [law42_short.p0_b]
  refine Tot.pure (len_enc) ?_
  by_cases h : 1 < q.length
  · have e1 : arA .gtr (.int .i64 (q.length : Int)) (.int .i64 1) = some (.bool true) := by simp (disch := omega) []; omega
    refine Tot.pure e1 ?_
    refine Tot.pure (show asB (.bool true) = some true from rfl) ?_
    simp only [if_true]
    refine Tot.pure (sl_encN (m := 1) (by decide) h) ?_
    exact short_p1 hl (by rw [List.length_take]; omega) h2 g0 g1
  · have e1 : arA .gtr (.int .i64 (q.length : Int)) (.int .i64 1) = some (.bool false) := by simp (disch := omega) []; omega
    refine Tot.pure e1 ?_
    refine Tot.pure (show asB (.bool false) = some false from rfl) ?_
    simp only [Bool.false_eq_true, if_false]
    rw [List.take_of_length_le (by omega)]
    exact short_p1 hl (by omega) h2 g0 g1
theorem short_N {s : Bool} {l q : List Nat} : Gv (fun n => f_law42_short n [rawL s l q] H) (rawL s (l.take 2) (q.take 1)) H := by
  refine law42_short_tot (all1 rawL_fro) (fre1 rawL_free) ?_
  simp only [law42_short_b, rawL]
  repeat (first | refine Tot.pure (by simp (disch := first | omega | (simp only [hn_push, hn_set, hn_more] <;> omega) | fail) [ld1_get, ldN_get, stA_get, boxA, gz, gs, Heap.get_push_ne, Heap.get_push_eq, Heap.get_set_ne, Heap.get_set_eq, get_more, hn_push, hn_set, hn_more, encN_one, encN_cells, encN_beq]; try exact rfl) ?_ | refine Tot.chk (by simp (disch := first | omega | (simp only [hn_push, hn_set, hn_more] <;> omega) | fail) [ld1_get, ldN_get, stA_get, boxA, gz, gs, Heap.get_push_ne, Heap.get_push_eq, Heap.get_set_ne, Heap.get_set_eq, get_more, hn_push, hn_set, hn_more, encN_one, encN_cells, encN_beq]; done) ?_ | fail)
  refine Tot.pure (len_enc) ?_
  by_cases h : 2 < l.length
  · have e1 : arA .gtr (.int .i64 (l.length : Int)) (.int .i64 2) = some (.bool true) := by simp (disch := omega) []; omega
    refine Tot.pure e1 ?_
    refine Tot.pure (show asB (.bool true) = some true from rfl) ?_
    simp only [if_true]
    refine Tot.pure (sl_encN (m := 2) (by decide) h) ?_
    refine Tot.mono (short_p0 (a := encN .u32 l) (b := encN .u32 q) (s := s) (l := l.take 2) (by rw [List.length_take]; omega) (by simp (disch := first | omega | (simp only [hn_push, hn_set, hn_more] <;> omega) | (simp <;> omega) | fail) [ld1_get, ldN_get, stA_get, faA_mk, boxA_agg, Heap.get_push_ne, Heap.get_push_eq, Heap.get_set_ne, Heap.get_set_eq, get_more, hn_push, hn_set, hn_more, chk_agg, ]) (by simp (disch := first | omega | (simp only [hn_push, hn_set, hn_more] <;> omega) | (simp <;> omega) | fail) [ld1_get, ldN_get, stA_get, faA_mk, boxA_agg, Heap.get_push_ne, Heap.get_push_eq, Heap.get_set_ne, Heap.get_set_eq, get_more, hn_push, hn_set, hn_more, chk_agg, ]) (by simp (disch := first | omega | (simp only [hn_push, hn_set, hn_more] <;> omega) | (simp <;> omega) | fail) [ld1_get, ldN_get, stA_get, faA_mk, boxA_agg, Heap.get_push_ne, Heap.get_push_eq, Heap.get_set_ne, Heap.get_set_eq, get_more, hn_push, hn_set, hn_more, chk_agg, ])) ?_
    intro v _ hv
    subst hv
    exact ⟨rawL_free, by simp [rawL]⟩
  · have e1 : arA .gtr (.int .i64 (l.length : Int)) (.int .i64 2) = some (.bool false) := by simp (disch := omega) []; omega
    refine Tot.pure e1 ?_
    refine Tot.pure (show asB (.bool false) = some false from rfl) ?_
    simp only [Bool.false_eq_true, if_false]
    refine Tot.mono (short_p0 (a := encN .u32 l) (b := encN .u32 q) (s := s) (l := l) (by omega) (by simp (disch := first | omega | (simp only [hn_push, hn_set, hn_more] <;> omega) | (simp <;> omega) | fail) [ld1_get, ldN_get, stA_get, faA_mk, boxA_agg, Heap.get_push_ne, Heap.get_push_eq, Heap.get_set_ne, Heap.get_set_eq, get_more, hn_push, hn_set, hn_more, chk_agg, ]) (by simp (disch := first | omega | (simp only [hn_push, hn_set, hn_more] <;> omega) | (simp <;> omega) | fail) [ld1_get, ldN_get, stA_get, faA_mk, boxA_agg, Heap.get_push_ne, Heap.get_push_eq, Heap.get_set_ne, Heap.get_set_eq, get_more, hn_push, hn_set, hn_more, chk_agg, ]) (by simp (disch := first | omega | (simp only [hn_push, hn_set, hn_more] <;> omega) | (simp <;> omega) | fail) [ld1_get, ldN_get, stA_get, faA_mk, boxA_agg, Heap.get_push_ne, Heap.get_push_eq, Heap.get_set_ne, Heap.get_set_eq, get_more, hn_push, hn_set, hn_more, chk_agg, ])) ?_
    intro v _ hv
    subst hv
    rw [List.take_of_length_le (show l.length ≤ 2 by omega)]
    exact ⟨rawL_free, by simp [rawL]⟩
end N
end Go.AM
end
section
set_option linter.unusedVariables false
set_option linter.unusedSimpArgs false
set_option linter.unusedSimpArgs false
set_option linter.unusedVariables false
set_option maxRecDepth 100000
namespace Go.AM
def Spt.cut (p : Spt) : Spt := ⟨p.s, p.l.take 2, p.q.take 1, p.t, p.m.take 2, p.r.take 1⟩
theorem take33 {c : List V} {p : Spt} (h : c.take 6 = p.cells) : c.take 3 = [.bool p.s, encN .u32 p.l, encN .u32 p.q] ∧ (c.drop 3).take 3 = [.bool p.t, encN .u32 p.m, encN .u32 p.r] := by
  have e1 : c.take 3 = (c.take 6).take 3 := by rw [List.take_take]; rfl
  have e2 : (c.drop 3).take 3 = (c.take 6).drop 3 := by rw [List.drop_take]
  rw [e1, e2, h]
  exact ⟨rfl, rfl⟩
namespace N
theorem few_loop {L : List Spt} (hn : L.length < 100) : ∀ (j i : Nat) (H : Heap) (v : V) (m : Nat → Nat), i + j = L.length → Big m → Grow H ty_api_Spot v i 6 ((L.take i).flatMap fun p => p.cut.cells) →
    Tot (fun n => law42_few.l1 n (m n) (rowS L) v (.int .i64 (i : Int)) H) fun u _ => u = rowS (L.map Spt.cut) := by
  intro j
  induction j with
  | zero =>
    intro i H v m hij hm g
    refine law42_few.l1_tot hm fun m' hm' => ?_
    simp only [law42_few.l1_b]
    obtain rfl : i = L.length := by omega
    refine Tot.pure (lenSl_row (by omega)) ?_
    have e1 : arA .lss (.int .i64 (L.length : Int)) (.int .i64 (L.length : Int)) = some (.bool false) := by simp (disch := omega) []
    refine Tot.pure e1 ?_
    repeat (first | refine Tot.pure (by simp (disch := first | omega | (simp only [hn_push, hn_set, hn_more] <;> omega) | fail) [ld1_get, ldN_get, stA_get, boxA, gz, gs, Heap.get_push_ne, Heap.get_push_eq, Heap.get_set_ne, Heap.get_set_eq, get_more, hn_push, hn_set, hn_more, ]; try exact rfl) ?_ | refine Tot.chk (by simp (disch := first | omega | (simp only [hn_push, hn_set, hn_more] <;> omega) | fail) [ld1_get, ldN_get, stA_get, boxA, gz, gs, Heap.get_push_ne, Heap.get_push_eq, Heap.get_set_ne, Heap.get_set_eq, get_more, hn_push, hn_set, hn_more, ]; done) ?_ | fail)
    rw [List.take_length] at g
    have e2 : (L.flatMap fun p => p.cut.cells) = (L.map Spt.cut).flatMap Spt.cells := by rw [List.flatMap_map]
    rw [e2] at g
    exact g.frz (flat_fro _).1 fun H' => by simp [rowS]
  | succ j ih =>
    intro i H v m hij hm g
    have h1 : i < L.length := by omega
    refine law42_few.l1_tot hm fun m' hm' => ?_
    simp only [law42_few.l1_b]
    refine Tot.pure (lenSl_row (by omega)) ?_
    have e1 : (arA .lss (.int .i64 (i : Int)) (.int .i64 (L.length : Int))) = some (.bool true) := by simp (disch := omega) []; omega
    refine Tot.pure e1 ?_
    obtain ⟨d1, d2⟩ := drop6 L i h1
    obtain ⟨t1, t2⟩ := take33 d1
    repeat (first | refine Tot.pure (by simp (disch := first | omega | (simp only [hn_push, hn_set, hn_more] <;> omega) | fail) [ld1_get, ldN_get, stA_get, boxA, gz, gs, Heap.get_push_ne, Heap.get_push_eq, Heap.get_set_ne, Heap.get_set_eq, get_more, hn_push, hn_set, hn_more, idxS_row h1, ldN_row h1]; try exact rfl) ?_ | refine Tot.chk (by simp (disch := first | omega | (simp only [hn_push, hn_set, hn_more] <;> omega) | fail) [ld1_get, ldN_get, stA_get, boxA, gz, gs, Heap.get_push_ne, Heap.get_push_eq, Heap.get_set_ne, Heap.get_set_eq, get_more, hn_push, hn_set, hn_more, idxS_row h1, ldN_row h1]; done) ?_ | fail)
    have f0 : faA 0 (.lptr ((L.flatMap Spt.cells).drop (i * 6))) = some (.lptr (((L.flatMap Spt.cells).drop (i * 6)).drop 0)) := by simp only [faA]; rw [if_pos (by omega)]
    have f3 : faA 3 (.lptr ((L.flatMap Spt.cells).drop (i * 6))) = some (.lptr (((L.flatMap Spt.cells).drop (i * 6)).drop 3)) := by simp only [faA]; rw [if_pos (by omega)]
    have x0 : ∀ G : Heap, ldN 3 (.lptr (((L.flatMap Spt.cells).drop (i * 6)).drop 0)) G = some (rawL L[i].s L[i].l L[i].q) := by intro G; simp only [ldN, List.drop_zero, t1]; rw [if_pos (by omega)]; rfl
    have x3 : ∀ G : Heap, ldN 3 (.lptr (((L.flatMap Spt.cells).drop (i * 6)).drop 3)) G = some (rawL L[i].t L[i].m L[i].r) := by intro G; simp only [ldN, t2]; rw [if_pos (by rw [List.length_drop]; omega)]; rfl
    refine Tot.pure f0 ?_
    refine Tot.pure (x0 _) ?_
    refine Gv.bind (short_N) ?_
    refine Tot.pure (idxS_row h1) ?_
    refine Tot.pure f3 ?_
    refine Tot.pure (x3 _) ?_
    have ck : chk (some (rawL L[i].t L[i].m L[i].r)) (rawL L[i].t L[i].m L[i].r) = some () := by unfold rawL; rw [chk_aggb]; simp [encN_beq, V.beq]
    refine Tot.pure (by rw [x3]; exact ck) ?_
    refine Gv.bind (short_N) ?_
    dsimp only [rawL]
    repeat (first | refine Tot.pure (by simp (disch := first | omega | (simp only [hn_push, hn_set, hn_more] <;> omega) | fail) [ld1_get, ldN_get, stA_get, boxA, gz, gs, Heap.get_push_ne, Heap.get_push_eq, Heap.get_set_ne, Heap.get_set_eq, get_more, hn_push, hn_set, hn_more, encN_one, encN_cells]; try exact rfl) ?_ | refine Tot.chk (by simp (disch := first | omega | (simp only [hn_push, hn_set, hn_more] <;> omega) | fail) [ld1_get, ldN_get, stA_get, boxA, gz, gs, Heap.get_push_ne, Heap.get_push_eq, Heap.get_set_ne, Heap.get_set_eq, get_more, hn_push, hn_set, hn_more, encN_one, encN_cells]; done) ?_ | fail)
    have b1 : bSl 6 ty_api_Spot [.bool false, .slice ⟨none, 0, 0, false⟩, .slice ⟨none, 0, 0, false⟩, .bool false, .slice ⟨none, 0, 0, false⟩, .slice ⟨none, 0, 0, false⟩] 1 [(0, .agg L[i].cut.cells)] = some (.cells L[i].cut.cells ty_api_Spot false) := by
      simp [bSl, rowA, Spt.cells, encN_one, bool_one]
    refine Tot.pure b1 ?_
    have g' : Grow ((H.more 1).set (H.n + 0) (.cells L[i].cut.cells ty_api_Spot false)) ty_api_Spot v i 6 ((L.take i).flatMap fun p => p.cut.cells) := by
      obtain ⟨a, rfl, c1, c2, c3⟩ := g
      exact ⟨a, rfl, by simp; omega, by rw [Heap.get_set, if_neg (by omega)]; exact c2, c3⟩
    obtain ⟨v', H', a1, g2⟩ := app_one (by_ := 112) (j := H.n + 0) (xs := L[i].cut.cells) (r := false) (f := false) (e' := ty_api_Spot) g' (by rw [Heap.get_set_eq rfl]) rfl (by omega) (by decide)
    refine Tot.pure a1 ?_
    refine Tot.pure (add1_is (i := i) (by omega)) ?_
    refine ih (i + 1) H' v' m' (by omega) hm' ?_
    rw [List.take_succ_eq_append_getElem h1, List.flatMap_append, List.flatMap_cons, List.flatMap_nil, List.append_nil]
    exact g2
end N
end Go.AM
end
section
set_option linter.unusedVariables false
set_option linter.unusedSimpArgs false
set_option linter.unusedSimpArgs false
set_option linter.unusedVariables false
set_option maxRecDepth 100000
namespace Go.AM
namespace N
variable {H : Heap}
theorem few_p0 {L : List Spt} (hn : L.length < 100) (h0 : H.n = 0) : Tot (fun n => law42_few.p0 n (rowS L) H) fun u _ => u = rowS (L.map Spt.cut) := by
  refine law42_few.p0_tot ?_
  simp only [law42_few.p0_b]
  have b1 : bSl 6 ty_api_Spot [.bool false, .slice ⟨none, 0, 0, false⟩, .slice ⟨none, 0, 0, false⟩, .bool false, .slice ⟨none, 0, 0, false⟩, .slice ⟨none, 0, 0, false⟩] 0 [] = some (.cells [] ty_api_Spot false) := by
    have so : ∀ {s : Sl}, (V.slice s).one = true := rfl
    simp [bSl, rowA, bool_one, so]
  refine Tot.pure b1 ?_
  exact few_loop hn L.length 0 _ _ _ (by omega) Big.id ⟨H.n, rfl, by simp, by rw [Heap.get_push_eq rfl]; rfl, by simp⟩
end N
end Go.AM
end
