/- Merged by program from: SvQ1 SvQ2 SvQ SpA SpB NmB SpC SpD SpE SpF SpG SpH0 AmKeep. -/
import Derived.Test.YtmpkhfnegnlpmaaGreatX2
section
set_option linter.unusedVariables false
set_option linter.unusedSimpArgs false
set_option maxRecDepth 1000000
set_option linter.unusedVariables false
namespace Go.AM
@[irreducible] noncomputable def ref03_Sub.l0 (n m0 : Nat) (v0 v1 v5 v6 v7 : V) (H : Heap) : Option R := Lp C n 61 [1, 1, 0, 1, 0, 0] m0 [(0, v0), (1, v1), (5, v5), (6, v6), (7, v7)] H (kB 0 (kC C n 61 [1, 1, 1] (kR C 61)))
@[irreducible] noncomputable def ref03_Sub.p1 (n m0 : Nat) (v0 v1 v5 v7 v8 : V) (H : Heap) : Option R := E C n 61 [1, 1, 0, 1, 0, 0, 1, 0, 0, 1, 1] [(0, v0), (1, v1), (5, v5), (7, v7), (8, v8)] H (kB 1 (kC C n 61 [1, 1, 0, 1, 0, 0, 1, 1] (kL C n 61 [1, 1, 0, 1, 0, 0] m0 (kB 0 (kC C n 61 [1, 1, 1] (kR C 61))))))
@[simp] noncomputable def ref03_Sub.l0_b (bd : B2) (n m0 : Nat) (v0 v1 v5 v6 v7 : V) (H : Heap) : Option R :=
 (bd (lenSl v0) fun t12_1 =>
 (bd (arA .lss v7 t12_1) fun t13_2 =>
 (bd (asB t13_2) fun b3 =>
 if b3 = true then
 (bd (idxS 1 v0 v7) fun t18_4 =>
 (bd (ld1 t18_4 H) fun t19_5 =>
 (bd (arA .sub t19_5 v6) fun t21_6 =>
 (bd (lenSl v1) fun t24_7 =>
 (bd (arA .lss v7 t24_7) fun t25_8 =>
 (bd (asB t25_8) fun b9 =>
 if b9 = true then
 (bd (idxS 1 v1 v7) fun t29_10 =>
 (bd (ld1 t29_10 H) fun t30_11 =>
 (bd (arA .sub t21_6 t30_11) fun t31_12 =>
 (ref03_Sub.p1 n m0 v0 v1 v5 v7 t31_12 H))))
 else
 (ref03_Sub.p1 n m0 v0 v1 v5 v7 t21_6 H)))))))
 else
 (bd (f_ref03_Trim n [v5] H) fun r13 =>
 (some (r13.1, r13.2))))))
theorem ref03_Sub.l0_tot {m0 : Nat → Nat} {v0 v1 v5 v6 v7 : V} {H : Heap} {Q : V → Heap → Prop} (hb : Big m0) (h : ∀ m0', Big m0' → Tot (fun n => ref03_Sub.l0_b @bnd n (m0' n) v0 v1 v5 v6 v7 H) Q) : Tot (fun n => ref03_Sub.l0 n (m0 n) v0 v1 v5 v6 v7 H) Q :=
  Tot.loop (f := fun n k => ref03_Sub.l0 n k v0 v1 v5 v6 v7 H) (g := fun n k => ref03_Sub.l0_b @bnd n k v0 v1 v5 v6 v7 H) hb (fun n k => bd_bnd (fun bd => ref03_Sub.l0_b bd n k v0 v1 v5 v6 v7 H) (by kernel_rfl)) h
@[simp] noncomputable def ref03_Sub.p1_b (bd : B2) (n m0 : Nat) (v0 v1 v5 v7 v8 : V) (H : Heap) : Option R :=
 (bd (arA .lss v8 (.int .i64 0)) fun t33_1 =>
 (bd (asB t33_1) fun b2 =>
 if b2 = true then
 (bd (arA .add v8 (.int .i64 65536)) fun t35_3 =>
 (bd (bSl 1 ty_int [(.int .i64 0)] 1 [(0, t35_3)]) fun o4 =>
 (bd (appA 1 8 ty_int v5 (.slice ⟨some (H.n, 0), 1, 1, false⟩) (H.push o4)) fun p5 =>
 (bd (arA .add v7 (.int .i64 1)) fun t15_6 =>
 (ref03_Sub.l0 n m0 v0 v1 p5.1 (.int .i64 1) t15_6 p5.2)))))
 else
 (bd (bSl 1 ty_int [(.int .i64 0)] 1 [(0, v8)]) fun o7 =>
 (bd (appA 1 8 ty_int v5 (.slice ⟨some (H.n, 0), 1, 1, false⟩) (H.push o7)) fun p8 =>
 (bd (arA .add v7 (.int .i64 1)) fun t15_9 =>
 (ref03_Sub.l0 n m0 v0 v1 p8.1 (.int .i64 0) t15_9 p8.2))))))
theorem ref03_Sub.p1_tot {m0 : Nat → Nat} {v0 v1 v5 v7 v8 : V} {H : Heap} {Q : V → Heap → Prop} (h : Tot (fun n => ref03_Sub.p1_b @bnd n (m0 n) v0 v1 v5 v7 v8 H) Q) : Tot (fun n => ref03_Sub.p1 n (m0 n) v0 v1 v5 v7 v8 H) Q := Tot.eq (fun n => bd_bnd (fun bd => ref03_Sub.p1_b bd n (m0 n) v0 v1 v5 v7 v8 H) (by kernel_rfl)) h
@[simp] noncomputable def ref03_Sub_b (bd : B2) (n : Nat) (v0 v1 : V) (H : Heap) : Option R :=
 (bd (bSl 1 ty_int [(.int .i64 0)] 0 []) fun o1 =>
 (ref03_Sub.l0 n n v0 v1 (.slice ⟨some (H.n, 0), 0, 1, false⟩) (.int .i64 0) (.int .i64 0) (H.push o1)))
theorem ref03_Sub_tot {v0 v1 : V} {H : Heap} {Q : V → Heap → Prop} (h : Tot (fun n => ref03_Sub_b @bnd n v0 v1 H) Q) : Tot (fun n => f_ref03_Sub n [v0, v1] H) Q := Tot.fn (fun n => bd_bnd (fun bd => ref03_Sub_b bd n v0 v1 H) (by kernel_rfl)) h
@[simp] noncomputable def ref04_Sub_b (bd : B2) (n : Nat) (v0 v1 : V) (H : Heap) : Option R :=
 (bd (boxA ty_ref04_Int v0) fun o1 =>
 (bd (boxA ty_ref04_Int v1) fun o2 =>
 (bd (ldN 2 (.ptr (some ((H.push o1).n, 0))) ((((H.push o1).push o2).push (.cells [(.int .i64 0), (.slice ⟨none, 0, 0, false⟩)] ty_ref04_Int false)).more 0)) fun t6_3 =>
 (bd (f_ref04_Neg n [t6_3] ((((H.push o1).push o2).push (.cells [(.int .i64 0), (.slice ⟨none, 0, 0, false⟩)] ty_ref04_Int false)).more 0)) fun r4 =>
 (bd (ldN 2 (.ptr (some (H.n, 0))) r4.2) fun t5_5 =>
 (bd (chk (ldN 2 (.ptr (some (H.n, 0))) ((((H.push o1).push o2).push (.cells [(.int .i64 0), (.slice ⟨none, 0, 0, false⟩)] ty_ref04_Int false)).more 0)) t5_5) fun _ =>
 (bd (f_ref04_Add n [t5_5, r4.1] r4.2) fun r6 =>
 (bd (stA 2 (.ptr (some (((H.push o1).push o2).n, 0))) r6.1 r6.2) fun H7 =>
 (bd (ldN 2 (.ptr (some (((H.push o1).push o2).n, 0))) H7) fun t8 =>
 (some (t8, H7)))))))))))
theorem ref04_Sub_tot {v0 v1 : V} {H : Heap} {Q : V → Heap → Prop} (h : Tot (fun n => ref04_Sub_b @bnd n v0 v1 H) Q) : Tot (fun n => f_ref04_Sub n [v0, v1] H) Q := Tot.fn (fun n => bd_bnd (fun bd => ref04_Sub_b bd n v0 v1 H) (by kernel_rfl)) h
@[irreducible] noncomputable def ref03_Trim.l0 (n m0 : Nat) (v0 v3 : V) (H : Heap) : Option R := Lp C n 63 [1, 1, 0, 0, 0] m0 [(0, v0), (3, v3)] H (kB 0 (kC C n 63 [1, 1, 1] (kR C 63)))
@[irreducible] noncomputable def ref03_Trim.p1 (n : Nat) (v0 v3 : V) (H : Heap) : Option R := E C n 63 [1, 1, 1] [(0, v0), (3, v3)] H (kR C 63)
@[simp] noncomputable def ref03_Trim.l0_b (bd : B2) (n m0 : Nat) (v0 v3 : V) (H : Heap) : Option R :=
 (bd (arA .gtr v3 (.int .i64 0)) fun t7_1 =>
 (bd (asB t7_1) fun b2 =>
 if b2 = true then
 (bd (arA .sub v3 (.int .i64 1)) fun t11_3 =>
 (bd (idxS 1 v0 t11_3) fun t12_4 =>
 (bd (ld1 t12_4 H) fun t13_5 =>
 (bd (arA .eql t13_5 (.int .i64 0)) fun t14_6 =>
 (bd (asB t14_6) fun b7 =>
 if b7 = true then
 (bd (arA .sub v3 (.int .i64 1)) fun t17_8 =>
 (ref03_Trim.l0 n m0 v0 t17_8 H))
 else
 (ref03_Trim.p1 n v0 v3 H))))))
 else
 (ref03_Trim.p1 n v0 v3 H)))
theorem ref03_Trim.l0_tot {m0 : Nat → Nat} {v0 v3 : V} {H : Heap} {Q : V → Heap → Prop} (hb : Big m0) (h : ∀ m0', Big m0' → Tot (fun n => ref03_Trim.l0_b @bnd n (m0' n) v0 v3 H) Q) : Tot (fun n => ref03_Trim.l0 n (m0 n) v0 v3 H) Q :=
  Tot.loop (f := fun n k => ref03_Trim.l0 n k v0 v3 H) (g := fun n k => ref03_Trim.l0_b @bnd n k v0 v3 H) hb (fun n k => bd_bnd (fun bd => ref03_Trim.l0_b bd n k v0 v3 H) (by kernel_rfl)) h
@[simp] noncomputable def ref03_Trim.p1_b (bd : B2) (n : Nat) (v0 v3 : V) (H : Heap) : Option R :=
 (bd (slSl 1 v0 none (some v3)) fun t20_1 =>
 (some (t20_1, H)))
theorem ref03_Trim.p1_tot {v0 v3 : V} {H : Heap} {Q : V → Heap → Prop} (h : Tot (fun n => ref03_Trim.p1_b @bnd n v0 v3 H) Q) : Tot (fun n => ref03_Trim.p1 n v0 v3 H) Q := Tot.eq (fun n => bd_bnd (fun bd => ref03_Trim.p1_b bd n v0 v3 H) (by kernel_rfl)) h
@[simp] noncomputable def ref03_Trim_b (bd : B2) (n : Nat) (v0 : V) (H : Heap) : Option R :=
 (bd (lenSl v0) fun t5_1 =>
 (ref03_Trim.l0 n n v0 t5_1 H))
theorem ref03_Trim_tot {v0 : V} {H : Heap} {Q : V → Heap → Prop} (h : Tot (fun n => ref03_Trim_b @bnd n v0 H) Q) : Tot (fun n => f_ref03_Trim n [v0] H) Q := Tot.fn (fun n => bd_bnd (fun bd => ref03_Trim_b bd n v0 H) (by kernel_rfl)) h
@[irreducible] noncomputable def ref03_Half.l0 (n m0 : Nat) (v0 v3 v4 v5 : V) (H : Heap) : Option R := Lp C n 64 [1, 1, 0, 1, 0, 0] m0 [(0, v0), (3, v3), (4, v4), (5, v5)] H (kB 0 (kC C n 64 [1, 1, 1] (kR C 64)))
@[simp] noncomputable def ref03_Half.l0_b (bd : B2) (n m0 : Nat) (v0 v3 v4 v5 : V) (H : Heap) : Option R :=
 (bd (arA .geq v5 (.int .i64 0)) fun t13_1 =>
 (bd (asB t13_1) fun b2 =>
 if b2 = true then
 (bd (arA .mul v4 (.int .i64 65536)) fun t17_3 =>
 (bd (idxS 1 v0 v5) fun t20_4 =>
 (bd (ld1 t20_4 H) fun t21_5 =>
 (bd (arA .add t17_3 t21_5) fun t22_6 =>
 (bd (arA .quo t22_6 (.int .i64 2)) fun t26_7 =>
 (bd (arA .rem t22_6 (.int .i64 2)) fun t28_8 =>
 (bd (idxS 1 v3 v5) fun t29_9 =>
 (bd (stA 1 t29_9 t26_7 H) fun H10 =>
 (bd (arA .sub v5 (.int .i64 1)) fun t15_11 =>
 (ref03_Half.l0 n m0 v0 v3 t28_8 t15_11 H10))))))))))
 else
 (bd (f_ref03_Trim n [v3] H) fun r12 =>
 (some (r12.1, r12.2)))))
theorem ref03_Half.l0_tot {m0 : Nat → Nat} {v0 v3 v4 v5 : V} {H : Heap} {Q : V → Heap → Prop} (hb : Big m0) (h : ∀ m0', Big m0' → Tot (fun n => ref03_Half.l0_b @bnd n (m0' n) v0 v3 v4 v5 H) Q) : Tot (fun n => ref03_Half.l0 n (m0 n) v0 v3 v4 v5 H) Q :=
  Tot.loop (f := fun n k => ref03_Half.l0 n k v0 v3 v4 v5 H) (g := fun n k => ref03_Half.l0_b @bnd n k v0 v3 v4 v5 H) hb (fun n k => bd_bnd (fun bd => ref03_Half.l0_b bd n k v0 v3 v4 v5 H) (by kernel_rfl)) h
@[simp] noncomputable def ref03_Half_b (bd : B2) (n : Nat) (v0 : V) (H : Heap) : Option R :=
 (bd (lenSl v0) fun t7_1 =>
 (bd (mkSl 1 8 ty_int [(.int .i64 0)] t7_1 t7_1) fun o2 =>
 (bd (lenSl v0) fun t10_3 =>
 (bd (arA .sub t10_3 (.int .i64 1)) fun t11_4 =>
 (ref03_Half.l0 n n v0 (.slice ⟨some (H.n, 0), o2.2, 1, false⟩) (.int .i64 0) t11_4 (H.push o2.1))))))
theorem ref03_Half_tot {v0 : V} {H : Heap} {Q : V → Heap → Prop} (h : Tot (fun n => ref03_Half_b @bnd n v0 H) Q) : Tot (fun n => f_ref03_Half n [v0] H) Q := Tot.fn (fun n => bd_bnd (fun bd => ref03_Half_b bd n v0 H) (by kernel_rfl)) h
@[simp] noncomputable def whole_Of_b (bd : B2) (n : Nat) (v0 : V) (H : Heap) : Option R :=
 (bd (arA .lss v0 (.int .i64 0)) fun t4_1 =>
 (bd (asB t4_1) fun b2 =>
 if b2 = true then
 (bd (cvInt .u64 v0) fun t6_3 =>
 (bd (unA .neg t6_3) fun t7_4 =>
 (bd (f_nat_Of n [t7_4] (H.push (.cells [(.bool false), (.slice ⟨none, 0, 0, false⟩)] ty_api_Int false))) fun r5 =>
 (bd (f_whole_norm n [(.bool true), r5.1] r5.2) fun r6 =>
 (bd (stA 2 (.ptr (some (H.n, 0))) r6.1 r6.2) fun H7 =>
 (bd (ldN 2 (.ptr (some (H.n, 0))) H7) fun t8 =>
 (some (t8, H7))))))))
 else
 (bd (cvInt .u64 v0) fun t11_9 =>
 (bd (f_nat_Of n [t11_9] (H.push (.cells [(.bool false), (.slice ⟨none, 0, 0, false⟩)] ty_api_Int false))) fun r10 =>
 (bd (f_whole_norm n [(.bool false), r10.1] r10.2) fun r11 =>
 (bd (stA 2 (.ptr (some (H.n, 0))) r11.1 r11.2) fun H12 =>
 (bd (ldN 2 (.ptr (some (H.n, 0))) H12) fun t13 =>
 (some (t13, H12)))))))))
theorem whole_Of_tot {v0 : V} {H : Heap} {Q : V → Heap → Prop} (h : Tot (fun n => whole_Of_b @bnd n v0 H) Q) : Tot (fun n => f_whole_Of n [v0] H) Q := Tot.fn (fun n => bd_bnd (fun bd => whole_Of_b bd n v0 H) (by kernel_rfl)) h
@[simp] noncomputable def rat_norm_b (bd : B2) (n : Nat) (v0 : V) (H : Heap) : Option R :=
 (bd (boxA ty_api_Rat v0) fun o1 =>
 (bd (faA 0 (.ptr (some (H.n, 0)))) fun t3_2 =>
 (bd (ldN 2 t3_2 ((H.push o1).push (.cells [(.bool false), (.slice ⟨none, 0, 0, false⟩), (.slice ⟨none, 0, 0, false⟩)] ty_api_Rat false))) fun t4_3 =>
 (bd (faA 2 (.ptr (some (H.n, 0)))) fun t5_4 =>
 (bd (ld1 t5_4 ((H.push o1).push (.cells [(.bool false), (.slice ⟨none, 0, 0, false⟩), (.slice ⟨none, 0, 0, false⟩)] ty_api_Rat false))) fun t6_5 =>
 (bd (f_rat_lowest n [t4_3, t6_5] ((H.push o1).push (.cells [(.bool false), (.slice ⟨none, 0, 0, false⟩), (.slice ⟨none, 0, 0, false⟩)] ty_api_Rat false))) fun r6 =>
 (bd (stA 3 (.ptr (some ((H.push o1).n, 0))) r6.1 r6.2) fun H7 =>
 (bd (ldN 3 (.ptr (some ((H.push o1).n, 0))) H7) fun t8 =>
 (some (t8, H7))))))))))
theorem rat_norm_tot {v0 : V} {H : Heap} {Q : V → Heap → Prop} (h : Tot (fun n => rat_norm_b @bnd n v0 H) Q) : Tot (fun n => f_rat_norm n [v0] H) Q := Tot.fn (fun n => bd_bnd (fun bd => rat_norm_b bd n v0 H) (by kernel_rfl)) h
@[simp] noncomputable def rat_Mul_b (bd : B2) (n : Nat) (v0 v1 : V) (H : Heap) : Option R :=
 (bd (boxA ty_api_Rat v0) fun o1 =>
 (bd (boxA ty_api_Rat v1) fun o2 =>
 (bd (ldN 3 (.ptr (some (H.n, 0))) ((((H.push o1).push o2).push (.cells [(.bool false), (.slice ⟨none, 0, 0, false⟩), (.slice ⟨none, 0, 0, false⟩)] ty_api_Rat false)).more 0)) fun t5_3 =>
 (bd (f_rat_norm n [t5_3] ((((H.push o1).push o2).push (.cells [(.bool false), (.slice ⟨none, 0, 0, false⟩), (.slice ⟨none, 0, 0, false⟩)] ty_api_Rat false)).more 0)) fun r4 =>
 (bd (ldN 3 (.ptr (some ((H.push o1).n, 0))) r4.2) fun t7_5 =>
 (bd (chk (ldN 3 (.ptr (some ((H.push o1).n, 0))) ((((H.push o1).push o2).push (.cells [(.bool false), (.slice ⟨none, 0, 0, false⟩), (.slice ⟨none, 0, 0, false⟩)] ty_api_Rat false)).more 0)) t7_5) fun _ =>
 (bd (f_rat_norm n [t7_5] r4.2) fun r6 =>
 (bd (stA 3 (.ptr (some (H.n, 0))) r4.1 r6.2) fun H7 =>
 (bd (stA 3 (.ptr (some ((H.push o1).n, 0))) r6.1 H7) fun H8 =>
 (bd (faA 0 (.ptr (some (H.n, 0)))) fun t9_9 =>
 (bd (ldN 2 t9_9 (H8.more 0)) fun t10_10 =>
 (bd (faA 0 (.ptr (some ((H.push o1).n, 0)))) fun t11_11 =>
 (bd (ldN 2 t11_11 (H8.more 0)) fun t12_12 =>
 (bd (f_whole_Mul n [t10_10, t12_12] (H8.more 0)) fun r13 =>
 (bd (faA 2 (.ptr (some (H.n, 0)))) fun t14_14 =>
 (bd (ld1 t14_14 r13.2) fun t15_15 =>
 (bd (chk (ld1 t14_14 (H8.more 0)) t15_15) fun _ =>
 (bd (faA 2 (.ptr (some ((H.push o1).n, 0)))) fun t16_16 =>
 (bd (ld1 t16_16 r13.2) fun t17_17 =>
 (bd (chk (ld1 t16_16 (H8.more 0)) t17_17) fun _ =>
 (bd (f_nat_Mul n [t15_15, t17_17] r13.2) fun r18 =>
 (bd (f_rat_lowest n [r13.1, r18.1] r18.2) fun r19 =>
 (bd (stA 3 (.ptr (some (((H.push o1).push o2).n, 0))) r19.1 r19.2) fun H20 =>
 (bd (ldN 3 (.ptr (some (((H.push o1).push o2).n, 0))) H20) fun t21 =>
 (some (t21, H20))))))))))))))))))))))))))
theorem rat_Mul_tot {v0 v1 : V} {H : Heap} {Q : V → Heap → Prop} (h : Tot (fun n => rat_Mul_b @bnd n v0 v1 H) Q) : Tot (fun n => f_rat_Mul n [v0, v1] H) Q := Tot.fn (fun n => bd_bnd (fun bd => rat_Mul_b bd n v0 v1 H) (by kernel_rfl)) h
@[irreducible] noncomputable def ref03_Show.l0 (n m0 : Nat) (v3 v4 : V) (H : Heap) : Option R := Lp C n 76 [1, 1, 0, 0, 0] m0 [(3, v3), (4, v4)] H (kB 0 (kC C n 76 [1, 1, 1] (kR C 76)))
@[irreducible] noncomputable def ref03_Show.l1 (n m0 m1 : Nat) (v3 v4 v5 v6 : V) (H : Heap) : Option R := Lp C n 76 [1, 1, 0, 0, 0, 1, 0, 1, 0, 1, 0, 0] m1 [(3, v3), (4, v4), (5, v5), (6, v6)] H (kB 2 (kC C n 76 [1, 1, 0, 0, 0, 1, 0, 1, 1] (kB 1 (kL C n 76 [1, 1, 0, 0, 0] m0 (kB 0 (kC C n 76 [1, 1, 1] (kR C 76)))))))
@[irreducible] noncomputable def ref03_Show.p2 (n m0 : Nat) (v3 v4 v5 : V) (H : Heap) : Option R := E C n 76 [1, 1, 0, 0, 0, 1, 0, 1, 1] [(3, v3), (4, v4), (5, v5)] H (kB 1 (kL C n 76 [1, 1, 0, 0, 0] m0 (kB 0 (kC C n 76 [1, 1, 1] (kR C 76)))))
@[simp] noncomputable def ref03_Show.l0_b (bd : B2) (n m0 : Nat) (v3 v4 : V) (H : Heap) : Option R :=
 (bd (lenSl v3) fun t11_1 =>
 (bd (arA .gtr t11_1 (.int .i64 0)) fun t12_2 =>
 (bd (asB t12_2) fun b3 =>
 if b3 = true then
 (bd (lenSl v3) fun t18_4 =>
 (bd (arA .sub t18_4 (.int .i64 1)) fun t19_5 =>
 (ref03_Show.l1 n m0 n v3 v4 (.int .i64 0) t19_5 H)))
 else
 (bd (arA .eql v4 (.str [])) fun t15_6 =>
 (bd (asB t15_6) fun b7 =>
 if b7 = true then
 (bd (lenSl v3) fun t18_8 =>
 (bd (arA .sub t18_8 (.int .i64 1)) fun t19_9 =>
 (ref03_Show.l1 n m0 n v3 v4 (.int .i64 0) t19_9 H)))
 else
 (some (v4, H)))))))
theorem ref03_Show.l0_tot {m0 : Nat → Nat} {v3 v4 : V} {H : Heap} {Q : V → Heap → Prop} (hb : Big m0) (h : ∀ m0', Big m0' → Tot (fun n => ref03_Show.l0_b @bnd n (m0' n) v3 v4 H) Q) : Tot (fun n => ref03_Show.l0 n (m0 n) v3 v4 H) Q :=
  Tot.loop (f := fun n k => ref03_Show.l0 n k v3 v4 H) (g := fun n k => ref03_Show.l0_b @bnd n k v3 v4 H) hb (fun n k => bd_bnd (fun bd => ref03_Show.l0_b bd n k v3 v4 H) (by kernel_rfl)) h
@[simp] noncomputable def ref03_Show.l1_b (bd : B2) (n m0 m1 : Nat) (v3 v4 v5 v6 : V) (H : Heap) : Option R :=
 (bd (arA .geq v6 (.int .i64 0)) fun t21_1 =>
 (bd (asB t21_1) fun b2 =>
 if b2 = true then
 (bd (arA .mul v5 (.int .i64 65536)) fun t25_3 =>
 (bd (idxS 1 v3 v6) fun t28_4 =>
 (bd (ld1 t28_4 H) fun t29_5 =>
 (bd (arA .add t25_3 t29_5) fun t30_6 =>
 (bd (arA .quo t30_6 (.int .i64 10)) fun t34_7 =>
 (bd (arA .rem t30_6 (.int .i64 10)) fun t36_8 =>
 (bd (idxS 1 v3 v6) fun t37_9 =>
 (bd (stA 1 t37_9 t34_7 H) fun H10 =>
 (bd (arA .sub v6 (.int .i64 1)) fun t23_11 =>
 (ref03_Show.l1 n m0 m1 v3 v4 t36_8 t23_11 H10))))))))))
 else
 (ref03_Show.p2 n m0 v3 v4 v5 H)))
theorem ref03_Show.l1_tot {m0 : Nat → Nat} {m1 : Nat → Nat} {v3 v4 v5 v6 : V} {H : Heap} {Q : V → Heap → Prop} (hb : Big m1) (h : ∀ m1', Big m1' → Tot (fun n => ref03_Show.l1_b @bnd n (m0 n) (m1' n) v3 v4 v5 v6 H) Q) : Tot (fun n => ref03_Show.l1 n (m0 n) (m1 n) v3 v4 v5 v6 H) Q :=
  Tot.loop (f := fun n k => ref03_Show.l1 n (m0 n) k v3 v4 v5 v6 H) (g := fun n k => ref03_Show.l1_b @bnd n (m0 n) k v3 v4 v5 v6 H) hb (fun n k => bd_bnd (fun bd => ref03_Show.l1_b bd n (m0 n) k v3 v4 v5 v6 H) (by kernel_rfl)) h
@[simp] noncomputable def ref03_Show.p2_b (bd : B2) (n m0 : Nat) (v3 v4 v5 : V) (H : Heap) : Option R :=
 (bd (f_ref03_Trim n [v3] H) fun r1 =>
 (bd (arA .add v5 (.int .i64 1)) fun t42_2 =>
 (bd (slStr (.str [48, 49, 50, 51, 52, 53, 54, 55, 56, 57]) (some v5) (some t42_2)) fun t43_3 =>
 (bd (arA .add t43_3 v4) fun t45_4 =>
 (ref03_Show.l0 n m0 r1.1 t45_4 r1.2)))))
theorem ref03_Show.p2_tot {m0 : Nat → Nat} {v3 v4 v5 : V} {H : Heap} {Q : V → Heap → Prop} (h : Tot (fun n => ref03_Show.p2_b @bnd n (m0 n) v3 v4 v5 H) Q) : Tot (fun n => ref03_Show.p2 n (m0 n) v3 v4 v5 H) Q := Tot.eq (fun n => bd_bnd (fun bd => ref03_Show.p2_b bd n (m0 n) v3 v4 v5 H) (by kernel_rfl)) h
@[simp] noncomputable def ref03_Show_b (bd : B2) (n : Nat) (v0 : V) (H : Heap) : Option R :=
 (bd (bSl 1 ty_int [(.int .i64 0)] 0 []) fun o1 =>
 (bd (appA 1 8 ty_int (.slice ⟨some (H.n, 0), 0, 1, false⟩) v0 (H.push o1)) fun p2 =>
 (ref03_Show.l0 n n p2.1 (.str []) p2.2)))
theorem ref03_Show_tot {v0 : V} {H : Heap} {Q : V → Heap → Prop} (h : Tot (fun n => ref03_Show_b @bnd n v0 H) Q) : Tot (fun n => f_ref03_Show n [v0] H) Q := Tot.fn (fun n => bd_bnd (fun bd => ref03_Show_b bd n v0 H) (by kernel_rfl)) h
@[simp] noncomputable def whole_norm_b (bd : B2) (n : Nat) (v0 v1 : V) (H : Heap) : Option R :=
 (bd (f_nat_Trim n [v1] (H.push (.cells [(.bool false), (.slice ⟨none, 0, 0, false⟩)] ty_api_Int false))) fun r1 =>
 (bd (asB v0) fun b2 =>
 if b2 = true then
 (bd (lenSl r1.1) fun t10_3 =>
 (bd (arA .gtr t10_3 (.int .i64 0)) fun t11_4 =>
 (bd (flA [(0, 1), (1, 1)] [(.bool false), (.slice ⟨none, 0, 0, false⟩)] [(0, t11_4), (1, r1.1)]) fun t14_5 =>
 (bd (stA 2 (.ptr (some (H.n, 0))) t14_5 r1.2) fun H6 =>
 (bd (ldN 2 (.ptr (some (H.n, 0))) H6) fun t7 =>
 (some (t7, H6)))))))
 else
 (bd (flA [(0, 1), (1, 1)] [(.bool false), (.slice ⟨none, 0, 0, false⟩)] [(0, (.bool false)), (1, r1.1)]) fun t14_8 =>
 (bd (stA 2 (.ptr (some (H.n, 0))) t14_8 r1.2) fun H9 =>
 (bd (ldN 2 (.ptr (some (H.n, 0))) H9) fun t10 =>
 (some (t10, H9)))))))
theorem whole_norm_tot {v0 v1 : V} {H : Heap} {Q : V → Heap → Prop} (h : Tot (fun n => whole_norm_b @bnd n v0 v1 H) Q) : Tot (fun n => f_whole_norm n [v0, v1] H) Q := Tot.fn (fun n => bd_bnd (fun bd => whole_norm_b bd n v0 v1 H) (by kernel_rfl)) h
@[simp] noncomputable def nat_Of_b (bd : B2) (n : Nat) (v0 : V) (H : Heap) : Option R :=
 (bd (cvInt .u32 v0) fun t4_1 =>
 (bd (shA .shr v0 (.int .u64 32)) fun t6_2 =>
 (bd (cvInt .u32 t6_2) fun t7_3 =>
 (bd (bSl 1 ty_uint32 [(.int .u32 0)] 2 [(0, t4_1), (1, t7_3)]) fun o4 =>
 (bd (f_nat_trim n [(.slice ⟨some (H.n, 0), 2, 1, false⟩)] (H.push o4)) fun r5 =>
 (bd (f_slices_Clone_api_Nat_uint32 n [r5.1] r5.2) fun r6 =>
 (some (r6.1, r6.2))))))))
theorem nat_Of_tot {v0 : V} {H : Heap} {Q : V → Heap → Prop} (h : Tot (fun n => nat_Of_b @bnd n v0 H) Q) : Tot (fun n => f_nat_Of n [v0] H) Q := Tot.fn (fun n => bd_bnd (fun bd => nat_Of_b bd n v0 H) (by kernel_rfl)) h
@[simp] noncomputable def rat_lowest_b (bd : B2) (n : Nat) (v0 v1 : V) (H : Heap) : Option R :=
 (bd (boxA ty_api_Int v0) fun o1 =>
 (bd (ldN 2 (.ptr (some (H.n, 0))) ((H.push o1).push (.cells [(.bool false), (.slice ⟨none, 0, 0, false⟩), (.slice ⟨none, 0, 0, false⟩)] ty_api_Rat false))) fun t6_2 =>
 (bd (f_whole_Norm n [t6_2] ((H.push o1).push (.cells [(.bool false), (.slice ⟨none, 0, 0, false⟩), (.slice ⟨none, 0, 0, false⟩)] ty_api_Rat false))) fun r3 =>
 (bd (f_nat_Trim n [v1] r3.2) fun r4 =>
 (bd (stA 2 (.ptr (some (H.n, 0))) r3.1 r4.2) fun H5 =>
 (bd (lenSl r4.1) fun t11_6 =>
 (bd (arA .eql t11_6 (.int .i64 0)) fun t12_7 =>
 (bd (asB t12_7) fun b8 =>
 if b8 = true then
 (bd (bSl 1 ty_uint32 [(.int .u32 0)] 1 [(0, (.int .u32 1))]) fun o9 =>
 (bd (flA [(0, 2), (2, 1)] [(.bool false), (.slice ⟨none, 0, 0, false⟩), (.slice ⟨none, 0, 0, false⟩)] [(1, (.slice ⟨some (H5.n, 0), 1, 1, false⟩))]) fun t20_10 =>
 (bd (stA 3 (.ptr (some ((H.push o1).n, 0))) t20_10 (H5.push o9)) fun H11 =>
 (bd (ldN 3 (.ptr (some ((H.push o1).n, 0))) H11) fun t12 =>
 (some (t12, H11))))))
 else
 (bd (faA 1 (.ptr (some (H.n, 0)))) fun t14_13 =>
 (bd (ld1 t14_13 H5) fun t15_14 =>
 (bd (lenSl t15_14) fun t16_15 =>
 (bd (arA .eql t16_15 (.int .i64 0)) fun t17_16 =>
 (bd (asB t17_16) fun b17 =>
 if b17 = true then
 (bd (bSl 1 ty_uint32 [(.int .u32 0)] 1 [(0, (.int .u32 1))]) fun o18 =>
 (bd (flA [(0, 2), (2, 1)] [(.bool false), (.slice ⟨none, 0, 0, false⟩), (.slice ⟨none, 0, 0, false⟩)] [(1, (.slice ⟨some (H5.n, 0), 1, 1, false⟩))]) fun t20_19 =>
 (bd (stA 3 (.ptr (some ((H.push o1).n, 0))) t20_19 (H5.push o18)) fun H20 =>
 (bd (ldN 3 (.ptr (some ((H.push o1).n, 0))) H20) fun t21 =>
 (some (t21, H20))))))
 else
 (bd (faA 1 (.ptr (some (H.n, 0)))) fun t21_22 =>
 (bd (ld1 t21_22 H5) fun t22_23 =>
 (bd (f_nat_Gcd n [t22_23, r4.1] H5) fun r24 =>
 (bd (faA 1 (.ptr (some (H.n, 0)))) fun t26_25 =>
 (bd (ld1 t26_25 r24.2) fun t27_26 =>
 (bd (f_nat_DivMod n [t27_26, r24.1] r24.2) fun r27 =>
 (bd (extA r27.1 0) fun t30_28 =>
 (bd (extA r27.1 1) fun t31_29 =>
 (bd (extA r27.1 2) fun t32_30 =>
 (bd (faA 1 (.ptr (some (H.n, 0)))) fun t33_31 =>
 (bd (stA 1 t33_31 t30_28 r27.2) fun H32 =>
 (bd (f_nat_DivMod n [r4.1, r24.1] H32) fun r33 =>
 (bd (extA r33.1 0) fun t38_34 =>
 (bd (extA r33.1 1) fun t39_35 =>
 (bd (extA r33.1 2) fun t40_36 =>
 (bd (ldN 2 (.ptr (some (H.n, 0))) r33.2) fun t41_37 =>
 (bd (flA [(0, 2), (2, 1)] [(.bool false), (.slice ⟨none, 0, 0, false⟩), (.slice ⟨none, 0, 0, false⟩)] [(0, t41_37), (1, t38_34)]) fun t43_38 =>
 (bd (stA 3 (.ptr (some ((H.push o1).n, 0))) t43_38 r33.2) fun H39 =>
 (bd (ldN 3 (.ptr (some ((H.push o1).n, 0))) H39) fun t40 =>
 (some (t40, H39))))))))))))))))))))))))))))))))))
theorem rat_lowest_tot {v0 v1 : V} {H : Heap} {Q : V → Heap → Prop} (h : Tot (fun n => rat_lowest_b @bnd n v0 v1 H) Q) : Tot (fun n => f_rat_lowest n [v0, v1] H) Q := Tot.fn (fun n => bd_bnd (fun bd => rat_lowest_b bd n v0 v1 H) (by kernel_rfl)) h
@[simp] noncomputable def whole_Add_b (bd : B2) (n : Nat) (v0 v1 : V) (H : Heap) : Option R :=
 (bd (boxA ty_api_Int v0) fun o1 =>
 (bd (boxA ty_api_Int v1) fun o2 =>
 (bd (ldN 2 (.ptr (some (H.n, 0))) (((H.push o1).push o2).push (.cells [(.bool false), (.slice ⟨none, 0, 0, false⟩)] ty_api_Int false))) fun t5_3 =>
 (bd (ldN 2 (.ptr (some ((H.push o1).n, 0))) (((H.push o1).push o2).push (.cells [(.bool false), (.slice ⟨none, 0, 0, false⟩)] ty_api_Int false))) fun t6_4 =>
 (bd (f_whole_add n [t5_3, t6_4] (((H.push o1).push o2).push (.cells [(.bool false), (.slice ⟨none, 0, 0, false⟩)] ty_api_Int false))) fun r5 =>
 (bd (stA 2 (.ptr (some (((H.push o1).push o2).n, 0))) r5.1 r5.2) fun H6 =>
 (bd (ldN 2 (.ptr (some (((H.push o1).push o2).n, 0))) H6) fun t7 =>
 (some (t7, H6)))))))))
theorem whole_Add_tot {v0 v1 : V} {H : Heap} {Q : V → Heap → Prop} (h : Tot (fun n => whole_Add_b @bnd n v0 v1 H) Q) : Tot (fun n => f_whole_Add n [v0, v1] H) Q := Tot.fn (fun n => bd_bnd (fun bd => whole_Add_b bd n v0 v1 H) (by kernel_rfl)) h
@[irreducible] noncomputable def nat_Mul.l0 (n m0 : Nat) (v1 v5 v17 v18 v19 : V) (H : Heap) : Option R := Lp C n 82 [1, 1, 0, 1, 0, 0] m0 [(1, v1), (5, v5), (17, v17), (18, v18), (19, v19)] H (kB 0 (kC C n 82 [1, 1, 1] (kR C 82)))
@[irreducible] noncomputable def nat_Mul.l1 (n m0 m1 : Nat) (v1 v5 v6 v7 v8 v17 v18 v19 v24 v25 v26 : V) (H : Heap) : Option R := Lp C n 82 [1, 1, 0, 1, 0, 0, 1, 1, 0, 0, 1, 1, 0, 1, 0, 0] m1 [(1, v1), (5, v5), (6, v6), (7, v7), (8, v8), (17, v17), (18, v18), (19, v19), (24, v24), (25, v25), (26, v26)] H (kB 2 (kC C n 82 [1, 1, 0, 1, 0, 0, 1, 1, 0, 0, 1, 1, 1] (kB 1 (kC C n 82 [1, 1, 0, 1, 0, 0, 1, 1, 1] (kL C n 82 [1, 1, 0, 1, 0, 0] m0 (kB 0 (kC C n 82 [1, 1, 1] (kR C 82))))))))
@[irreducible] noncomputable def nat_Mul.p2 (n m0 : Nat) (v1 v5 v6 v8 v17 v18 v19 : V) (H : Heap) : Option R := E C n 82 [1, 1, 0, 1, 0, 0, 1, 1, 0, 0, 1, 1, 1] [(1, v1), (5, v5), (6, v6), (8, v8), (17, v17), (18, v18), (19, v19)] H (kB 1 (kC C n 82 [1, 1, 0, 1, 0, 0, 1, 1, 1] (kL C n 82 [1, 1, 0, 1, 0, 0] m0 (kB 0 (kC C n 82 [1, 1, 1] (kR C 82))))))
@[simp] noncomputable def nat_Mul.l0_b (bd : B2) (n m0 : Nat) (v1 v5 v17 v18 v19 : V) (H : Heap) : Option R :=
 (bd (arA .lss v19 v18) fun t20_1 =>
 (bd (asB t20_1) fun b2 =>
 if b2 = true then
 (bd (idxS 1 v17 v19) fun t22_3 =>
 (bd (ld1 t22_3 H) fun t23_4 =>
 (bd (lenSl v1) fun t25_5 =>
 (nat_Mul.l1 n m0 n v1 v5 v19 t23_4 (.int .u64 0) v17 v18 v19 v1 t25_5 (.int .i64 0) H))))
 else
 (bd (f_nat_trim n [v5] H) fun r6 =>
 (some (r6.1, r6.2)))))
theorem nat_Mul.l0_tot {m0 : Nat → Nat} {v1 v5 v17 v18 v19 : V} {H : Heap} {Q : V → Heap → Prop} (hb : Big m0) (h : ∀ m0', Big m0' → Tot (fun n => nat_Mul.l0_b @bnd n (m0' n) v1 v5 v17 v18 v19 H) Q) : Tot (fun n => nat_Mul.l0 n (m0 n) v1 v5 v17 v18 v19 H) Q :=
  Tot.loop (f := fun n k => nat_Mul.l0 n k v1 v5 v17 v18 v19 H) (g := fun n k => nat_Mul.l0_b @bnd n k v1 v5 v17 v18 v19 H) hb (fun n k => bd_bnd (fun bd => nat_Mul.l0_b bd n k v1 v5 v17 v18 v19 H) (by kernel_rfl)) h
@[simp] noncomputable def nat_Mul.l1_b (bd : B2) (n m0 m1 : Nat) (v1 v5 v6 v7 v8 v17 v18 v19 v24 v25 v26 : V) (H : Heap) : Option R :=
 (bd (arA .lss v26 v25) fun t27_1 =>
 (bd (asB t27_1) fun b2 =>
 if b2 = true then
 (bd (idxS 1 v24 v26) fun t29_3 =>
 (bd (ld1 t29_3 H) fun t30_4 =>
 (bd (arA .add v6 v26) fun t35_5 =>
 (bd (idxS 1 v5 t35_5) fun t36_6 =>
 (bd (ld1 t36_6 H) fun t37_7 =>
 (bd (cvInt .u64 t37_7) fun t38_8 =>
 (bd (cvInt .u64 v7) fun t40_9 =>
 (bd (cvInt .u64 t30_4) fun t42_10 =>
 (bd (arA .mul t40_9 t42_10) fun t43_11 =>
 (bd (arA .add t38_8 t43_11) fun t44_12 =>
 (bd (arA .add v8 t44_12) fun t45_13 =>
 (bd (arA .add v6 v26) fun t49_14 =>
 (bd (cvInt .u32 t45_13) fun t51_15 =>
 (bd (idxS 1 v5 t49_14) fun t52_16 =>
 (bd (stA 1 t52_16 t51_15 H) fun H17 =>
 (bd (shA .shr t45_13 (.int .u64 32)) fun t54_18 =>
 (bd (arA .add v26 (.int .i64 1)) fun t55_19 =>
 (nat_Mul.l1 n m0 m1 v1 v5 v6 v7 t54_18 v17 v18 v19 v24 v25 t55_19 H17))))))))))))))))))
 else
 (nat_Mul.p2 n m0 v1 v5 v6 v8 v17 v18 v19 H)))
theorem nat_Mul.l1_tot {m0 : Nat → Nat} {m1 : Nat → Nat} {v1 v5 v6 v7 v8 v17 v18 v19 v24 v25 v26 : V} {H : Heap} {Q : V → Heap → Prop} (hb : Big m1) (h : ∀ m1', Big m1' → Tot (fun n => nat_Mul.l1_b @bnd n (m0 n) (m1' n) v1 v5 v6 v7 v8 v17 v18 v19 v24 v25 v26 H) Q) : Tot (fun n => nat_Mul.l1 n (m0 n) (m1 n) v1 v5 v6 v7 v8 v17 v18 v19 v24 v25 v26 H) Q :=
  Tot.loop (f := fun n k => nat_Mul.l1 n (m0 n) k v1 v5 v6 v7 v8 v17 v18 v19 v24 v25 v26 H) (g := fun n k => nat_Mul.l1_b @bnd n (m0 n) k v1 v5 v6 v7 v8 v17 v18 v19 v24 v25 v26 H) hb (fun n k => bd_bnd (fun bd => nat_Mul.l1_b bd n (m0 n) k v1 v5 v6 v7 v8 v17 v18 v19 v24 v25 v26 H) (by kernel_rfl)) h
@[simp] noncomputable def nat_Mul.p2_b (bd : B2) (n m0 : Nat) (v1 v5 v6 v8 v17 v18 v19 : V) (H : Heap) : Option R :=
 (bd (lenSl v1) fun t59_1 =>
 (bd (arA .add v6 t59_1) fun t60_2 =>
 (bd (cvInt .u32 v8) fun t62_3 =>
 (bd (idxS 1 v5 t60_2) fun t63_4 =>
 (bd (stA 1 t63_4 t62_3 H) fun H5 =>
 (bd (arA .add v19 (.int .i64 1)) fun t64_6 =>
 (nat_Mul.l0 n m0 v1 v5 v17 v18 t64_6 H5)))))))
theorem nat_Mul.p2_tot {m0 : Nat → Nat} {v1 v5 v6 v8 v17 v18 v19 : V} {H : Heap} {Q : V → Heap → Prop} (h : Tot (fun n => nat_Mul.p2_b @bnd n (m0 n) v1 v5 v6 v8 v17 v18 v19 H) Q) : Tot (fun n => nat_Mul.p2 n (m0 n) v1 v5 v6 v8 v17 v18 v19 H) Q := Tot.eq (fun n => bd_bnd (fun bd => nat_Mul.p2_b bd n (m0 n) v1 v5 v6 v8 v17 v18 v19 H) (by kernel_rfl)) h
@[simp] noncomputable def nat_Mul_b (bd : B2) (n : Nat) (v0 v1 : V) (H : Heap) : Option R :=
 (bd (lenSl v0) fun t12_1 =>
 (bd (lenSl v1) fun t14_2 =>
 (bd (arA .add t12_1 t14_2) fun t15_3 =>
 (bd (mkSl 1 4 ty_uint32 [(.int .u32 0)] t15_3 t15_3) fun o4 =>
 (bd (lenSl v0) fun t18_5 =>
 (nat_Mul.l0 n n v1 (.slice ⟨some (H.n, 0), o4.2, 1, false⟩) v0 t18_5 (.int .i64 0) (H.push o4.1)))))))
theorem nat_Mul_tot {v0 v1 : V} {H : Heap} {Q : V → Heap → Prop} (h : Tot (fun n => nat_Mul_b @bnd n v0 v1 H) Q) : Tot (fun n => f_nat_Mul n [v0, v1] H) Q := Tot.fn (fun n => bd_bnd (fun bd => nat_Mul_b bd n v0 v1 H) (by kernel_rfl)) h
@[simp] noncomputable def whole_Mul_b (bd : B2) (n : Nat) (v0 v1 : V) (H : Heap) : Option R :=
 (bd (boxA ty_api_Int v0) fun o1 =>
 (bd (boxA ty_api_Int v1) fun o2 =>
 (bd (faA 1 (.ptr (some (H.n, 0)))) fun t10_3 =>
 (bd (ld1 t10_3 ((((H.push o1).push o2).push (.cells [(.bool false), (.slice ⟨none, 0, 0, false⟩)] ty_api_Int false)).more 0)) fun t11_4 =>
 (bd (faA 1 (.ptr (some ((H.push o1).n, 0)))) fun t12_5 =>
 (bd (ld1 t12_5 ((((H.push o1).push o2).push (.cells [(.bool false), (.slice ⟨none, 0, 0, false⟩)] ty_api_Int false)).more 0)) fun t13_6 =>
 (bd (f_nat_Mul n [t11_4, t13_6] ((((H.push o1).push o2).push (.cells [(.bool false), (.slice ⟨none, 0, 0, false⟩)] ty_api_Int false)).more 0)) fun r7 =>
 (bd (faA 0 (.ptr (some (H.n, 0)))) fun t5_8 =>
 (bd (ld1 t5_8 r7.2) fun t6_9 =>
 (bd (chk (ld1 t5_8 ((((H.push o1).push o2).push (.cells [(.bool false), (.slice ⟨none, 0, 0, false⟩)] ty_api_Int false)).more 0)) t6_9) fun _ =>
 (bd (faA 0 (.ptr (some ((H.push o1).n, 0)))) fun t7_10 =>
 (bd (ld1 t7_10 r7.2) fun t8_11 =>
 (bd (chk (ld1 t7_10 ((((H.push o1).push o2).push (.cells [(.bool false), (.slice ⟨none, 0, 0, false⟩)] ty_api_Int false)).more 0)) t8_11) fun _ =>
 (bd (neqA P ty_bool t6_9 t8_11) fun t9_12 =>
 (bd (f_whole_norm n [t9_12, r7.1] r7.2) fun r13 =>
 (bd (stA 2 (.ptr (some (((H.push o1).push o2).n, 0))) r13.1 r13.2) fun H14 =>
 (bd (ldN 2 (.ptr (some (((H.push o1).push o2).n, 0))) H14) fun t15 =>
 (some (t15, H14)))))))))))))))))))
theorem whole_Mul_tot {v0 v1 : V} {H : Heap} {Q : V → Heap → Prop} (h : Tot (fun n => whole_Mul_b @bnd n v0 v1 H) Q) : Tot (fun n => f_whole_Mul n [v0, v1] H) Q := Tot.fn (fun n => bd_bnd (fun bd => whole_Mul_b bd n v0 v1 H) (by kernel_rfl)) h
@[simp] noncomputable def nat_Trim_b (bd : B2) (n : Nat) (v0 : V) (H : Heap) : Option R :=
 (bd (f_nat_trim n [v0] H) fun r1 =>
 (bd (f_slices_Clone_api_Nat_uint32 n [r1.1] r1.2) fun r2 =>
 (some (r2.1, r2.2))))
theorem nat_Trim_tot {v0 : V} {H : Heap} {Q : V → Heap → Prop} (h : Tot (fun n => nat_Trim_b @bnd n v0 H) Q) : Tot (fun n => f_nat_Trim n [v0] H) Q := Tot.fn (fun n => bd_bnd (fun bd => nat_Trim_b bd n v0 H) (by kernel_rfl)) h
@[simp] noncomputable def slices_Clone_api_Nat_uint32_b (bd : B2) (n : Nat) (v0 : V) (H : Heap) : Option R :=
 (bd (eqlA P ty_api_Nat v0 (.slice ⟨none, 0, 0, false⟩)) fun t4_1 =>
 (bd (asB t4_1) fun b2 =>
 if b2 = true then
 (some ((.slice ⟨none, 0, 0, false⟩), H))
 else
 (bd (bSl 1 ty_uint32 [(.int .u32 0)] 0 []) fun o3 =>
 (bd (appA 1 4 ty_uint32 (.slice ⟨some (H.n, 0), 0, 1, false⟩) v0 (H.push o3)) fun p4 =>
 (some (p4.1, p4.2))))))
theorem slices_Clone_api_Nat_uint32_tot {v0 : V} {H : Heap} {Q : V → Heap → Prop} (h : Tot (fun n => slices_Clone_api_Nat_uint32_b @bnd n v0 H) Q) : Tot (fun n => f_slices_Clone_api_Nat_uint32 n [v0] H) Q := Tot.fn (fun n => bd_bnd (fun bd => slices_Clone_api_Nat_uint32_b bd n v0 H) (by kernel_rfl)) h
@[irreducible] noncomputable def nat_trim.l0 (n m0 : Nat) (v0 : V) (H : Heap) : Option R := Lp C n 94 [1, 0, 0, 0] m0 [(0, v0)] H (kB 0 (kC C n 94 [1, 1] (kR C 94)))
@[simp] noncomputable def nat_trim.l0_b (bd : B2) (n m0 : Nat) (v0 : V) (H : Heap) : Option R :=
 (bd (lenSl v0) fun t4_1 =>
 (bd (arA .gtr t4_1 (.int .i64 0)) fun t5_2 =>
 (bd (asB t5_2) fun b3 =>
 if b3 = true then
 (bd (lenSl v0) fun t9_4 =>
 (bd (arA .sub t9_4 (.int .i64 1)) fun t10_5 =>
 (bd (idxS 1 v0 t10_5) fun t11_6 =>
 (bd (ld1 t11_6 H) fun t12_7 =>
 (bd (arA .eql t12_7 (.int .u32 0)) fun t13_8 =>
 (bd (asB t13_8) fun b9 =>
 if b9 = true then
 (bd (lenSl v0) fun t17_10 =>
 (bd (arA .sub t17_10 (.int .i64 1)) fun t18_11 =>
 (bd (slSl 1 v0 none (some t18_11)) fun t19_12 =>
 (nat_trim.l0 n m0 t19_12 H))))
 else
 (some (v0, H))))))))
 else
 (some (v0, H)))))
theorem nat_trim.l0_tot {m0 : Nat → Nat} {v0 : V} {H : Heap} {Q : V → Heap → Prop} (hb : Big m0) (h : ∀ m0', Big m0' → Tot (fun n => nat_trim.l0_b @bnd n (m0' n) v0 H) Q) : Tot (fun n => nat_trim.l0 n (m0 n) v0 H) Q :=
  Tot.loop (f := fun n k => nat_trim.l0 n k v0 H) (g := fun n k => nat_trim.l0_b @bnd n k v0 H) hb (fun n k => bd_bnd (fun bd => nat_trim.l0_b bd n k v0 H) (by kernel_rfl)) h
@[simp] noncomputable def nat_trim_b (bd : B2) (n : Nat) (v0 : V) (H : Heap) : Option R :=
 (nat_trim.l0 n n v0 H)
theorem nat_trim_tot {v0 : V} {H : Heap} {Q : V → Heap → Prop} (h : Tot (fun n => nat_trim_b @bnd n v0 H) Q) : Tot (fun n => f_nat_trim n [v0] H) Q := Tot.fn (fun n => bd_bnd (fun bd => nat_trim_b bd n v0 H) (by kernel_rfl)) h
@[simp] noncomputable def whole_Norm_b (bd : B2) (n : Nat) (v0 : V) (H : Heap) : Option R :=
 (bd (boxA ty_api_Int v0) fun o1 =>
 (bd (faA 0 (.ptr (some (H.n, 0)))) fun t3_2 =>
 (bd (ld1 t3_2 ((H.push o1).push (.cells [(.bool false), (.slice ⟨none, 0, 0, false⟩)] ty_api_Int false))) fun t4_3 =>
 (bd (faA 1 (.ptr (some (H.n, 0)))) fun t5_4 =>
 (bd (ld1 t5_4 ((H.push o1).push (.cells [(.bool false), (.slice ⟨none, 0, 0, false⟩)] ty_api_Int false))) fun t6_5 =>
 (bd (f_whole_norm n [t4_3, t6_5] ((H.push o1).push (.cells [(.bool false), (.slice ⟨none, 0, 0, false⟩)] ty_api_Int false))) fun r6 =>
 (bd (stA 2 (.ptr (some ((H.push o1).n, 0))) r6.1 r6.2) fun H7 =>
 (bd (ldN 2 (.ptr (some ((H.push o1).n, 0))) H7) fun t8 =>
 (some (t8, H7))))))))))
theorem whole_Norm_tot {v0 : V} {H : Heap} {Q : V → Heap → Prop} (h : Tot (fun n => whole_Norm_b @bnd n v0 H) Q) : Tot (fun n => f_whole_Norm n [v0] H) Q := Tot.fn (fun n => bd_bnd (fun bd => whole_Norm_b bd n v0 H) (by kernel_rfl)) h
@[irreducible] noncomputable def nat_Gcd.l0 (n m0 : Nat) (v0 v1 : V) (H : Heap) : Option R := Lp C n 96 [1, 1, 0, 0, 0] m0 [(0, v0), (1, v1)] H (kB 0 (kC C n 96 [1, 1, 1] (kR C 96)))
@[simp] noncomputable def nat_Gcd.l0_b (bd : B2) (n m0 : Nat) (v0 v1 : V) (H : Heap) : Option R :=
 (bd (lenSl v1) fun t14_1 =>
 (bd (arA .gtr t14_1 (.int .i64 0)) fun t15_2 =>
 (bd (asB t15_2) fun b3 =>
 if b3 = true then
 (bd (f_nat_divmod n [v0, v1] H) fun r4 =>
 (bd (extA r4.1 0) fun t20_5 =>
 (bd (extA r4.1 1) fun t21_6 =>
 (nat_Gcd.l0 n m0 v1 t21_6 r4.2))))
 else
 (some (v0, H)))))
theorem nat_Gcd.l0_tot {m0 : Nat → Nat} {v0 v1 : V} {H : Heap} {Q : V → Heap → Prop} (hb : Big m0) (h : ∀ m0', Big m0' → Tot (fun n => nat_Gcd.l0_b @bnd n (m0' n) v0 v1 H) Q) : Tot (fun n => nat_Gcd.l0 n (m0 n) v0 v1 H) Q :=
  Tot.loop (f := fun n k => nat_Gcd.l0 n k v0 v1 H) (g := fun n k => nat_Gcd.l0_b @bnd n k v0 v1 H) hb (fun n k => bd_bnd (fun bd => nat_Gcd.l0_b bd n k v0 v1 H) (by kernel_rfl)) h
@[simp] noncomputable def nat_Gcd_b (bd : B2) (n : Nat) (v0 v1 : V) (H : Heap) : Option R :=
 (bd (f_nat_trim n [v0] H) fun r1 =>
 (bd (f_slices_Clone_api_Nat_uint32 n [r1.1] r1.2) fun r2 =>
 (bd (f_nat_trim n [v1] r2.2) fun r3 =>
 (bd (f_slices_Clone_api_Nat_uint32 n [r3.1] r3.2) fun r4 =>
 (nat_Gcd.l0 n n r2.1 r4.1 r4.2)))))
theorem nat_Gcd_tot {v0 v1 : V} {H : Heap} {Q : V → Heap → Prop} (h : Tot (fun n => nat_Gcd_b @bnd n v0 v1 H) Q) : Tot (fun n => f_nat_Gcd n [v0, v1] H) Q := Tot.fn (fun n => bd_bnd (fun bd => nat_Gcd_b bd n v0 v1 H) (by kernel_rfl)) h
@[simp] noncomputable def nat_DivMod_b (bd : B2) (n : Nat) (v0 v1 : V) (H : Heap) : Option R :=
 (bd (f_nat_trim n [v0] H) fun r1 =>
 (bd (f_nat_trim n [v1] r1.2) fun r2 =>
 (bd (lenSl r2.1) fun t14_3 =>
 (bd (arA .eql t14_3 (.int .i64 0)) fun t15_4 =>
 (bd (asB t15_4) fun b5 =>
 if b5 = true then
 (some (.tuple [(.slice ⟨none, 0, 0, false⟩), (.slice ⟨none, 0, 0, false⟩), (.int .i64 3)], r2.2))
 else
 (bd (f_nat_divmod n [r1.1, r2.1] r2.2) fun r6 =>
 (bd (extA r6.1 0) fun t20_7 =>
 (bd (extA r6.1 1) fun t21_8 =>
 (some (.tuple [t20_7, t21_8, (.int .i64 0)], r6.2))))))))))
theorem nat_DivMod_tot {v0 v1 : V} {H : Heap} {Q : V → Heap → Prop} (h : Tot (fun n => nat_DivMod_b @bnd n v0 v1 H) Q) : Tot (fun n => f_nat_DivMod n [v0, v1] H) Q := Tot.fn (fun n => bd_bnd (fun bd => nat_DivMod_b bd n v0 v1 H) (by kernel_rfl)) h
@[simp] noncomputable def whole_add_b (bd : B2) (n : Nat) (v0 v1 : V) (H : Heap) : Option R :=
 (bd (boxA ty_api_Int v0) fun o1 =>
 (bd (boxA ty_api_Int v1) fun o2 =>
 (bd (faA 0 (.ptr (some (H.n, 0)))) fun t9_3 =>
 (bd (ld1 t9_3 (((H.push o1).push o2).push (.cells [(.bool false), (.slice ⟨none, 0, 0, false⟩)] ty_api_Int false))) fun t10_4 =>
 (bd (faA 0 (.ptr (some ((H.push o1).n, 0)))) fun t11_5 =>
 (bd (ld1 t11_5 (((H.push o1).push o2).push (.cells [(.bool false), (.slice ⟨none, 0, 0, false⟩)] ty_api_Int false))) fun t12_6 =>
 (bd (eqlA P ty_bool t10_4 t12_6) fun t13_7 =>
 (bd (asB t13_7) fun b8 =>
 if b8 = true then
 (bd (faA 1 (.ptr (some (H.n, 0)))) fun t16_9 =>
 (bd (ld1 t16_9 ((((H.push o1).push o2).push (.cells [(.bool false), (.slice ⟨none, 0, 0, false⟩)] ty_api_Int false)).more 0)) fun t17_10 =>
 (bd (faA 1 (.ptr (some ((H.push o1).n, 0)))) fun t18_11 =>
 (bd (ld1 t18_11 ((((H.push o1).push o2).push (.cells [(.bool false), (.slice ⟨none, 0, 0, false⟩)] ty_api_Int false)).more 0)) fun t19_12 =>
 (bd (f_nat_Add n [t17_10, t19_12] ((((H.push o1).push o2).push (.cells [(.bool false), (.slice ⟨none, 0, 0, false⟩)] ty_api_Int false)).more 0)) fun r13 =>
 (bd (faA 0 (.ptr (some (H.n, 0)))) fun t14_14 =>
 (bd (ld1 t14_14 r13.2) fun t15_15 =>
 (bd (chk (ld1 t14_14 ((((H.push o1).push o2).push (.cells [(.bool false), (.slice ⟨none, 0, 0, false⟩)] ty_api_Int false)).more 0)) t15_15) fun _ =>
 (bd (f_whole_norm n [t15_15, r13.1] r13.2) fun r16 =>
 (bd (stA 2 (.ptr (some (((H.push o1).push o2).n, 0))) r16.1 r16.2) fun H17 =>
 (bd (ldN 2 (.ptr (some (((H.push o1).push o2).n, 0))) H17) fun t18 =>
 (some (t18, H17)))))))))))))
 else
 (bd (faA 1 (.ptr (some (H.n, 0)))) fun t23_19 =>
 (bd (ld1 t23_19 (((H.push o1).push o2).push (.cells [(.bool false), (.slice ⟨none, 0, 0, false⟩)] ty_api_Int false))) fun t24_20 =>
 (bd (faA 1 (.ptr (some ((H.push o1).n, 0)))) fun t25_21 =>
 (bd (ld1 t25_21 (((H.push o1).push o2).push (.cells [(.bool false), (.slice ⟨none, 0, 0, false⟩)] ty_api_Int false))) fun t26_22 =>
 (bd (f_nat_Sub n [t24_20, t26_22] (((H.push o1).push o2).push (.cells [(.bool false), (.slice ⟨none, 0, 0, false⟩)] ty_api_Int false))) fun r23 =>
 (bd (extA r23.1 0) fun t28_24 =>
 (bd (extA r23.1 1) fun t29_25 =>
 (bd (asB t29_25) fun b26 =>
 if b26 = true then
 (bd (faA 0 (.ptr (some (H.n, 0)))) fun t31_27 =>
 (bd (ld1 t31_27 r23.2) fun t32_28 =>
 (bd (f_whole_norm n [t32_28, t28_24] r23.2) fun r29 =>
 (bd (stA 2 (.ptr (some (((H.push o1).push o2).n, 0))) r29.1 r29.2) fun H30 =>
 (bd (ldN 2 (.ptr (some (((H.push o1).push o2).n, 0))) H30) fun t31 =>
 (some (t31, H30)))))))
 else
 (bd (faA 1 (.ptr (some ((H.push o1).n, 0)))) fun t36_32 =>
 (bd (ld1 t36_32 r23.2) fun t37_33 =>
 (bd (faA 1 (.ptr (some (H.n, 0)))) fun t38_34 =>
 (bd (ld1 t38_34 r23.2) fun t39_35 =>
 (bd (f_nat_Sub n [t37_33, t39_35] r23.2) fun r36 =>
 (bd (extA r36.1 0) fun t41_37 =>
 (bd (extA r36.1 1) fun t42_38 =>
 (bd (faA 0 (.ptr (some ((H.push o1).n, 0)))) fun t43_39 =>
 (bd (ld1 t43_39 r36.2) fun t44_40 =>
 (bd (f_whole_norm n [t44_40, t41_37] r36.2) fun r41 =>
 (bd (stA 2 (.ptr (some (((H.push o1).push o2).n, 0))) r41.1 r41.2) fun H42 =>
 (bd (ldN 2 (.ptr (some (((H.push o1).push o2).n, 0))) H42) fun t43 =>
 (some (t43, H42))))))))))))))))))))))))))))))
theorem whole_add_tot {v0 v1 : V} {H : Heap} {Q : V → Heap → Prop} (h : Tot (fun n => whole_add_b @bnd n v0 v1 H) Q) : Tot (fun n => f_whole_add n [v0, v1] H) Q := Tot.fn (fun n => bd_bnd (fun bd => whole_add_b bd n v0 v1 H) (by kernel_rfl)) h
@[simp] noncomputable def rat_plain_b (bd : B2) (n : Nat) (v0 : V) (H : Heap) : Option R :=
 (bd (flA [(0, 1), (1, 1)] [(.bool false), (.slice ⟨none, 0, 0, false⟩)] [(1, v0)]) fun t4_1 =>
 (bd (stA 2 (.ptr (some (H.n, 0))) t4_1 (H.push (.cells [(.bool false), (.slice ⟨none, 0, 0, false⟩)] ty_api_Int false))) fun H2 =>
 (bd (ldN 2 (.ptr (some (H.n, 0))) H2) fun t3 =>
 (some (t3, H2)))))
theorem rat_plain_tot {v0 : V} {H : Heap} {Q : V → Heap → Prop} (h : Tot (fun n => rat_plain_b @bnd n v0 H) Q) : Tot (fun n => f_rat_plain n [v0] H) Q := Tot.fn (fun n => bd_bnd (fun bd => rat_plain_b bd n v0 H) (by kernel_rfl)) h
@[simp] noncomputable def whole_Neg_b (bd : B2) (n : Nat) (v0 : V) (H : Heap) : Option R :=
 (bd (boxA ty_api_Int v0) fun o1 =>
 (bd (ldN 2 (.ptr (some (H.n, 0))) ((H.push o1).push (.cells [(.bool false), (.slice ⟨none, 0, 0, false⟩)] ty_api_Int false))) fun t3_2 =>
 (bd (f_whole_neg n [t3_2] ((H.push o1).push (.cells [(.bool false), (.slice ⟨none, 0, 0, false⟩)] ty_api_Int false))) fun r3 =>
 (bd (stA 2 (.ptr (some ((H.push o1).n, 0))) r3.1 r3.2) fun H4 =>
 (bd (ldN 2 (.ptr (some ((H.push o1).n, 0))) H4) fun t5 =>
 (some (t5, H4)))))))
theorem whole_Neg_tot {v0 : V} {H : Heap} {Q : V → Heap → Prop} (h : Tot (fun n => whole_Neg_b @bnd n v0 H) Q) : Tot (fun n => f_whole_Neg n [v0] H) Q := Tot.fn (fun n => bd_bnd (fun bd => whole_Neg_b bd n v0 H) (by kernel_rfl)) h
@[simp] noncomputable def nat_divmod_b (bd : B2) (n : Nat) (v0 v1 : V) (H : Heap) : Option R :=
 (bd (f_nat_cmp n [v0, v1] H) fun r1 =>
 (bd (arA .lss r1.1 (.int .i64 0)) fun t12_2 =>
 (bd (asB t12_2) fun b3 =>
 if b3 = true then
 (bd (f_slices_Clone_api_Nat_uint32 n [v0] r1.2) fun r4 =>
 (some (.tuple [(.slice ⟨none, 0, 0, false⟩), r4.1], r4.2)))
 else
 (bd (lenSl v1) fun t17_5 =>
 (bd (arA .eql t17_5 (.int .i64 1)) fun t18_6 =>
 (bd (asB t18_6) fun b7 =>
 if b7 = true then
 (bd (f_slices_Clone_api_Nat_uint32 n [v0] r1.2) fun r8 =>
 (bd (idxS 1 v1 (.int .i64 0)) fun t23_9 =>
 (bd (ld1 t23_9 r8.2) fun t24_10 =>
 (bd (f_nat_short n [r8.1, t24_10] r8.2) fun r11 =>
 (bd (f_nat_trim n [r8.1] r11.2) fun r12 =>
 (bd (bSl 1 ty_uint32 [(.int .u32 0)] 1 [(0, r11.1)]) fun o13 =>
 (bd (f_nat_trim n [(.slice ⟨some (r12.2.n, 0), 1, 1, false⟩)] (r12.2.push o13)) fun r14 =>
 (some (.tuple [r12.1, r14.1], r14.2)))))))))
 else
 (bd (f_nat_long n [v0, v1] r1.2) fun r15 =>
 (bd (extA r15.1 0) fun t34_16 =>
 (bd (extA r15.1 1) fun t35_17 =>
 (some (.tuple [t34_16, t35_17], r15.2)))))))))))
theorem nat_divmod_tot {v0 v1 : V} {H : Heap} {Q : V → Heap → Prop} (h : Tot (fun n => nat_divmod_b @bnd n v0 v1 H) Q) : Tot (fun n => f_nat_divmod n [v0, v1] H) Q := Tot.fn (fun n => bd_bnd (fun bd => nat_divmod_b bd n v0 v1 H) (by kernel_rfl)) h
@[irreducible] noncomputable def nat_Add.p0 (n : Nat) (v0 v1 : V) (H : Heap) : Option R := E C n 115 [1, 1] [(0, v0), (1, v1)] H (kR C 115)
@[irreducible] noncomputable def nat_Add.l1 (n m0 : Nat) (v1 v5 v6 v20 v21 v22 : V) (H : Heap) : Option R := Lp C n 115 [1, 1, 1, 1, 0, 1, 0, 0] m0 [(1, v1), (5, v5), (6, v6), (20, v20), (21, v21), (22, v22)] H (kB 0 (kC C n 115 [1, 1, 1, 1, 1] (kR C 115)))
@[irreducible] noncomputable def nat_Add.p2 (n m0 : Nat) (v1 v5 v6 v20 v21 v22 : V) (H : Heap) : Option R := E C n 115 [1, 1, 1, 1, 0, 1, 0, 0, 1, 1, 0, 0, 1, 1, 1] [(1, v1), (5, v5), (6, v6), (20, v20), (21, v21), (22, v22)] H (kB 1 (kC C n 115 [1, 1, 1, 1, 0, 1, 0, 0, 1, 1, 1] (kL C n 115 [1, 1, 1, 1, 0, 1, 0, 0] m0 (kB 0 (kC C n 115 [1, 1, 1, 1, 1] (kR C 115))))))
@[irreducible] noncomputable def nat_Add.p3 (n : Nat) (v5 v6 : V) (H : Heap) : Option R := E C n 115 [1, 1, 1, 1, 1] [(5, v5), (6, v6)] H (kR C 115)
@[simp] noncomputable def nat_Add.p0_b (bd : B2) (n : Nat) (v0 v1 : V) (H : Heap) : Option R :=
 (bd (lenSl v0) fun t17_1 =>
 (bd (arA .add t17_1 (.int .i64 1)) fun t18_2 =>
 (bd (mkSl 1 4 ty_uint32 [(.int .u32 0)] (.int .i64 0) t18_2) fun o3 =>
 (bd (lenSl v0) fun t21_4 =>
 (nat_Add.l1 n n v1 (.slice ⟨some (H.n, 0), o3.2, 1, false⟩) (.int .u64 0) v0 t21_4 (.int .i64 0) (H.push o3.1))))))
theorem nat_Add.p0_tot {v0 v1 : V} {H : Heap} {Q : V → Heap → Prop} (h : Tot (fun n => nat_Add.p0_b @bnd n v0 v1 H) Q) : Tot (fun n => nat_Add.p0 n v0 v1 H) Q := Tot.eq (fun n => bd_bnd (fun bd => nat_Add.p0_b bd n v0 v1 H) (by kernel_rfl)) h
@[simp] noncomputable def nat_Add.l1_b (bd : B2) (n m0 : Nat) (v1 v5 v6 v20 v21 v22 : V) (H : Heap) : Option R :=
 (bd (arA .lss v22 v21) fun t23_1 =>
 (bd (asB t23_1) fun b2 =>
 if b2 = true then
 (bd (idxS 1 v20 v22) fun t25_3 =>
 (bd (ld1 t25_3 H) fun t26_4 =>
 (bd (cvInt .u64 t26_4) fun t29_5 =>
 (bd (arA .add v6 t29_5) fun t30_6 =>
 (bd (lenSl v1) fun t33_7 =>
 (bd (arA .lss v22 t33_7) fun t34_8 =>
 (bd (asB t34_8) fun b9 =>
 if b9 = true then
 (bd (idxS 1 v1 v22) fun t38_10 =>
 (bd (ld1 t38_10 H) fun t39_11 =>
 (bd (cvInt .u64 t39_11) fun t40_12 =>
 (bd (arA .add t30_6 t40_12) fun t41_13 =>
 (nat_Add.p2 n m0 v1 v5 t41_13 v20 v21 v22 H)))))
 else
 (nat_Add.p2 n m0 v1 v5 t30_6 v20 v21 v22 H))))))))
 else
 (nat_Add.p3 n v5 v6 H)))
theorem nat_Add.l1_tot {m0 : Nat → Nat} {v1 v5 v6 v20 v21 v22 : V} {H : Heap} {Q : V → Heap → Prop} (hb : Big m0) (h : ∀ m0', Big m0' → Tot (fun n => nat_Add.l1_b @bnd n (m0' n) v1 v5 v6 v20 v21 v22 H) Q) : Tot (fun n => nat_Add.l1 n (m0 n) v1 v5 v6 v20 v21 v22 H) Q :=
  Tot.loop (f := fun n k => nat_Add.l1 n k v1 v5 v6 v20 v21 v22 H) (g := fun n k => nat_Add.l1_b @bnd n k v1 v5 v6 v20 v21 v22 H) hb (fun n k => bd_bnd (fun bd => nat_Add.l1_b bd n k v1 v5 v6 v20 v21 v22 H) (by kernel_rfl)) h
@[simp] noncomputable def nat_Add.p2_b (bd : B2) (n m0 : Nat) (v1 v5 v6 v20 v21 v22 : V) (H : Heap) : Option R :=
 (bd (cvInt .u32 v6) fun t44_1 =>
 (bd (bSl 1 ty_uint32 [(.int .u32 0)] 1 [(0, t44_1)]) fun o2 =>
 (bd (appA 1 4 ty_uint32 v5 (.slice ⟨some (H.n, 0), 1, 1, false⟩) (H.push o2)) fun p3 =>
 (bd (shA .shr v6 (.int .u64 32)) fun t48_4 =>
 (bd (arA .add v22 (.int .i64 1)) fun t49_5 =>
 (nat_Add.l1 n m0 v1 p3.1 t48_4 v20 v21 t49_5 p3.2))))))
theorem nat_Add.p2_tot {m0 : Nat → Nat} {v1 v5 v6 v20 v21 v22 : V} {H : Heap} {Q : V → Heap → Prop} (h : Tot (fun n => nat_Add.p2_b @bnd n (m0 n) v1 v5 v6 v20 v21 v22 H) Q) : Tot (fun n => nat_Add.p2 n (m0 n) v1 v5 v6 v20 v21 v22 H) Q := Tot.eq (fun n => bd_bnd (fun bd => nat_Add.p2_b bd n (m0 n) v1 v5 v6 v20 v21 v22 H) (by kernel_rfl)) h
@[simp] noncomputable def nat_Add.p3_b (bd : B2) (n : Nat) (v5 v6 : V) (H : Heap) : Option R :=
 (bd (cvInt .u32 v6) fun t52_1 =>
 (bd (bSl 1 ty_uint32 [(.int .u32 0)] 1 [(0, t52_1)]) fun o2 =>
 (bd (appA 1 4 ty_uint32 v5 (.slice ⟨some (H.n, 0), 1, 1, false⟩) (H.push o2)) fun p3 =>
 (bd (f_nat_trim n [p3.1] p3.2) fun r4 =>
 (some (r4.1, r4.2))))))
theorem nat_Add.p3_tot {v5 v6 : V} {H : Heap} {Q : V → Heap → Prop} (h : Tot (fun n => nat_Add.p3_b @bnd n v5 v6 H) Q) : Tot (fun n => nat_Add.p3 n v5 v6 H) Q := Tot.eq (fun n => bd_bnd (fun bd => nat_Add.p3_b bd n v5 v6 H) (by kernel_rfl)) h
@[simp] noncomputable def nat_Add_b (bd : B2) (n : Nat) (v0 v1 : V) (H : Heap) : Option R :=
 (bd (lenSl v0) fun t10_1 =>
 (bd (lenSl v1) fun t12_2 =>
 (bd (arA .lss t10_1 t12_2) fun t13_3 =>
 (bd (asB t13_3) fun b4 =>
 if b4 = true then
 (nat_Add.p0 n v1 v0 H)
 else
 (nat_Add.p0 n v0 v1 H)))))
theorem nat_Add_tot {v0 v1 : V} {H : Heap} {Q : V → Heap → Prop} (h : Tot (fun n => nat_Add_b @bnd n v0 v1 H) Q) : Tot (fun n => f_nat_Add n [v0, v1] H) Q := Tot.fn (fun n => bd_bnd (fun bd => nat_Add_b bd n v0 v1 H) (by kernel_rfl)) h
@[simp] noncomputable def nat_Sub_b (bd : B2) (n : Nat) (v0 v1 : V) (H : Heap) : Option R :=
 (bd (f_nat_trim n [v1] H) fun r1 =>
 (bd (f_nat_cmp n [v0, r1.1] r1.2) fun r2 =>
 (bd (arA .lss r2.1 (.int .i64 0)) fun t11_3 =>
 (bd (asB t11_3) fun b4 =>
 if b4 = true then
 (some (.tuple [(.slice ⟨none, 0, 0, false⟩), (.bool false)], r2.2))
 else
 (bd (f_nat_sub n [v0, r1.1] r2.2) fun r5 =>
 (some (.tuple [r5.1, (.bool true)], r5.2)))))))
theorem nat_Sub_tot {v0 v1 : V} {H : Heap} {Q : V → Heap → Prop} (h : Tot (fun n => nat_Sub_b @bnd n v0 v1 H) Q) : Tot (fun n => f_nat_Sub n [v0, v1] H) Q := Tot.fn (fun n => bd_bnd (fun bd => nat_Sub_b bd n v0 v1 H) (by kernel_rfl)) h
@[simp] noncomputable def whole_neg_b (bd : B2) (n : Nat) (v0 : V) (H : Heap) : Option R :=
 (bd (boxA ty_api_Int v0) fun o1 =>
 (bd (faA 0 (.ptr (some (H.n, 0)))) fun t3_2 =>
 (bd (ld1 t3_2 ((H.push o1).push (.cells [(.bool false), (.slice ⟨none, 0, 0, false⟩)] ty_api_Int false))) fun t4_3 =>
 (bd (unA .not t4_3) fun t5_4 =>
 (bd (faA 1 (.ptr (some (H.n, 0)))) fun t6_5 =>
 (bd (ld1 t6_5 ((H.push o1).push (.cells [(.bool false), (.slice ⟨none, 0, 0, false⟩)] ty_api_Int false))) fun t7_6 =>
 (bd (f_whole_norm n [t5_4, t7_6] ((H.push o1).push (.cells [(.bool false), (.slice ⟨none, 0, 0, false⟩)] ty_api_Int false))) fun r7 =>
 (bd (stA 2 (.ptr (some ((H.push o1).n, 0))) r7.1 r7.2) fun H8 =>
 (bd (ldN 2 (.ptr (some ((H.push o1).n, 0))) H8) fun t9 =>
 (some (t9, H8)))))))))))
theorem whole_neg_tot {v0 : V} {H : Heap} {Q : V → Heap → Prop} (h : Tot (fun n => whole_neg_b @bnd n v0 H) Q) : Tot (fun n => f_whole_neg n [v0] H) Q := Tot.fn (fun n => bd_bnd (fun bd => whole_neg_b bd n v0 H) (by kernel_rfl)) h
@[simp] noncomputable def rat_Make_b (bd : B2) (n : Nat) (v0 v1 : V) (H : Heap) : Option R :=
 (bd (boxA ty_api_Int v0) fun o1 =>
 (bd (boxA ty_api_Int v1) fun o2 =>
 (bd (ldN 2 (.ptr (some ((H.push o1).n, 0))) (((H.push o1).push o2).push (.cells [(.bool false), (.slice ⟨none, 0, 0, false⟩), (.slice ⟨none, 0, 0, false⟩)] ty_api_Rat false))) fun t6_3 =>
 (bd (f_whole_Sign n [t6_3] (((H.push o1).push o2).push (.cells [(.bool false), (.slice ⟨none, 0, 0, false⟩), (.slice ⟨none, 0, 0, false⟩)] ty_api_Rat false))) fun r4 =>
 (bd (arA .eql r4.1 (.int .i64 0)) fun t8_5 =>
 (bd (asB t8_5) fun b6 =>
 if b6 = true then
 (bd (flA [(0, 2), (2, 1)] [(.bool false), (.slice ⟨none, 0, 0, false⟩), (.slice ⟨none, 0, 0, false⟩)] []) fun t9_7 =>
 (bd (f_rat_norm n [t9_7] r4.2) fun r8 =>
 (bd (stA 3 (.ptr (some (((H.push o1).push o2).n, 0))) r8.1 r8.2) fun H9 =>
 (bd (ldN 3 (.ptr (some (((H.push o1).push o2).n, 0))) H9) fun t10 =>
 (some (.tuple [t10, (.int .i64 3)], H9))))))
 else
 (bd (faA 0 (.ptr (some ((H.push o1).n, 0)))) fun t11_11 =>
 (bd (ld1 t11_11 r4.2) fun t12_12 =>
 (bd (asB t12_12) fun b13 =>
 if b13 = true then
 (bd (ldN 2 (.ptr (some (H.n, 0))) r4.2) fun t13_14 =>
 (bd (f_whole_Neg n [t13_14] r4.2) fun r15 =>
 (bd (stA 2 (.ptr (some (H.n, 0))) r15.1 r15.2) fun H16 =>
 (bd (ldN 2 (.ptr (some (H.n, 0))) H16) fun t15_17 =>
 (bd (faA 1 (.ptr (some ((H.push o1).n, 0)))) fun t16_18 =>
 (bd (ld1 t16_18 H16) fun t17_19 =>
 (bd (f_rat_lowest n [t15_17, t17_19] H16) fun r20 =>
 (bd (stA 3 (.ptr (some (((H.push o1).push o2).n, 0))) r20.1 r20.2) fun H21 =>
 (bd (ldN 3 (.ptr (some (((H.push o1).push o2).n, 0))) H21) fun t22 =>
 (some (.tuple [t22, (.int .i64 0)], H21)))))))))))
 else
 (bd (ldN 2 (.ptr (some (H.n, 0))) r4.2) fun t15_23 =>
 (bd (faA 1 (.ptr (some ((H.push o1).n, 0)))) fun t16_24 =>
 (bd (ld1 t16_24 r4.2) fun t17_25 =>
 (bd (f_rat_lowest n [t15_23, t17_25] r4.2) fun r26 =>
 (bd (stA 3 (.ptr (some (((H.push o1).push o2).n, 0))) r26.1 r26.2) fun H27 =>
 (bd (ldN 3 (.ptr (some (((H.push o1).push o2).n, 0))) H27) fun t28 =>
 (some (.tuple [t28, (.int .i64 0)], H27)))))))))))))))))
theorem rat_Make_tot {v0 v1 : V} {H : Heap} {Q : V → Heap → Prop} (h : Tot (fun n => rat_Make_b @bnd n v0 v1 H) Q) : Tot (fun n => f_rat_Make n [v0, v1] H) Q := Tot.fn (fun n => bd_bnd (fun bd => rat_Make_b bd n v0 v1 H) (by kernel_rfl)) h
@[irreducible] noncomputable def nat_cmp.l0 (n m0 : Nat) (v0 v1 v5 : V) (H : Heap) : Option R := Lp C n 138 [1, 1, 1, 0, 1, 0, 0] m0 [(0, v0), (1, v1), (5, v5)] H (kB 0 (kC C n 138 [1, 1, 1, 1] (kR C 138)))
@[simp] noncomputable def nat_cmp.l0_b (bd : B2) (n m0 : Nat) (v0 v1 v5 : V) (H : Heap) : Option R :=
 (bd (arA .geq v5 (.int .i64 0)) fun t24_1 =>
 (bd (asB t24_1) fun b2 =>
 if b2 = true then
 (bd (idxS 1 v0 v5) fun t30_3 =>
 (bd (ld1 t30_3 (H.more 0)) fun t31_4 =>
 (bd (idxS 1 v1 v5) fun t34_5 =>
 (bd (ld1 t34_5 (H.more 0)) fun t35_6 =>
 (bd (arA .lss t31_4 t35_6) fun t36_7 =>
 (bd (asB t36_7) fun b8 =>
 if b8 = true then
 (some ((.int .i64 (-1)), (H.more 0)))
 else
 (bd (idxS 1 v0 v5) fun t40_9 =>
 (bd (ld1 t40_9 ((H.more 0).more 0)) fun t41_10 =>
 (bd (idxS 1 v1 v5) fun t44_11 =>
 (bd (ld1 t44_11 ((H.more 0).more 0)) fun t45_12 =>
 (bd (arA .gtr t41_10 t45_12) fun t46_13 =>
 (bd (asB t46_13) fun b14 =>
 if b14 = true then
 (some ((.int .i64 1), ((H.more 0).more 0)))
 else
 (bd (arA .sub v5 (.int .i64 1)) fun t26_15 =>
 (nat_cmp.l0 n m0 v0 v1 t26_15 ((H.more 0).more 0)))))))))))))))
 else
 (some ((.int .i64 0), H))))
theorem nat_cmp.l0_tot {m0 : Nat → Nat} {v0 v1 v5 : V} {H : Heap} {Q : V → Heap → Prop} (hb : Big m0) (h : ∀ m0', Big m0' → Tot (fun n => nat_cmp.l0_b @bnd n (m0' n) v0 v1 v5 H) Q) : Tot (fun n => nat_cmp.l0 n (m0 n) v0 v1 v5 H) Q :=
  Tot.loop (f := fun n k => nat_cmp.l0 n k v0 v1 v5 H) (g := fun n k => nat_cmp.l0_b @bnd n k v0 v1 v5 H) hb (fun n k => bd_bnd (fun bd => nat_cmp.l0_b bd n k v0 v1 v5 H) (by kernel_rfl)) h
@[simp] noncomputable def nat_cmp_b (bd : B2) (n : Nat) (v0 v1 : V) (H : Heap) : Option R :=
 (bd (f_nat_trim n [v0] H) fun r1 =>
 (bd (f_nat_trim n [v1] r1.2) fun r2 =>
 (bd (lenSl r1.1) fun t11_3 =>
 (bd (lenSl r2.1) fun t13_4 =>
 (bd (arA .neq t11_3 t13_4) fun t14_5 =>
 (bd (asB t14_5) fun b6 =>
 if b6 = true then
 (bd (lenSl r1.1) fun t16_7 =>
 (bd (lenSl r2.1) fun t18_8 =>
 (bd (arA .lss t16_7 t18_8) fun t19_9 =>
 (bd (asB t19_9) fun b10 =>
 if b10 = true then
 (some ((.int .i64 (-1)), r2.2))
 else
 (some ((.int .i64 1), r2.2))))))
 else
 (bd (lenSl r1.1) fun t21_11 =>
 (bd (arA .sub t21_11 (.int .i64 1)) fun t22_12 =>
 (nat_cmp.l0 n n r1.1 r2.1 t22_12 r2.2)))))))))
theorem nat_cmp_tot {v0 v1 : V} {H : Heap} {Q : V → Heap → Prop} (h : Tot (fun n => nat_cmp_b @bnd n v0 v1 H) Q) : Tot (fun n => f_nat_cmp n [v0, v1] H) Q := Tot.fn (fun n => bd_bnd (fun bd => nat_cmp_b bd n v0 v1 H) (by kernel_rfl)) h
@[irreducible] noncomputable def nat_short.l0 (n m0 : Nat) (v0 v1 v5 v6 : V) (H : Heap) : Option R := Lp C n 139 [1, 1, 0, 1, 0, 0] m0 [(0, v0), (1, v1), (5, v5), (6, v6)] H (kB 0 (kC C n 139 [1, 1, 1] (kR C 139)))
@[simp] noncomputable def nat_short.l0_b (bd : B2) (n m0 : Nat) (v0 v1 v5 v6 : V) (H : Heap) : Option R :=
 (bd (arA .geq v6 (.int .i64 0)) fun t11_1 =>
 (bd (asB t11_1) fun b2 =>
 if b2 = true then
 (bd (shA .shl v5 (.int .u64 32)) fun t15_3 =>
 (bd (idxS 1 v0 v6) fun t18_4 =>
 (bd (ld1 t18_4 H) fun t19_5 =>
 (bd (cvInt .u64 t19_5) fun t20_6 =>
 (bd (arA .or t15_3 t20_6) fun t21_7 =>
 (bd (cvInt .u64 v1) fun t26_8 =>
 (bd (arA .quo t21_7 t26_8) fun t27_9 =>
 (bd (cvInt .u32 t27_9) fun t28_10 =>
 (bd (idxS 1 v0 v6) fun t29_11 =>
 (bd (stA 1 t29_11 t28_10 H) fun H12 =>
 (bd (cvInt .u64 v1) fun t32_13 =>
 (bd (arA .rem t21_7 t32_13) fun t33_14 =>
 (bd (arA .sub v6 (.int .i64 1)) fun t13_15 =>
 (nat_short.l0 n m0 v0 v1 t33_14 t13_15 H12))))))))))))))
 else
 (bd (cvInt .u32 v5) fun t35_16 =>
 (some (t35_16, H)))))
theorem nat_short.l0_tot {m0 : Nat → Nat} {v0 v1 v5 v6 : V} {H : Heap} {Q : V → Heap → Prop} (hb : Big m0) (h : ∀ m0', Big m0' → Tot (fun n => nat_short.l0_b @bnd n (m0' n) v0 v1 v5 v6 H) Q) : Tot (fun n => nat_short.l0 n (m0 n) v0 v1 v5 v6 H) Q :=
  Tot.loop (f := fun n k => nat_short.l0 n k v0 v1 v5 v6 H) (g := fun n k => nat_short.l0_b @bnd n k v0 v1 v5 v6 H) hb (fun n k => bd_bnd (fun bd => nat_short.l0_b bd n k v0 v1 v5 v6 H) (by kernel_rfl)) h
@[simp] noncomputable def nat_short_b (bd : B2) (n : Nat) (v0 v1 : V) (H : Heap) : Option R :=
 (bd (lenSl v0) fun t8_1 =>
 (bd (arA .sub t8_1 (.int .i64 1)) fun t9_2 =>
 (nat_short.l0 n n v0 v1 (.int .u64 0) t9_2 H)))
theorem nat_short_tot {v0 v1 : V} {H : Heap} {Q : V → Heap → Prop} (h : Tot (fun n => nat_short_b @bnd n v0 v1 H) Q) : Tot (fun n => f_nat_short n [v0, v1] H) Q := Tot.fn (fun n => bd_bnd (fun bd => nat_short_b bd n v0 v1 H) (by kernel_rfl)) h
end Go.AM
end
section
set_option linter.unusedVariables false
set_option linter.unusedSimpArgs false
set_option maxRecDepth 1000000
set_option linter.unusedVariables false
namespace Go.AM
@[irreducible] noncomputable def nat_long.l0 (n m0 : Nat) (v6 v7 v8 v9 v10 v11 v12 v13 : V) (H : Heap) : Option R := Lp C n 140 [1, 1, 1, 1, 1, 1, 0, 1, 0, 0] m0 [(6, v6), (7, v7), (8, v8), (9, v9), (10, v10), (11, v11), (12, v12), (13, v13)] H (kB 0 (kC C n 140 [1, 1, 1, 1, 1, 1, 1] (kR C 140)))
@[irreducible] noncomputable def nat_long.p1 (n : Nat) (v6 v7 v10 : V) (H : Heap) : Option R := E C n 140 [1, 1, 1, 1, 1, 1, 1] [(6, v6), (7, v7), (10, v10)] H (kR C 140)
@[irreducible] noncomputable def nat_long.l2 (n m0 : Nat) (v6 v10 v16 v17 v18 : V) (H : Heap) : Option R := Lp C n 140 [1, 1, 1, 1, 1, 1, 1, 1, 1, 0, 1, 0, 0] m0 [(6, v6), (10, v10), (16, v16), (17, v17), (18, v18)] H (kB 2 (kC C n 140 [1, 1, 1, 1, 1, 1, 1, 1, 1, 1] (kR C 140)))
@[irreducible] noncomputable def nat_long.p3 (n : Nat) (v10 v16 : V) (H : Heap) : Option R := E C n 140 [1, 1, 1, 1, 1, 1, 1, 1, 1, 1] [(10, v10), (16, v16)] H (kR C 140)
@[simp] noncomputable def nat_long.l0_b (bd : B2) (n m0 : Nat) (v6 v7 v8 v9 v10 v11 v12 v13 : V) (H : Heap) : Option R :=
 (bd (arA .geq v13 (.int .i64 0)) fun t56_1 =>
 (bd (asB t56_1) fun b2 =>
 if b2 = true then
 (bd (arA .add v13 v9) fun t63_3 =>
 (bd (arA .add t63_3 (.int .i64 1)) fun t64_4 =>
 (bd (slSl 1 v7 (some v13) (some t64_4)) fun t65_5 =>
 (bd (f_nat_guess n [t65_5, v11, v12] H) fun r6 =>
 (bd (f_nat_off n [t65_5, v8, r6.1] r6.2) fun r7 =>
 (bd (asB r7.1) fun b8 =>
 if b8 = true then
 (bd (arA .sub r6.1 (.int .u64 1)) fun t75_9 =>
 (bd (f_nat_back n [t65_5, v8] r7.2) fun r10 =>
 (bd (cvInt .u32 t75_9) fun t82_11 =>
 (bd (idxS 1 v10 v13) fun t83_12 =>
 (bd (stA 1 t83_12 t82_11 r10.2) fun H13 =>
 (bd (arA .sub v13 (.int .i64 1)) fun t58_14 =>
 (nat_long.l0 n m0 v6 v7 v8 v9 v10 v11 v12 t58_14 H13)))))))
 else
 (bd (cvInt .u32 r6.1) fun t82_15 =>
 (bd (idxS 1 v10 v13) fun t83_16 =>
 (bd (stA 1 t83_16 t82_15 r7.2) fun H17 =>
 (bd (arA .sub v13 (.int .i64 1)) fun t58_18 =>
 (nat_long.l0 n m0 v6 v7 v8 v9 v10 v11 v12 t58_18 H17)))))))))))
 else
 (nat_long.p1 n v6 v7 v10 H)))
theorem nat_long.l0_tot {m0 : Nat → Nat} {v6 v7 v8 v9 v10 v11 v12 v13 : V} {H : Heap} {Q : V → Heap → Prop} (hb : Big m0) (h : ∀ m0', Big m0' → Tot (fun n => nat_long.l0_b @bnd n (m0' n) v6 v7 v8 v9 v10 v11 v12 v13 H) Q) : Tot (fun n => nat_long.l0 n (m0 n) v6 v7 v8 v9 v10 v11 v12 v13 H) Q :=
  Tot.loop (f := fun n k => nat_long.l0 n k v6 v7 v8 v9 v10 v11 v12 v13 H) (g := fun n k => nat_long.l0_b @bnd n k v6 v7 v8 v9 v10 v11 v12 v13 H) hb (fun n k => bd_bnd (fun bd => nat_long.l0_b bd n k v6 v7 v8 v9 v10 v11 v12 v13 H) (by kernel_rfl)) h
@[simp] noncomputable def nat_long.p1_b (bd : B2) (n : Nat) (v6 v7 v10 : V) (H : Heap) : Option R :=
 (bd (f_nat_trim n [v7] H) fun r1 =>
 (bd (lenSl r1.1) fun t87_2 =>
 (bd (arA .sub t87_2 (.int .i64 1)) fun t88_3 =>
 (nat_long.l2 n n v6 v10 r1.1 (.int .u64 0) t88_3 r1.2))))
theorem nat_long.p1_tot {v6 v7 v10 : V} {H : Heap} {Q : V → Heap → Prop} (h : Tot (fun n => nat_long.p1_b @bnd n v6 v7 v10 H) Q) : Tot (fun n => nat_long.p1 n v6 v7 v10 H) Q := Tot.eq (fun n => bd_bnd (fun bd => nat_long.p1_b bd n v6 v7 v10 H) (by kernel_rfl)) h
@[simp] noncomputable def nat_long.l2_b (bd : B2) (n m0 : Nat) (v6 v10 v16 v17 v18 : V) (H : Heap) : Option R :=
 (bd (arA .geq v18 (.int .i64 0)) fun t90_1 =>
 (bd (asB t90_1) fun b2 =>
 if b2 = true then
 (bd (shA .shl v17 (.int .u64 32)) fun t94_3 =>
 (bd (idxS 1 v16 v18) fun t97_4 =>
 (bd (ld1 t97_4 H) fun t98_5 =>
 (bd (cvInt .u64 t98_5) fun t99_6 =>
 (bd (arA .or t94_3 t99_6) fun t100_7 =>
 (bd (shA .shr t100_7 v6) fun t105_8 =>
 (bd (cvInt .u32 t105_8) fun t106_9 =>
 (bd (idxS 1 v16 v18) fun t107_10 =>
 (bd (stA 1 t107_10 t106_9 H) fun H11 =>
 (bd (arA .sub v18 (.int .i64 1)) fun t92_12 =>
 (nat_long.l2 n m0 v6 v10 v16 t100_7 t92_12 H11)))))))))))
 else
 (nat_long.p3 n v10 v16 H)))
theorem nat_long.l2_tot {m0 : Nat → Nat} {v6 v10 v16 v17 v18 : V} {H : Heap} {Q : V → Heap → Prop} (hb : Big m0) (h : ∀ m0', Big m0' → Tot (fun n => nat_long.l2_b @bnd n (m0' n) v6 v10 v16 v17 v18 H) Q) : Tot (fun n => nat_long.l2 n (m0 n) v6 v10 v16 v17 v18 H) Q :=
  Tot.loop (f := fun n k => nat_long.l2 n k v6 v10 v16 v17 v18 H) (g := fun n k => nat_long.l2_b @bnd n k v6 v10 v16 v17 v18 H) hb (fun n k => bd_bnd (fun bd => nat_long.l2_b bd n k v6 v10 v16 v17 v18 H) (by kernel_rfl)) h
@[simp] noncomputable def nat_long.p3_b (bd : B2) (n : Nat) (v10 v16 : V) (H : Heap) : Option R :=
 (bd (f_nat_trim n [v10] H) fun r1 =>
 (bd (f_nat_trim n [v16] r1.2) fun r2 =>
 (some (.tuple [r1.1, r2.1], r2.2))))
theorem nat_long.p3_tot {v10 v16 : V} {H : Heap} {Q : V → Heap → Prop} (h : Tot (fun n => nat_long.p3_b @bnd n v10 v16 H) Q) : Tot (fun n => nat_long.p3 n v10 v16 H) Q := Tot.eq (fun n => bd_bnd (fun bd => nat_long.p3_b bd n v10 v16 H) (by kernel_rfl)) h
@[simp] noncomputable def nat_long_b (bd : B2) (n : Nat) (v0 v1 : V) (H : Heap) : Option R :=
 (bd (lenSl v1) fun t21_1 =>
 (bd (arA .sub t21_1 (.int .i64 1)) fun t22_2 =>
 (bd (idxS 1 v1 t22_2) fun t23_3 =>
 (bd (ld1 t23_3 H) fun t24_4 =>
 (bd (f_math_bits_LeadingZeros32 n [t24_4] H) fun r5 =>
 (bd (f_nat_shift n [v0, r5.1] r5.2) fun r6 =>
 (bd (f_nat_shift n [v1, r5.1] r6.2) fun r7 =>
 (bd (f_nat_trim n [r7.1] r7.2) fun r8 =>
 (bd (lenSl r8.1) fun t34_9 =>
 (bd (lenSl r6.1) fun t36_10 =>
 (bd (arA .sub t36_10 t34_9) fun t38_11 =>
 (bd (mkSl 1 4 ty_uint32 [(.int .u32 0)] t38_11 t38_11) fun o12 =>
 (bd (arA .sub t34_9 (.int .i64 1)) fun t42_13 =>
 (bd (idxS 1 r8.1 t42_13) fun t43_14 =>
 (bd (ld1 t43_14 ((r8.2.push o12.1).more 0)) fun t44_15 =>
 (bd (cvInt .u64 t44_15) fun t45_16 =>
 (bd (arA .sub t34_9 (.int .i64 2)) fun t48_17 =>
 (bd (idxS 1 r8.1 t48_17) fun t49_18 =>
 (bd (ld1 t49_18 ((r8.2.push o12.1).more 0)) fun t50_19 =>
 (bd (cvInt .u64 t50_19) fun t51_20 =>
 (bd (lenSl (.slice ⟨some (r8.2.n, 0), o12.2, 1, false⟩)) fun t53_21 =>
 (bd (arA .sub t53_21 (.int .i64 1)) fun t54_22 =>
 (nat_long.l0 n n r5.1 r6.1 r8.1 t34_9 (.slice ⟨some (r8.2.n, 0), o12.2, 1, false⟩) t45_16 t51_20 t54_22 ((r8.2.push o12.1).more 0))))))))))))))))))))))))
theorem nat_long_tot {v0 v1 : V} {H : Heap} {Q : V → Heap → Prop} (h : Tot (fun n => nat_long_b @bnd n v0 v1 H) Q) : Tot (fun n => f_nat_long n [v0, v1] H) Q := Tot.fn (fun n => bd_bnd (fun bd => nat_long_b bd n v0 v1 H) (by kernel_rfl)) h
@[irreducible] noncomputable def nat_sub.l0 (n m0 : Nat) (v1 v5 v6 v13 v14 v15 : V) (H : Heap) : Option R := Lp C n 141 [1, 1, 1, 0, 1, 0, 0] m0 [(1, v1), (5, v5), (6, v6), (13, v13), (14, v14), (15, v15)] H (kB 0 (kC C n 141 [1, 1, 1, 1] (kR C 141)))
@[irreducible] noncomputable def nat_sub.p1 (n m0 : Nat) (v1 v5 v9 v13 v14 v15 : V) (H : Heap) : Option R := E C n 141 [1, 1, 1, 0, 1, 0, 0, 1, 1, 0, 0, 1, 1, 1] [(1, v1), (5, v5), (9, v9), (13, v13), (14, v14), (15, v15)] H (kB 1 (kC C n 141 [1, 1, 1, 0, 1, 0, 0, 1, 1, 1] (kL C n 141 [1, 1, 1, 0, 1, 0, 0] m0 (kB 0 (kC C n 141 [1, 1, 1, 1] (kR C 141))))))
@[simp] noncomputable def nat_sub.l0_b (bd : B2) (n m0 : Nat) (v1 v5 v6 v13 v14 v15 : V) (H : Heap) : Option R :=
 (bd (arA .lss v15 v14) fun t16_1 =>
 (bd (asB t16_1) fun b2 =>
 if b2 = true then
 (bd (idxS 1 v13 v15) fun t18_3 =>
 (bd (ld1 t18_3 H) fun t19_4 =>
 (bd (cvInt .u64 t19_4) fun t21_5 =>
 (bd (arA .sub t21_5 v6) fun t23_6 =>
 (bd (lenSl v1) fun t26_7 =>
 (bd (arA .lss v15 t26_7) fun t27_8 =>
 (bd (asB t27_8) fun b9 =>
 if b9 = true then
 (bd (idxS 1 v1 v15) fun t31_10 =>
 (bd (ld1 t31_10 H) fun t32_11 =>
 (bd (cvInt .u64 t32_11) fun t33_12 =>
 (bd (arA .sub t23_6 t33_12) fun t34_13 =>
 (nat_sub.p1 n m0 v1 v5 t34_13 v13 v14 v15 H)))))
 else
 (nat_sub.p1 n m0 v1 v5 t23_6 v13 v14 v15 H))))))))
 else
 (bd (f_nat_trim n [v5] H) fun r14 =>
 (some (r14.1, r14.2)))))
theorem nat_sub.l0_tot {m0 : Nat → Nat} {v1 v5 v6 v13 v14 v15 : V} {H : Heap} {Q : V → Heap → Prop} (hb : Big m0) (h : ∀ m0', Big m0' → Tot (fun n => nat_sub.l0_b @bnd n (m0' n) v1 v5 v6 v13 v14 v15 H) Q) : Tot (fun n => nat_sub.l0 n (m0 n) v1 v5 v6 v13 v14 v15 H) Q :=
  Tot.loop (f := fun n k => nat_sub.l0 n k v1 v5 v6 v13 v14 v15 H) (g := fun n k => nat_sub.l0_b @bnd n k v1 v5 v6 v13 v14 v15 H) hb (fun n k => bd_bnd (fun bd => nat_sub.l0_b bd n k v1 v5 v6 v13 v14 v15 H) (by kernel_rfl)) h
@[simp] noncomputable def nat_sub.p1_b (bd : B2) (n m0 : Nat) (v1 v5 v9 v13 v14 v15 : V) (H : Heap) : Option R :=
 (bd (cvInt .u32 v9) fun t37_1 =>
 (bd (bSl 1 ty_uint32 [(.int .u32 0)] 1 [(0, t37_1)]) fun o2 =>
 (bd (appA 1 4 ty_uint32 v5 (.slice ⟨some (H.n, 0), 1, 1, false⟩) (H.push o2)) fun p3 =>
 (bd (shA .shr v9 (.int .u64 63)) fun t41_4 =>
 (bd (arA .add v15 (.int .i64 1)) fun t42_5 =>
 (nat_sub.l0 n m0 v1 p3.1 t41_4 v13 v14 t42_5 p3.2))))))
theorem nat_sub.p1_tot {m0 : Nat → Nat} {v1 v5 v9 v13 v14 v15 : V} {H : Heap} {Q : V → Heap → Prop} (h : Tot (fun n => nat_sub.p1_b @bnd n (m0 n) v1 v5 v9 v13 v14 v15 H) Q) : Tot (fun n => nat_sub.p1 n (m0 n) v1 v5 v9 v13 v14 v15 H) Q := Tot.eq (fun n => bd_bnd (fun bd => nat_sub.p1_b bd n (m0 n) v1 v5 v9 v13 v14 v15 H) (by kernel_rfl)) h
@[simp] noncomputable def nat_sub_b (bd : B2) (n : Nat) (v0 v1 : V) (H : Heap) : Option R :=
 (bd (lenSl v0) fun t11_1 =>
 (bd (mkSl 1 4 ty_uint32 [(.int .u32 0)] (.int .i64 0) t11_1) fun o2 =>
 (bd (lenSl v0) fun t14_3 =>
 (nat_sub.l0 n n v1 (.slice ⟨some (H.n, 0), o2.2, 1, false⟩) (.int .u64 0) v0 t14_3 (.int .i64 0) (H.push o2.1)))))
theorem nat_sub_tot {v0 v1 : V} {H : Heap} {Q : V → Heap → Prop} (h : Tot (fun n => nat_sub_b @bnd n v0 v1 H) Q) : Tot (fun n => f_nat_sub n [v0, v1] H) Q := Tot.fn (fun n => bd_bnd (fun bd => nat_sub_b bd n v0 v1 H) (by kernel_rfl)) h
@[simp] noncomputable def whole_Sign_b (bd : B2) (n : Nat) (v0 : V) (H : Heap) : Option R :=
 (bd (boxA ty_api_Int v0) fun o1 =>
 (bd (ldN 2 (.ptr (some (H.n, 0))) (H.push o1)) fun t3_2 =>
 (bd (f_whole_sign n [t3_2] (H.push o1)) fun r3 =>
 (some (r3.1, r3.2)))))
theorem whole_Sign_tot {v0 : V} {H : Heap} {Q : V → Heap → Prop} (h : Tot (fun n => whole_Sign_b @bnd n v0 H) Q) : Tot (fun n => f_whole_Sign n [v0] H) Q := Tot.fn (fun n => bd_bnd (fun bd => whole_Sign_b bd n v0 H) (by kernel_rfl)) h
@[simp] noncomputable def math_bits_LeadingZeros32_b (bd : B2) (n : Nat) (v0 : V) (H : Heap) : Option R :=
 (bd (f_math_bits_Len32 n [v0] H) fun r1 =>
 (bd (arA .sub (.int .i64 32) r1.1) fun t5_2 =>
 (some (t5_2, r1.2))))
theorem math_bits_LeadingZeros32_tot {v0 : V} {H : Heap} {Q : V → Heap → Prop} (h : Tot (fun n => math_bits_LeadingZeros32_b @bnd n v0 H) Q) : Tot (fun n => f_math_bits_LeadingZeros32 n [v0] H) Q := Tot.fn (fun n => bd_bnd (fun bd => math_bits_LeadingZeros32_b bd n v0 H) (by kernel_rfl)) h
@[irreducible] noncomputable def nat_shift.l0 (n m0 : Nat) (v1 v5 v6 v13 v14 v15 : V) (H : Heap) : Option R := Lp C n 167 [1, 1, 1, 0, 1, 0, 0] m0 [(1, v1), (5, v5), (6, v6), (13, v13), (14, v14), (15, v15)] H (kB 0 (kC C n 167 [1, 1, 1, 1] (kR C 167)))
@[irreducible] noncomputable def nat_shift.p1 (n : Nat) (v5 v6 : V) (H : Heap) : Option R := E C n 167 [1, 1, 1, 1] [(5, v5), (6, v6)] H (kR C 167)
@[simp] noncomputable def nat_shift.l0_b (bd : B2) (n m0 : Nat) (v1 v5 v6 v13 v14 v15 : V) (H : Heap) : Option R :=
 (bd (arA .lss v15 v14) fun t16_1 =>
 (bd (asB t16_1) fun b2 =>
 if b2 = true then
 (bd (idxS 1 v13 v15) fun t17_3 =>
 (bd (ld1 t17_3 H) fun t18_4 =>
 (bd (cvInt .u64 t18_4) fun t21_5 =>
 (bd (shA .shl t21_5 v1) fun t23_6 =>
 (bd (arA .or v6 t23_6) fun t24_7 =>
 (bd (cvInt .u32 t24_7) fun t27_8 =>
 (bd (bSl 1 ty_uint32 [(.int .u32 0)] 1 [(0, t27_8)]) fun o9 =>
 (bd (appA 1 4 ty_uint32 v5 (.slice ⟨some (H.n, 0), 1, 1, false⟩) (H.push o9)) fun p10 =>
 (bd (shA .shr t24_7 (.int .u64 32)) fun t31_11 =>
 (bd (arA .add v15 (.int .i64 1)) fun t32_12 =>
 (nat_shift.l0 n m0 v1 p10.1 t31_11 v13 v14 t32_12 p10.2)))))))))))
 else
 (nat_shift.p1 n v5 v6 H)))
theorem nat_shift.l0_tot {m0 : Nat → Nat} {v1 v5 v6 v13 v14 v15 : V} {H : Heap} {Q : V → Heap → Prop} (hb : Big m0) (h : ∀ m0', Big m0' → Tot (fun n => nat_shift.l0_b @bnd n (m0' n) v1 v5 v6 v13 v14 v15 H) Q) : Tot (fun n => nat_shift.l0 n (m0 n) v1 v5 v6 v13 v14 v15 H) Q :=
  Tot.loop (f := fun n k => nat_shift.l0 n k v1 v5 v6 v13 v14 v15 H) (g := fun n k => nat_shift.l0_b @bnd n k v1 v5 v6 v13 v14 v15 H) hb (fun n k => bd_bnd (fun bd => nat_shift.l0_b bd n k v1 v5 v6 v13 v14 v15 H) (by kernel_rfl)) h
@[simp] noncomputable def nat_shift.p1_b (bd : B2) (n : Nat) (v5 v6 : V) (H : Heap) : Option R :=
 (bd (cvInt .u32 v6) fun t35_1 =>
 (bd (bSl 1 ty_uint32 [(.int .u32 0)] 1 [(0, t35_1)]) fun o2 =>
 (bd (appA 1 4 ty_uint32 v5 (.slice ⟨some (H.n, 0), 1, 1, false⟩) (H.push o2)) fun p3 =>
 (some (p3.1, p3.2)))))
theorem nat_shift.p1_tot {v5 v6 : V} {H : Heap} {Q : V → Heap → Prop} (h : Tot (fun n => nat_shift.p1_b @bnd n v5 v6 H) Q) : Tot (fun n => nat_shift.p1 n v5 v6 H) Q := Tot.eq (fun n => bd_bnd (fun bd => nat_shift.p1_b bd n v5 v6 H) (by kernel_rfl)) h
@[simp] noncomputable def nat_shift_b (bd : B2) (n : Nat) (v0 v1 : V) (H : Heap) : Option R :=
 (bd (lenSl v0) fun t10_1 =>
 (bd (arA .add t10_1 (.int .i64 1)) fun t11_2 =>
 (bd (mkSl 1 4 ty_uint32 [(.int .u32 0)] (.int .i64 0) t11_2) fun o3 =>
 (bd (lenSl v0) fun t14_4 =>
 (nat_shift.l0 n n v1 (.slice ⟨some (H.n, 0), o3.2, 1, false⟩) (.int .u64 0) v0 t14_4 (.int .i64 0) (H.push o3.1))))))
theorem nat_shift_tot {v0 v1 : V} {H : Heap} {Q : V → Heap → Prop} (h : Tot (fun n => nat_shift_b @bnd n v0 v1 H) Q) : Tot (fun n => f_nat_shift n [v0, v1] H) Q := Tot.fn (fun n => bd_bnd (fun bd => nat_shift_b bd n v0 v1 H) (by kernel_rfl)) h
@[irreducible] noncomputable def nat_guess.l0 (n m0 : Nat) (v0 v1 v2 v7 v9 v10 : V) (H : Heap) : Option R := Lp C n 168 [1, 1, 1, 1, 0, 0, 0] m0 [(0, v0), (1, v1), (2, v2), (7, v7), (9, v9), (10, v10)] H (kB 0 (kC C n 168 [1, 1, 1, 1, 1] (kR C 168)))
@[simp] noncomputable def nat_guess.l0_b (bd : B2) (n m0 : Nat) (v0 v1 v2 v7 v9 v10 : V) (H : Heap) : Option R :=
 (bd (arA .geq v9 (.int .u64 4294967296)) fun t34_1 =>
 (bd (asB t34_1) fun b2 =>
 if b2 = true then
 (bd (arA .sub v9 (.int .u64 1)) fun t51_3 =>
 (bd (arA .add v10 v1) fun t54_4 =>
 (bd (arA .geq t54_4 (.int .u64 4294967296)) fun t56_5 =>
 (bd (asB t56_5) fun b6 =>
 if b6 = true then
 (some (t51_3, H))
 else
 (nat_guess.l0 n m0 v0 v1 v2 v7 t51_3 t54_4 H)))))
 else
 (bd (arA .mul v9 v2) fun t38_7 =>
 (bd (shA .shl v10 (.int .u64 32)) fun t40_8 =>
 (bd (arA .sub v7 (.int .i64 2)) fun t43_9 =>
 (bd (idxS 1 v0 t43_9) fun t44_10 =>
 (bd (ld1 t44_10 H) fun t45_11 =>
 (bd (cvInt .u64 t45_11) fun t46_12 =>
 (bd (arA .or t40_8 t46_12) fun t47_13 =>
 (bd (arA .gtr t38_7 t47_13) fun t48_14 =>
 (bd (asB t48_14) fun b15 =>
 if b15 = true then
 (bd (arA .sub v9 (.int .u64 1)) fun t51_16 =>
 (bd (arA .add v10 v1) fun t54_17 =>
 (bd (arA .geq t54_17 (.int .u64 4294967296)) fun t56_18 =>
 (bd (asB t56_18) fun b19 =>
 if b19 = true then
 (some (t51_16, H))
 else
 (nat_guess.l0 n m0 v0 v1 v2 v7 t51_16 t54_17 H)))))
 else
 (some (v9, H)))))))))))))
theorem nat_guess.l0_tot {m0 : Nat → Nat} {v0 v1 v2 v7 v9 v10 : V} {H : Heap} {Q : V → Heap → Prop} (hb : Big m0) (h : ∀ m0', Big m0' → Tot (fun n => nat_guess.l0_b @bnd n (m0' n) v0 v1 v2 v7 v9 v10 H) Q) : Tot (fun n => nat_guess.l0 n (m0 n) v0 v1 v2 v7 v9 v10 H) Q :=
  Tot.loop (f := fun n k => nat_guess.l0 n k v0 v1 v2 v7 v9 v10 H) (g := fun n k => nat_guess.l0_b @bnd n k v0 v1 v2 v7 v9 v10 H) hb (fun n k => bd_bnd (fun bd => nat_guess.l0_b bd n k v0 v1 v2 v7 v9 v10 H) (by kernel_rfl)) h
@[simp] noncomputable def nat_guess_b (bd : B2) (n : Nat) (v0 v1 v2 : V) (H : Heap) : Option R :=
 (bd (lenSl v0) fun t12_1 =>
 (bd (arA .sub t12_1 (.int .i64 1)) fun t13_2 =>
 (bd (idxS 1 v0 t13_2) fun t16_3 =>
 (bd (ld1 t16_3 (H.more 0)) fun t17_4 =>
 (bd (cvInt .u64 t17_4) fun t18_5 =>
 (bd (shA .shl t18_5 (.int .u64 32)) fun t19_6 =>
 (bd (arA .sub t13_2 (.int .i64 1)) fun t22_7 =>
 (bd (idxS 1 v0 t22_7) fun t23_8 =>
 (bd (ld1 t23_8 (H.more 0)) fun t24_9 =>
 (bd (cvInt .u64 t24_9) fun t25_10 =>
 (bd (arA .or t19_6 t25_10) fun t26_11 =>
 (bd (arA .quo t26_11 v1) fun t29_12 =>
 (bd (arA .rem t26_11 v1) fun t32_13 =>
 (nat_guess.l0 n n v0 v1 v2 t13_2 t29_12 t32_13 ((H.more 0).more 0)))))))))))))))
theorem nat_guess_tot {v0 v1 v2 : V} {H : Heap} {Q : V → Heap → Prop} (h : Tot (fun n => nat_guess_b @bnd n v0 v1 v2 H) Q) : Tot (fun n => f_nat_guess n [v0, v1, v2] H) Q := Tot.fn (fun n => bd_bnd (fun bd => nat_guess_b bd n v0 v1 v2 H) (by kernel_rfl)) h
@[irreducible] noncomputable def nat_off.l0 (n m0 : Nat) (v0 v1 v2 v7 v8 v12 v13 : V) (H : Heap) : Option R := Lp C n 169 [1, 1, 0, 1, 0, 0] m0 [(0, v0), (1, v1), (2, v2), (7, v7), (8, v8), (12, v12), (13, v13)] H (kB 0 (kC C n 169 [1, 1, 1] (kR C 169)))
@[irreducible] noncomputable def nat_off.p1 (n m0 : Nat) (v0 v1 v2 v7 v8 v9 v12 v13 : V) (H : Heap) : Option R := E C n 169 [1, 1, 0, 1, 0, 0, 1, 1, 0, 0, 1, 1] [(0, v0), (1, v1), (2, v2), (7, v7), (8, v8), (9, v9), (12, v12), (13, v13)] H (kB 1 (kC C n 169 [1, 1, 0, 1, 0, 0, 1, 1, 1] (kL C n 169 [1, 1, 0, 1, 0, 0] m0 (kB 0 (kC C n 169 [1, 1, 1] (kR C 169))))))
@[simp] noncomputable def nat_off.l0_b (bd : B2) (n m0 : Nat) (v0 v1 v2 v7 v8 v12 v13 : V) (H : Heap) : Option R :=
 (bd (arA .lss v13 v12) fun t14_1 =>
 (bd (asB t14_1) fun b2 =>
 if b2 = true then
 (bd (lenSl v1) fun t18_3 =>
 (bd (arA .lss v13 t18_3) fun t19_4 =>
 (bd (asB t19_4) fun b5 =>
 if b5 = true then
 (bd (idxS 1 v1 v13) fun t24_6 =>
 (bd (ld1 t24_6 H) fun t25_7 =>
 (bd (cvInt .u64 t25_7) fun t26_8 =>
 (bd (arA .mul v2 t26_8) fun t27_9 =>
 (bd (arA .add v7 t27_9) fun t28_10 =>
 (nat_off.p1 n m0 v0 v1 v2 t28_10 v8 v13 v12 v13 H))))))
 else
 (nat_off.p1 n m0 v0 v1 v2 v7 v8 v13 v12 v13 H))))
 else
 (bd (arA .neq v8 (.int .u64 0)) fun t51_11 =>
 (some (t51_11, H)))))
theorem nat_off.l0_tot {m0 : Nat → Nat} {v0 v1 v2 v7 v8 v12 v13 : V} {H : Heap} {Q : V → Heap → Prop} (hb : Big m0) (h : ∀ m0', Big m0' → Tot (fun n => nat_off.l0_b @bnd n (m0' n) v0 v1 v2 v7 v8 v12 v13 H) Q) : Tot (fun n => nat_off.l0 n (m0 n) v0 v1 v2 v7 v8 v12 v13 H) Q :=
  Tot.loop (f := fun n k => nat_off.l0 n k v0 v1 v2 v7 v8 v12 v13 H) (g := fun n k => nat_off.l0_b @bnd n k v0 v1 v2 v7 v8 v12 v13 H) hb (fun n k => bd_bnd (fun bd => nat_off.l0_b bd n k v0 v1 v2 v7 v8 v12 v13 H) (by kernel_rfl)) h
@[simp] noncomputable def nat_off.p1_b (bd : B2) (n m0 : Nat) (v0 v1 v2 v7 v8 v9 v12 v13 : V) (H : Heap) : Option R :=
 (bd (idxS 1 v0 v9) fun t31_1 =>
 (bd (ld1 t31_1 H) fun t32_2 =>
 (bd (cvInt .u64 t32_2) fun t33_3 =>
 (bd (cvInt .u32 v7) fun t35_4 =>
 (bd (cvInt .u64 t35_4) fun t36_5 =>
 (bd (arA .sub t33_3 t36_5) fun t37_6 =>
 (bd (arA .sub t37_6 v8) fun t39_7 =>
 (bd (cvInt .u32 t39_7) fun t43_8 =>
 (bd (idxS 1 v0 v9) fun t44_9 =>
 (bd (stA 1 t44_9 t43_8 H) fun H10 =>
 (bd (shA .shr t39_7 (.int .u64 63)) fun t46_11 =>
 (bd (shA .shr v7 (.int .u64 32)) fun t48_12 =>
 (bd (arA .add v13 (.int .i64 1)) fun t49_13 =>
 (nat_off.l0 n m0 v0 v1 v2 t48_12 t46_11 v12 t49_13 H10))))))))))))))
theorem nat_off.p1_tot {m0 : Nat → Nat} {v0 v1 v2 v7 v8 v9 v12 v13 : V} {H : Heap} {Q : V → Heap → Prop} (h : Tot (fun n => nat_off.p1_b @bnd n (m0 n) v0 v1 v2 v7 v8 v9 v12 v13 H) Q) : Tot (fun n => nat_off.p1 n (m0 n) v0 v1 v2 v7 v8 v9 v12 v13 H) Q := Tot.eq (fun n => bd_bnd (fun bd => nat_off.p1_b bd n (m0 n) v0 v1 v2 v7 v8 v9 v12 v13 H) (by kernel_rfl)) h
@[simp] noncomputable def nat_off_b (bd : B2) (n : Nat) (v0 v1 v2 : V) (H : Heap) : Option R :=
 (bd (lenSl v0) fun t12_1 =>
 (nat_off.l0 n n v0 v1 v2 (.int .u64 0) (.int .u64 0) t12_1 (.int .i64 0) H))
theorem nat_off_tot {v0 v1 v2 : V} {H : Heap} {Q : V → Heap → Prop} (h : Tot (fun n => nat_off_b @bnd n v0 v1 v2 H) Q) : Tot (fun n => f_nat_off n [v0, v1, v2] H) Q := Tot.fn (fun n => bd_bnd (fun bd => nat_off_b bd n v0 v1 v2 H) (by kernel_rfl)) h
@[irreducible] noncomputable def nat_back.l0 (n m0 : Nat) (v0 v1 v4 v7 v8 : V) (H : Heap) : Option R := Lp C n 170 [1, 1, 0, 0] m0 [(0, v0), (1, v1), (4, v4), (7, v7), (8, v8)] H (kB 0 (kR C 170))
@[irreducible] noncomputable def nat_back.p1 (n m0 : Nat) (v0 v1 v4 v5 v7 v8 : V) (H : Heap) : Option R := E C n 170 [1, 1, 0, 0, 1, 1, 0, 0, 1, 1, 1] [(0, v0), (1, v1), (4, v4), (5, v5), (7, v7), (8, v8)] H (kB 1 (kC C n 170 [1, 1, 0, 0, 1, 1, 1] (kL C n 170 [1, 1, 0, 0] m0 (kB 0 (kR C 170)))))
@[simp] noncomputable def nat_back.l0_b (bd : B2) (n m0 : Nat) (v0 v1 v4 v7 v8 : V) (H : Heap) : Option R :=
 (bd (arA .lss v8 v7) fun t9_1 =>
 (bd (asB t9_1) fun b2 =>
 if b2 = true then
 (bd (idxS 1 v0 v8) fun t14_3 =>
 (bd (ld1 t14_3 H) fun t15_4 =>
 (bd (cvInt .u64 t15_4) fun t16_5 =>
 (bd (arA .add v4 t16_5) fun t17_6 =>
 (bd (lenSl v1) fun t20_7 =>
 (bd (arA .lss v8 t20_7) fun t21_8 =>
 (bd (asB t21_8) fun b9 =>
 if b9 = true then
 (bd (idxS 1 v1 v8) fun t25_10 =>
 (bd (ld1 t25_10 H) fun t26_11 =>
 (bd (cvInt .u64 t26_11) fun t27_12 =>
 (bd (arA .add t17_6 t27_12) fun t28_13 =>
 (nat_back.p1 n m0 v0 v1 t28_13 v8 v7 v8 H)))))
 else
 (nat_back.p1 n m0 v0 v1 t17_6 v8 v7 v8 H))))))))
 else
 (some (.tuple [], H))))
theorem nat_back.l0_tot {m0 : Nat → Nat} {v0 v1 v4 v7 v8 : V} {H : Heap} {Q : V → Heap → Prop} (hb : Big m0) (h : ∀ m0', Big m0' → Tot (fun n => nat_back.l0_b @bnd n (m0' n) v0 v1 v4 v7 v8 H) Q) : Tot (fun n => nat_back.l0 n (m0 n) v0 v1 v4 v7 v8 H) Q :=
  Tot.loop (f := fun n k => nat_back.l0 n k v0 v1 v4 v7 v8 H) (g := fun n k => nat_back.l0_b @bnd n k v0 v1 v4 v7 v8 H) hb (fun n k => bd_bnd (fun bd => nat_back.l0_b bd n k v0 v1 v4 v7 v8 H) (by kernel_rfl)) h
@[simp] noncomputable def nat_back.p1_b (bd : B2) (n m0 : Nat) (v0 v1 v4 v5 v7 v8 : V) (H : Heap) : Option R :=
 (bd (cvInt .u32 v4) fun t32_1 =>
 (bd (idxS 1 v0 v5) fun t33_2 =>
 (bd (stA 1 t33_2 t32_1 H) fun H3 =>
 (bd (shA .shr v4 (.int .u64 32)) fun t35_4 =>
 (bd (arA .add v8 (.int .i64 1)) fun t36_5 =>
 (nat_back.l0 n m0 v0 v1 t35_4 v7 t36_5 H3))))))
theorem nat_back.p1_tot {m0 : Nat → Nat} {v0 v1 v4 v5 v7 v8 : V} {H : Heap} {Q : V → Heap → Prop} (h : Tot (fun n => nat_back.p1_b @bnd n (m0 n) v0 v1 v4 v5 v7 v8 H) Q) : Tot (fun n => nat_back.p1 n (m0 n) v0 v1 v4 v5 v7 v8 H) Q := Tot.eq (fun n => bd_bnd (fun bd => nat_back.p1_b bd n (m0 n) v0 v1 v4 v5 v7 v8 H) (by kernel_rfl)) h
@[simp] noncomputable def nat_back_b (bd : B2) (n : Nat) (v0 v1 : V) (H : Heap) : Option R :=
 (bd (lenSl v0) fun t7_1 =>
 (nat_back.l0 n n v0 v1 (.int .u64 0) t7_1 (.int .i64 0) H))
theorem nat_back_tot {v0 v1 : V} {H : Heap} {Q : V → Heap → Prop} (h : Tot (fun n => nat_back_b @bnd n v0 v1 H) Q) : Tot (fun n => f_nat_back n [v0, v1] H) Q := Tot.fn (fun n => bd_bnd (fun bd => nat_back_b bd n v0 v1 H) (by kernel_rfl)) h
@[simp] noncomputable def whole_sign_b (bd : B2) (n : Nat) (v0 : V) (H : Heap) : Option R :=
 (bd (boxA ty_api_Int v0) fun o1 =>
 (bd (faA 1 (.ptr (some (H.n, 0)))) fun t4_2 =>
 (bd (ld1 t4_2 (H.push o1)) fun t5_3 =>
 (bd (f_nat_Bits n [t5_3] (H.push o1)) fun r4 =>
 (bd (arA .eql r4.1 (.int .i64 0)) fun t7_5 =>
 (bd (asB t7_5) fun b6 =>
 if b6 = true then
 (some ((.int .i64 0), r4.2))
 else
 (bd (faA 0 (.ptr (some (H.n, 0)))) fun t9_7 =>
 (bd (ld1 t9_7 r4.2) fun t10_8 =>
 (bd (asB t10_8) fun b9 =>
 if b9 = true then
 (some ((.int .i64 (-1)), r4.2))
 else
 (some ((.int .i64 1), r4.2)))))))))))
theorem whole_sign_tot {v0 : V} {H : Heap} {Q : V → Heap → Prop} (h : Tot (fun n => whole_sign_b @bnd n v0 H) Q) : Tot (fun n => f_whole_sign n [v0] H) Q := Tot.fn (fun n => bd_bnd (fun bd => whole_sign_b bd n v0 H) (by kernel_rfl)) h
@[irreducible] noncomputable def math_bits_Len32.p0 (n : Nat) (v0 v2 : V) (H : Heap) : Option R := E C n 183 [1, 1] [(0, v0), (2, v2)] H (kR C 183)
@[irreducible] noncomputable def math_bits_Len32.p1 (n : Nat) (v0 v2 : V) (H : Heap) : Option R := E C n 183 [1, 1, 1] [(0, v0), (2, v2)] H (kR C 183)
@[simp] noncomputable def math_bits_Len32.p0_b (bd : B2) (n : Nat) (v0 v2 : V) (H : Heap) : Option R :=
 (bd (arA .geq v0 (.int .u32 256)) fun t8_1 =>
 (bd (asB t8_1) fun b2 =>
 if b2 = true then
 (bd (shA .shr v0 (.int .u64 8)) fun t10_3 =>
 (bd (arA .add v2 (.int .i64 8)) fun t12_4 =>
 (math_bits_Len32.p1 n t10_3 t12_4 H)))
 else
 (math_bits_Len32.p1 n v0 v2 H)))
theorem math_bits_Len32.p0_tot {v0 v2 : V} {H : Heap} {Q : V → Heap → Prop} (h : Tot (fun n => math_bits_Len32.p0_b @bnd n v0 v2 H) Q) : Tot (fun n => math_bits_Len32.p0 n v0 v2 H) Q := Tot.eq (fun n => bd_bnd (fun bd => math_bits_Len32.p0_b bd n v0 v2 H) (by kernel_rfl)) h
@[simp] noncomputable def math_bits_Len32.p1_b (bd : B2) (n : Nat) (v0 v2 : V) (H : Heap) : Option R :=
 (bd (cvInt .u8 v0) fun t15_1 =>
 (bd (ixStr (.str [0, 1, 2, 2, 3, 3, 3, 3, 4, 4, 4, 4, 4, 4, 4, 4, 5, 5, 5, 5, 5, 5, 5, 5, 5, 5, 5, 5, 5, 5, 5, 5, 6, 6, 6, 6, 6, 6, 6, 6, 6, 6, 6, 6, 6, 6, 6, 6, 6, 6, 6, 6, 6, 6, 6, 6, 6, 6, 6, 6, 6, 6, 6, 6, 7, 7, 7, 7, 7, 7, 7, 7, 7, 7, 7, 7, 7, 7, 7, 7, 7, 7, 7, 7, 7, 7, 7, 7, 7, 7, 7, 7, 7, 7, 7, 7, 7, 7, 7, 7, 7, 7, 7, 7, 7, 7, 7, 7, 7, 7, 7, 7, 7, 7, 7, 7, 7, 7, 7, 7, 7, 7, 7, 7, 7, 7, 7, 7, 8, 8, 8, 8, 8, 8, 8, 8, 8, 8, 8, 8, 8, 8, 8, 8, 8, 8, 8, 8, 8, 8, 8, 8, 8, 8, 8, 8, 8, 8, 8, 8, 8, 8, 8, 8, 8, 8, 8, 8, 8, 8, 8, 8, 8, 8, 8, 8, 8, 8, 8, 8, 8, 8, 8, 8, 8, 8, 8, 8, 8, 8, 8, 8, 8, 8, 8, 8, 8, 8, 8, 8, 8, 8, 8, 8, 8, 8, 8, 8, 8, 8, 8, 8, 8, 8, 8, 8, 8, 8, 8, 8, 8, 8, 8, 8, 8, 8, 8, 8, 8, 8, 8, 8, 8, 8, 8, 8, 8, 8, 8, 8, 8, 8, 8, 8, 8, 8, 8, 8, 8, 8, 8, 8, 8, 8, 8, 8]) t15_1) fun t16_2 =>
 (bd (cvInt .i64 t16_2) fun t17_3 =>
 (bd (arA .add v2 t17_3) fun t18_4 =>
 (some (t18_4, H))))))
theorem math_bits_Len32.p1_tot {v0 v2 : V} {H : Heap} {Q : V → Heap → Prop} (h : Tot (fun n => math_bits_Len32.p1_b @bnd n v0 v2 H) Q) : Tot (fun n => math_bits_Len32.p1 n v0 v2 H) Q := Tot.eq (fun n => bd_bnd (fun bd => math_bits_Len32.p1_b bd n v0 v2 H) (by kernel_rfl)) h
@[simp] noncomputable def math_bits_Len32_b (bd : B2) (n : Nat) (v0 : V) (H : Heap) : Option R :=
 (bd (arA .geq v0 (.int .u32 65536)) fun t4_1 =>
 (bd (asB t4_1) fun b2 =>
 if b2 = true then
 (bd (shA .shr v0 (.int .u64 16)) fun t6_3 =>
 (math_bits_Len32.p0 n t6_3 (.int .i64 16) H))
 else
 (math_bits_Len32.p0 n v0 (.int .i64 0) H)))
theorem math_bits_Len32_tot {v0 : V} {H : Heap} {Q : V → Heap → Prop} (h : Tot (fun n => math_bits_Len32_b @bnd n v0 H) Q) : Tot (fun n => f_math_bits_Len32 n [v0] H) Q := Tot.fn (fun n => bd_bnd (fun bd => math_bits_Len32_b bd n v0 H) (by kernel_rfl)) h
@[simp] noncomputable def nat_Bits_b (bd : B2) (n : Nat) (v0 : V) (H : Heap) : Option R :=
 (bd (f_nat_size n [v0] H) fun r1 =>
 (some (r1.1, r1.2)))
theorem nat_Bits_tot {v0 : V} {H : Heap} {Q : V → Heap → Prop} (h : Tot (fun n => nat_Bits_b @bnd n v0 H) Q) : Tot (fun n => f_nat_Bits n [v0] H) Q := Tot.fn (fun n => bd_bnd (fun bd => nat_Bits_b bd n v0 H) (by kernel_rfl)) h
@[simp] noncomputable def nat_size_b (bd : B2) (n : Nat) (v0 : V) (H : Heap) : Option R :=
 (bd (f_nat_trim n [v0] H) fun r1 =>
 (bd (lenSl r1.1) fun t6_2 =>
 (bd (arA .eql t6_2 (.int .i64 0)) fun t7_3 =>
 (bd (asB t7_3) fun b4 =>
 if b4 = true then
 (some ((.int .i64 0), r1.2))
 else
 (bd (lenSl r1.1) fun t9_5 =>
 (bd (arA .sub t9_5 (.int .i64 1)) fun t10_6 =>
 (bd (arA .mul (.int .i64 32) t10_6) fun t11_7 =>
 (bd (lenSl r1.1) fun t14_8 =>
 (bd (arA .sub t14_8 (.int .i64 1)) fun t15_9 =>
 (bd (idxS 1 r1.1 t15_9) fun t16_10 =>
 (bd (ld1 t16_10 r1.2) fun t17_11 =>
 (bd (f_math_bits_Len32 n [t17_11] r1.2) fun r12 =>
 (bd (arA .add t11_7 r12.1) fun t19_13 =>
 (some (t19_13, r12.2)))))))))))))))
theorem nat_size_tot {v0 : V} {H : Heap} {Q : V → Heap → Prop} (h : Tot (fun n => nat_size_b @bnd n v0 H) Q) : Tot (fun n => f_nat_size n [v0] H) Q := Tot.fn (fun n => bd_bnd (fun bd => nat_size_b bd n v0 H) (by kernel_rfl)) h
end Go.AM
end
section
set_option linter.unusedVariables false
set_option linter.unusedSimpArgs false

end
section
set_option linter.unusedVariables false
set_option linter.unusedSimpArgs false
set_option linter.unusedSimpArgs false
set_option linter.unusedVariables false
namespace Go.AM
theorem nat_trim_spec {H : Heap} {s : Sl} {l : List Nat} (h : Row H .u32 s l) (hm : l.length < 2147483648) :
    Tot (fun n => f_nat_trim n [.slice s] H) fun v H' => H' = H ∧ ∃ s', v = .slice s' ∧ Row H .u32 s' (trimZ l) ∧ (∀ i, s'.has i → s.has i) ∧ s'.ad = s.ad ∧ (s.esz = 1 → s'.esz = 1) := by
  refine Tot.of fun Q hQ => ?_
  refine nat_trim_tot ?_
  simp only [nat_trim_b]
  suffices key : ∀ (j : Nat) (s' : Sl) (l' : List Nat), Row H .u32 s' l' → l'.length = j → j < 2147483648 → (s'.ad = s.ad ∧ (s.esz = 1 → s'.esz = 1)) → trimZ l' = trimZ l → ∀ m, Big m → Tot (fun n => nat_trim.l0 n (m n) (.slice s') H) Q by
    exact key _ s l h rfl hm ⟨rfl, fun x => x⟩ rfl _ Big.id
  intro j
  induction j with
  | zero =>
    intro s l h hl hm hs ht m hb
    have := List.eq_nil_of_length_eq_zero hl
    subst this
    refine nat_trim.l0_tot hb fun m' hb' => ?_
    simp [h.lenSl]
    exact Tot.ret (hQ _ _ ⟨rfl, _, rfl, by rw [← ht]; exact h, fun i ⟨o, ho⟩ => ⟨o, by rw [← hs.1]; exact ho⟩, hs⟩)
  | succ j ih =>
    intro s l h hl hm hs ht m hb
    rcases snoc_cases l with rfl | ⟨l', x, rfl⟩
    · simp at hl
    · have hl' : l'.length = j := by simpa using hl
      refine nat_trim.l0_tot hb fun m' hb' => ?_
      have hg := h.get (i := j) (by omega)
      have hx : nth (l' ++ [x]) j = x := by rw [← hl']; exact nth_app_len
      rw [hx] at hg
      simp (disch := first | omega | (simp only [npz, nsz, nmz] <;> omega) | (simp <;> omega) | fail) [h.lenSl, h.idx, hl, hg]
      refine Tot.ite (fun hx0 => ?_) (fun hx0 => ?_)
      · have hx0' : x = 0 := by omega
        subst hx0'
        simp (disch := first | omega | (simp only [npz, nsz, nmz] <;> omega) | (simp <;> omega) | fail) [h.slice (lo := none) (a := 0) (b := j) rfl]
        have he : ((l' ++ [0]).drop 0).take (j - 0) = l' := by simp [← hl']
        have h2 := h.sub (lo := 0) (hi := j) (by omega) (by omega)
        rw [he] at h2
        exact ih _ _ h2 hl' (by omega) ⟨by rw [← hs.1]; simp [subS], fun _ => rfl⟩ (by rw [← ht, trimZ_zero]) _ hb'
      · rw [trimZ_last (by omega)] at ht
        exact Tot.ret (hQ _ _ ⟨rfl, _, rfl, by rw [← ht]; exact h, fun i ⟨o, ho⟩ => ⟨o, by rw [← hs.1]; exact ho⟩, hs⟩)
def cmpN (x y : Nat) : Int := if x < y then -1 else if y < x then 1 else 0
theorem nat_cmp_spec {H : Heap} {s t : Sl} {l l' : List Nat} (h : Row H .u32 s l) (h' : Row H .u32 t l') (hm : l.length < 2000000000) (hm' : l'.length < 2000000000) (hL : Lim 4294967296 l) (hL' : Lim 4294967296 l') :
    Tot (fun n => f_nat_cmp n [.slice s, .slice t] H) fun v H' => H' = H ∧ v = .int .i64 (cmpN (val 4294967296 l) (val 4294967296 l')) := by
  refine Tot.of fun Q hQ => ?_
  refine nat_cmp_tot ?_
  simp only [nat_cmp_b]
  refine Tot.bind (nat_trim_spec h (by omega)) ?_
  rintro v H ⟨rfl, s1, rfl, r1, -⟩
  refine Tot.bind (nat_trim_spec h' (by omega)) ?_
  rintro v H ⟨rfl, t1, rfl, r2, -⟩
  have e1 := trimZ_dig (b := 4294967296) (by decide) hL
  have e2 := trimZ_dig (b := 4294967296) (by decide) hL'
  have k1 := trimZ_len_le _ (l := l) rfl
  have k2 := trimZ_len_le _ (l := l') rfl
  rw [e1] at r1 k1; rw [e2] at r2 k2
  generalize val 4294967296 l = x at *
  generalize val 4294967296 l' = y at *
  clear e1 e2
  simp (disch := first | omega | (simp only [npz, nsz, nmz] <;> omega) | (simp <;> omega) | fail) [r1.lenSl, r2.lenSl]
  refine Tot.ite (fun hne => ?_) (fun hne => ?_)
  rotate_left
  · refine Tot.ite (fun hlt => ?_) (fun hlt => ?_)
    · exact Tot.ret (hQ _ _ ⟨rfl, by rw [cmpN, if_pos (lt_of_len (b := 4294967296) (by decide) (by omega))]⟩)
    · have := lt_of_len (b := 4294967296) (x := y) (y := x) (by decide) (by omega)
      exact Tot.ret (hQ _ _ ⟨rfl, by rw [cmpN, if_neg (by omega), if_pos this]⟩)
  · have hle : (dig 4294967296 x).length = (dig 4294967296 y).length := by omega
    have q1 := dig_lim (b := 4294967296) (by decide) x
    have q2 := dig_lim (b := 4294967296) (by decide) y
    have vx := val_dig (b := 4294967296) (by decide) x
    have vy := val_dig (b := 4294967296) (by decide) y
    generalize dig 4294967296 x = a at *
    generalize dig 4294967296 y = b at *
    suffices key : ∀ (j : Nat), j ≤ a.length → (a.drop j = b.drop j) → ∀ (i : Int), i = (j : Int) - 1 → ∀ m, Big m → Tot (fun n => nat_cmp.l0 n (m n) (.slice s1) (.slice t1) (.int .i64 i) H) Q by
      exact key a.length (Nat.le_refl _) (by rw [List.drop_length, hle, List.drop_length]) _ rfl _ Big.id
    intro j
    induction j with
    | zero =>
      intro hj hd i hi m hb
      refine nat_cmp.l0_tot hb fun m' hb' => ?_
      subst hi
      simp
      have : x = y := by rw [← vx, ← vy]; simpa using congrArg (val 4294967296) hd
      exact Tot.ret (hQ _ _ ⟨rfl, by simp [cmpN, this]⟩)
    | succ j ih =>
      intro hj hd i hi m hb
      refine nat_cmp.l0_tot hb fun m' hb' => ?_
      have : i = (j : Int) := by omega
      subst this
      simp (disch := first | omega | (simp only [npz, nsz, nmz] <;> omega) | (simp <;> omega) | fail) [r1.idx, r2.idx, r1.get, r2.get, hle ▸ hj]
      have g1 := take_succ_nth (l := a) (i := j) (by omega)
      have g2 := take_succ_nth (l := b) (i := j) (by omega)
      have p1 := val_take_drop (b := 4294967296) (n := j + 1) (l := a) (by omega)
      have p2 := val_take_drop (b := 4294967296) (n := j + 1) (l := b) (by omega)
      rw [hd] at p1
      refine Tot.ite (fun hlt => ?_) (fun hlt => ?_)
      · have := val_lt_of_top (b := 4294967296) (l := a.take j) (l' := b.take j) (x := nth a j) (y := nth b j) q1.take (by simp; omega) (by omega)
        rw [← g1, ← g2] at this
        exact Tot.ret (hQ _ _ ⟨rfl, by rw [cmpN, if_pos (by omega)]⟩)
      · refine Tot.ite (fun hgt => ?_) (fun hgt => ?_)
        · have := val_lt_of_top (b := 4294967296) (l := b.take j) (l' := a.take j) (x := nth b j) (y := nth a j) q2.take (by simp; omega) (by omega)
          rw [← g1, ← g2] at this
          exact Tot.ret (hQ _ _ ⟨rfl, by rw [cmpN, if_neg (by omega), if_pos (by omega)]⟩)
        · refine ih (by omega) ?_ _ rfl _ hb'
          rw [drop_eq_nth_cons (l := a) (by omega), drop_eq_nth_cons (l := b) (by omega), hd]
          congr 1; omega
end Go.AM
end
section
set_option linter.unusedVariables false
set_option linter.unusedSimpArgs false
set_option linter.unusedSimpArgs false
set_option linter.unusedVariables false
set_option maxRecDepth 100000
namespace Go.AM
theorem clone_spec {H : Heap} {s : Sl} {l : List Nat} (h : Row H .u32 s l) (hm : l.length < 2000000000) :
    Tot (fun n => f_slices_Clone_api_Nat_uint32 n [.slice s] H) fun v H' => Ext0 H H' ∧ ∃ s', v = .slice s' ∧ Own H' .u32 ty_uint32 s' l ∧ ∀ i, s'.has i → H.n ≤ i := by
  refine Tot.of fun Q hQ => ?_
  refine slices_Clone_api_Nat_uint32_tot ?_
  simp (disch := first | omega | (simp only [npz, nsz, nmz] <;> omega) | (simp <;> omega) | fail) []
  refine Tot.ite (fun hn => ?_) (fun hn => ?_)
  · have : l = [] := by
      rcases Decidable.em (l = []) with h1 | h1
      · exact h1
      · obtain ⟨b, o, cs, e, ro, a1, _⟩ := h.mem h1
        simp [a1] at hn
    subst this
    exact Tot.ret (hQ _ _ ⟨Ch.refl, _, rfl, .inl ⟨rfl, rfl⟩, fun i hi => (has_none.1 hi).elim⟩)
  · have hb : bSl 1 ty_uint32 [.int .u32 0] 0 [] = some (.cells (nums .u32 []) ty_uint32 false) := by simp [bSl, rowA, fillA, V.one]
    rw [hb]
    simp only [bnd_some]
    have h1 : Row (H.push (.cells (nums .u32 []) ty_uint32 false)) .u32 s l := h.ext Ch.push
    obtain ⟨s', H', a1, a2, a3, a4⟩ := appA_own (by_ := 4) (Own.new (H := H) (k := .u32) (e := ty_uint32) (l := [])) h1.src (by simp; omega) (by decide)
    simp only [List.length_nil] at a1
    rw [a1]
    simp only [bnd_some]
    refine Tot.ret (hQ _ _ ⟨?_, s', rfl, by simpa using a2, ?_⟩)
    · exact (Ch.push (X := fun _ => False)).trans a3 fun i hi hx => by rw [has_mk] at hx; omega
    · intro i hi
      rcases a4 i hi with h | h
      · rw [has_mk] at h; omega
      · simp at h; omega
theorem nat_Trim_spec {H : Heap} {s : Sl} {l : List Nat} (h : Row H .u32 s l) (hm : l.length < 2000000000) (hL : Lim 4294967296 l) :
    Tot (fun n => f_nat_Trim n [.slice s] H) fun v H' => Ext0 H H' ∧ ∃ s', v = .slice s' ∧ Own H' .u32 ty_uint32 s' (dig 4294967296 (val 4294967296 l)) ∧ ∀ i, s'.has i → H.n ≤ i := by
  refine Tot.of fun Q hQ => ?_
  refine nat_Trim_tot ?_
  simp only [nat_Trim_b]
  refine Tot.bind (nat_trim_spec h (by omega)) ?_
  rintro v H ⟨rfl, s1, rfl, r1, -⟩
  have k1 := trimZ_len_le _ (l := l) rfl
  rw [trimZ_dig (b := 4294967296) (by decide) hL] at r1 k1
  refine Tot.bind (clone_spec r1 (by omega)) ?_
  rintro v H' ⟨c, s2, rfl, o, h3⟩
  exact Tot.ret (hQ _ _ ⟨c, s2, rfl, o, h3⟩)
theorem dig_two {x : Nat} : val 4294967296 [x % 4294967296, x / 4294967296] = x := by
  simp only [val]; have := Nat.mod_add_div x 4294967296; omega
theorem nat_Of_spec {H : Heap} {x : Nat} {xi : Int} (hx : xi = (x : Int)) (hm : x < 18446744073709551616) :
    Tot (fun n => f_nat_Of n [.int .u64 xi] H) fun v H' => Ext0 H H' ∧ ∃ s', v = .slice s' ∧ Own H' .u32 ty_uint32 s' (dig 4294967296 x) ∧ ∀ i, s'.has i → H.n ≤ i := by
  subst hx
  refine Tot.of fun Q hQ => ?_
  refine nat_Of_tot ?_
  simp (disch := first | omega | (simp only [npz, nsz, nmz] <;> omega) | (simp <;> omega) | fail) []
  have hb : bSl 1 ty_uint32 [.int .u32 0] 2 [(0, .int .u32 (IntKind.u32.wrap x)), (1, .int .u32 ((x : Int) / 4294967296))] = some (.cells (nums .u32 [x % 4294967296, x / 4294967296]) ty_uint32 false) := by
    simp [bSl, rowA, fillA, V.one, V.cells, lset, wrap_u32m]
  rw [hb]
  simp only [bnd_some]
  have hr := (Own.new (H := H) (k := .u32) (e := ty_uint32) (l := [x % 4294967296, x / 4294967296])).row
  have hL : Lim 4294967296 [x % 4294967296, x / 4294967296] := by
    intro y hy; simp at hy; rcases hy with rfl | rfl <;> omega
  refine Tot.bind (nat_trim_spec hr (by simp)) ?_
  rintro v _ ⟨rfl, s1, rfl, r1, -⟩
  rw [trimZ_dig (b := 4294967296) (by decide) hL, dig_two] at r1
  have k1 := trimZ_len_le _ (l := [x % 4294967296, x / 4294967296]) rfl
  rw [trimZ_dig (b := 4294967296) (by decide) hL, dig_two] at k1
  refine Tot.bind (clone_spec r1 (by simp at k1; omega)) ?_
  rintro v H' ⟨c, s2, rfl, o, h3⟩
  exact Tot.ret (hQ _ _ ⟨Ch.push.t c, s2, rfl, o, fun i hi => by have := h3 i hi; simp at this; omega⟩)
theorem add_inv {b p S : Nat} {d a a' l' : List Nat} {c x y A B : Nat} (h : val b d + b ^ d.length * (c + (x + b * A) + (y + b * B)) = S) :
    val b (d ++ [(c + x + y) % b]) + b ^ (d ++ [(c + x + y) % b]).length * ((c + x + y) / b + A + B) = S := by
  rw [val_snoc, List.length_append, List.length_singleton, Nat.pow_succ]
  have := carry b (b ^ d.length) (c + x + y) (A + B)
  rw [← Nat.add_assoc] at this
  generalize b ^ d.length = q at *
  have e : q * (c + x + y + b * (A + B)) = q * (c + (x + b * A) + (y + b * B)) := by congr 1; grind
  omega
theorem val_drop_nth {b i : Nat} {l : List Nat} (h : i < l.length) : val b (l.drop i) = nth l i + b * val b (l.drop (i + 1)) := by rw [drop_eq_nth_cons h]; rfl
theorem val_drop_out {b i : Nat} {l : List Nat} (h : l.length ≤ i) : val b (l.drop i) = 0 := by rw [List.drop_of_length_le h]; rfl
theorem nat_Add_spec {H : Heap} {s t : Sl} {l l' : List Nat} (h : Row H .u32 s l) (h' : Row H .u32 t l') (hm : l.length < 2000000000) (hm' : l'.length < 2000000000) (hL : Lim 4294967296 l) (hL' : Lim 4294967296 l') :
    Tot (fun n => f_nat_Add n [.slice s, .slice t] H) fun v H' => Ext0 H H' ∧ ∃ s', v = .slice s' ∧ Row H' .u32 s' (dig 4294967296 (val 4294967296 l + val 4294967296 l')) ∧ Fr H.n s' := by
  refine Tot.of fun Q hQ => ?_
  refine nat_Add_tot ?_
  simp (disch := first | omega | (simp only [npz, nsz, nmz] <;> omega) | (simp <;> omega) | fail) [h.lenSl, h'.lenSl]
  have key : ∀ (s t : Sl) (l l' : List Nat) (S : Nat), Row H .u32 s l → Row H .u32 t l' → l.length < 2000000000 → l'.length ≤ l.length → Lim 4294967296 l → Lim 4294967296 l' → val 4294967296 l + val 4294967296 l' = S →
      (∀ v H', (Ext0 H H' ∧ ∃ s', v = .slice s' ∧ Row H' .u32 s' (dig 4294967296 S) ∧ Fr H.n s') → Q v H') → Tot (fun n => nat_Add.p0 n (.slice s) (.slice t) H) Q := by
    clear hQ h h' hm hm' hL hL' s t l l'
    intro s t l l' S h h' hm hle hL hL' hS hQ
    refine nat_Add.p0_tot ?_
    simp (disch := first | omega | (simp only [npz, nsz, nmz] <;> omega) | (simp <;> omega) | fail) [h.lenSl]
    suffices lp : ∀ (j i : Nat) (ii ci : Int) (H' : Heap) (so : Sl) (d : List Nat) (c : Nat), i + j = l.length → ii = (i : Int) → ci = (c : Int) → Ext0 H H' → Own H' .u32 ty_uint32 so d → (∀ i, so.has i → H.n ≤ i) → d.length = i → Lim 4294967296 d → c ≤ 1 →
        val 4294967296 d + 4294967296 ^ d.length * (c + val 4294967296 (l.drop i) + val 4294967296 (l'.drop i)) = S → ∀ m, Big m → Tot (fun n => nat_Add.l1 n (m n) (.slice t) (.slice so) (.int .u64 ci) (.slice s) (.int .i64 l.length) (.int .i64 ii) H') Q by
      refine lp l.length 0 _ _ _ _ [] 0 (by omega) rfl rfl Ch.push (Own.new (l := [])) (fun i hi => by rw [has_mk] at hi; omega) rfl Lim.nil (by omega) (by simpa [val] using hS) _ Big.id
    intro j
    induction j with
    | zero =>
      intro i ii ci H' so d c hi hii hci c0 o f hd hLd hc hv m hb
      subst hii hci
      refine nat_Add.l1_tot hb fun m' hb' => ?_
      simp (disch := first | omega | (simp only [npz, nsz, nmz] <;> omega) | (simp <;> omega) | fail) []
      refine Tot.no (by omega) ?_
      refine nat_Add.p3_tot ?_
      simp (disch := first | omega | (simp only [npz, nsz, nmz] <;> omega) | (simp <;> omega) | fail) []
      refine Tot.app1 o (x := c) (by omega) (by omega) (by decide) (by rfl) ?_
      intro s' H2 o2 c2 f2
      rw [val_drop_out (l := l) (by omega), val_drop_out (l := l') (by omega)] at hv
      have hv2 : val 4294967296 (d ++ [c]) = S := by rw [val_snoc]; simpa using hv
      refine Tot.bind (nat_trim_spec o2.row (by simp; omega)) ?_
      rintro v _ ⟨rfl, s3, rfl, r3, f3, -⟩
      rw [trimZ_dig (b := 4294967296) (by decide) (Lim.app.2 ⟨hLd, Lim.one.2 (by omega)⟩), hv2] at r3
      exact Tot.ret (hQ _ _ ⟨c0.trans c2 fun i hi hx => by have := f i hx; omega, _, rfl, r3, fun i hi => by rcases f2 i (f3 i hi) with h | h; exact f i h; have := c0.n; omega⟩)
    | succ j ih =>
      intro i ii ci H' so d c hi hii hci c0 o f hd hLd hc hv m hb
      subst hii hci
      refine nat_Add.l1_tot hb fun m' hb' => ?_
      have r := h.ext c0
      have r' := h'.ext c0
      have hx := hL.nth (i := i) (by decide)
      have hy := hL'.nth (i := i) (by decide)
      rw [val_drop_nth (l := l) (by omega)] at hv
      have step : ∀ (y : Nat) (w : Int), y < 4294967296 → w = ((c + nth l i + y : Nat) : Int) → val 4294967296 d + 4294967296 ^ d.length * (c + (nth l i + 4294967296 * val 4294967296 (l.drop (i + 1))) + (y + 4294967296 * val 4294967296 (l'.drop (i + 1)))) = S →
          Tot (fun n => nat_Add.p2 n (m' n) (.slice t) (.slice so) (.int .u64 w) (.slice s) (.int .i64 l.length) (.int .i64 i) H') Q := by
        intro y w hy hw hv
        subst hw
        refine nat_Add.p2_tot ?_
        simp (disch := first | omega | (simp only [npz, nsz, nmz] <;> omega) | (simp <;> omega) | fail) []
        refine Tot.app1 o (x := (c + nth l i + y) % 4294967296) (by omega) (by rw [wrap_u32m]; omega) (by decide) (by rfl) ?_
        intro s' H2 o2 c2 f2
        simp (disch := first | omega | (simp only [npz, nsz, nmz] <;> omega) | (simp <;> omega) | fail) []
        exact ih (i + 1) _ _ H2 s' _ ((c + nth l i + y) / 4294967296) (by omega) (by omega) (by omega) (c0.trans c2 fun i hi hx => by have := f i hx; omega) o2
          (fun i hi => by rcases f2 i hi with h | h; exact f i h; have := c0.n; omega) (by simp; omega) (Lim.app.2 ⟨hLd, Lim.one.2 (Nat.mod_lt _ (by decide))⟩) (by omega) (add_inv (a := []) (a' := []) (l' := []) (p := 0) hv) _ hb'
      simp (disch := first | omega | (simp only [npz, nsz, nmz] <;> omega) | (simp <;> omega) | fail) [r.idx, r.get, r'.lenSl]
      refine Tot.yes (by omega) ?_
      refine Tot.ite (fun hlt => ?_) (fun hlt => ?_)
      · simp (disch := first | omega | (simp only [npz, nsz, nmz] <;> omega) | (simp <;> omega) | fail) [r'.idx, r'.get]
        refine step (nth l' i) _ hy (by omega) ?_
        rw [val_drop_nth (l := l') (by omega)] at hv
        exact hv
      · refine step 0 _ (by decide) (by omega) ?_
        rw [val_drop_out (l := l') (by omega)] at hv
        rw [val_drop_out (l := l') (by omega)]
        simpa using hv
  refine Tot.ite (fun hlt => ?_) (fun hlt => ?_)
  · exact key t s l' l _ h' h hm' (by omega) hL' hL (Nat.add_comm _ _) hQ
  · exact key s t l l' _ h h' hm (by omega) hL hL' rfl hQ
theorem sub_inv {b p L L' D x y z c c' A B : Nat} (h : D + p * (x + b * A) + L' = L + p * (y + b * B + c)) (hz : x + b * c' = z + c + y) :
    D + p * z + p * b * A + L' = L + p * b * (B + c') := by
  have h2 : p * (x + b * c') = p * (z + c + y) := by rw [hz]
  grind
theorem nat_sub_spec {H : Heap} {s t : Sl} {l l' : List Nat} (h : Row H .u32 s l) (h' : Row H .u32 t l') (hm : l.length < 2000000000) (hle : l'.length ≤ l.length) (hL : Lim 4294967296 l) (hL' : Lim 4294967296 l') (hv : val 4294967296 l' ≤ val 4294967296 l) :
    Tot (fun n => f_nat_sub n [.slice s, .slice t] H) fun v H' => Ext0 H H' ∧ ∃ s', v = .slice s' ∧ Row H' .u32 s' (dig 4294967296 (val 4294967296 l - val 4294967296 l')) ∧ Fr H.n s' := by
  refine Tot.of fun Q hQ => ?_
  refine nat_sub_tot ?_
  simp (disch := first | omega | (simp only [npz, nsz, nmz] <;> omega) | (simp <;> omega) | fail) [h.lenSl]
  suffices lp : ∀ (j i : Nat) (ii ci : Int) (H' : Heap) (so : Sl) (d : List Nat) (c : Nat), i + j = l.length → ii = (i : Int) → ci = (c : Int) → Ext0 H H' → Own H' .u32 ty_uint32 so d → (∀ i, so.has i → H.n ≤ i) → d.length = i → Lim 4294967296 d → c ≤ 1 →
      val 4294967296 d + 4294967296 ^ d.length * val 4294967296 (l.drop i) + val 4294967296 l' = val 4294967296 l + 4294967296 ^ d.length * (val 4294967296 (l'.drop i) + c) → ∀ m, Big m → Tot (fun n => nat_sub.l0 n (m n) (.slice t) (.slice so) (.int .u64 ci) (.slice s) (.int .i64 l.length) (.int .i64 ii) H') Q by
    refine lp l.length 0 _ _ _ _ [] 0 (by omega) rfl rfl Ch.push (Own.new (l := [])) (fun i hi => by rw [has_mk] at hi; omega) rfl Lim.nil (by omega) (by simp [val]) _ Big.id
  intro j
  induction j with
  | zero =>
    intro i ii ci H' so d c hi hii hci c0 o f hd hLd hc hv m hb
    subst hii hci
    refine nat_sub.l0_tot hb fun m' hb' => ?_
    simp (disch := first | omega | (simp only [npz, nsz, nmz] <;> omega) | (simp <;> omega) | fail) []
    refine Tot.no (by omega) ?_
    rw [val_drop_out (l := l) (by omega), val_drop_out (l := l') (by omega)] at hv
    have hlt := val_lt hLd
    have hc0 : c = 0 := by
      rcases Nat.lt_or_ge 0 c with h1 | h1
      · have : c = 1 := by omega
        subst this
        simp at hv
        omega
      · omega
    subst hc0
    simp at hv
    refine Tot.bind (nat_trim_spec o.row (by omega)) ?_
    rintro v _ ⟨rfl, s3, rfl, r3, f3, -⟩
    rw [trimZ_dig (b := 4294967296) (by decide) hLd, show val 4294967296 d = val 4294967296 l - val 4294967296 l' by omega] at r3
    exact Tot.ret (hQ _ _ ⟨c0, _, rfl, r3, fun i hi => f i (f3 i hi)⟩)
  | succ j ih =>
    intro i ii ci H' so d c hi hii hci c0 o f hd hLd hc hv m hb
    subst hii hci
    refine nat_sub.l0_tot hb fun m' hb' => ?_
    have r := h.ext c0
    have r' := h'.ext c0
    have hx := hL.nth (i := i) (by decide)
    have hy := hL'.nth (i := i) (by decide)
    rw [val_drop_nth (l := l) (by omega)] at hv
    have step : ∀ (y : Nat) (w : Int), y < 4294967296 → w = ((nth l i : Int) - c - y) % 18446744073709551616 → val 4294967296 d + 4294967296 ^ d.length * (nth l i + 4294967296 * val 4294967296 (l.drop (i + 1))) + val 4294967296 l' = val 4294967296 l + 4294967296 ^ d.length * (y + 4294967296 * val 4294967296 (l'.drop (i + 1)) + c) →
        Tot (fun n => nat_sub.p1 n (m' n) (.slice t) (.slice so) (.int .u64 w) (.slice s) (.int .i64 l.length) (.int .i64 i) H') Q := by
      intro y w hy hw hv
      subst hw
      refine nat_sub.p1_tot ?_
      simp (disch := first | omega | (simp only [npz, nsz, nmz] <;> omega) | (simp <;> omega) | fail) []
      refine Tot.app1 o (x := (nth l i + 4294967296 - c - y) % 4294967296) (by omega) (by rw [wrap_u32m]; omega) (by decide) (by rfl) ?_
      intro s' H2 o2 c2 f2
      simp (disch := first | omega | (simp only [npz, nsz, nmz] <;> omega) | (simp <;> omega) | fail) []
      have hz : nth l i + 4294967296 * (if nth l i < c + y then 1 else 0) = (nth l i + 4294967296 - c - y) % 4294967296 + c + y := by split <;> omega
      refine ih (i + 1) _ _ H2 s' _ (if nth l i < c + y then 1 else 0) (by omega) (by omega) (by split <;> omega) (c0.trans c2 fun i hi hx => by have := f i hx; omega) o2
        (fun i hi => by rcases f2 i hi with h | h; exact f i h; have := c0.n; omega) (by simp; omega) (Lim.app.2 ⟨hLd, Lim.one.2 (Nat.mod_lt _ (by decide))⟩) (by split <;> omega) ?_ _ hb'
      rw [val_snoc, List.length_append, List.length_singleton, Nat.pow_succ]
      exact sub_inv hv hz
    simp (disch := first | omega | (simp only [npz, nsz, nmz] <;> omega) | (simp <;> omega) | fail) [r.idx, r.get, r'.lenSl]
    refine Tot.yes (by omega) ?_
    refine Tot.ite (fun hlt => ?_) (fun hlt => ?_)
    · simp (disch := first | omega | (simp only [npz, nsz, nmz] <;> omega) | (simp <;> omega) | fail) [r'.idx, r'.get]
      refine step (nth l' i) _ hy (by simp only [wrap_u64m]; omega) ?_
      rw [val_drop_nth (l := l') (by omega)] at hv
      exact hv
    · refine step 0 _ (by decide) (by simp only [wrap_u64m]; omega) ?_
      rw [val_drop_out (l := l') (by omega)] at hv
      rw [val_drop_out (l := l') (by omega)]
      simpa using hv
theorem nat_Sub_spec {H : Heap} {s t : Sl} {l l' : List Nat} (h : Row H .u32 s l) (h' : Row H .u32 t l') (hm : l.length < 2000000000) (hm' : l'.length < 2000000000) (hL : Lim 4294967296 l) (hL' : Lim 4294967296 l') :
    Tot (fun n => f_nat_Sub n [.slice s, .slice t] H) fun v H' => Ext0 H H' ∧ ∃ s', v = .tuple [.slice s', .bool (decide (val 4294967296 l' ≤ val 4294967296 l))] ∧ Row H' .u32 s' (dig 4294967296 (val 4294967296 l - val 4294967296 l')) ∧ Fr H.n s' := by
  refine Tot.of fun Q hQ => ?_
  refine nat_Sub_tot ?_
  simp only [nat_Sub_b]
  refine Tot.bind (nat_trim_spec h' (by omega)) ?_
  rintro v H ⟨rfl, t1, rfl, r1, -⟩
  have k1 := trimZ_len_le _ (l := l') rfl
  have e1 := trimZ_dig (b := 4294967296) (by decide) hL'
  rw [e1] at r1 k1
  have hd := val_dig (b := 4294967296) (by decide) (val 4294967296 l')
  have hLd := dig_lim (b := 4294967296) (by decide) (val 4294967296 l')
  refine Tot.bind (nat_cmp_spec h r1 hm (by omega) hL hLd) ?_
  rintro v H ⟨rfl, rfl⟩
  rw [hd]
  simp (disch := first | omega | (simp only [npz, nsz, nmz] <;> omega) | (simp <;> omega) | fail) [cmpN]
  by_cases hlt : val 4294967296 l < val 4294967296 l'
  · simp only [if_pos hlt]
    simp (disch := first | omega | (simp only [npz, nsz, nmz] <;> omega) | (simp <;> omega) | fail) []
    exact Tot.ret (hQ _ _ ⟨Ch.refl, _, by rw [decide_eq_false (by omega)], by rw [show val 4294967296 l - val 4294967296 l' = 0 by omega, dig_zero]; exact Row.nil, Fr.nil⟩)
  · simp only [if_neg hlt]
    refine Tot.no (by split <;> omega) ?_
    refine Tot.bind (nat_sub_spec h r1 hm ?_ hL hLd (by rw [hd]; omega)) ?_
    · apply dig_len_le (by decide)
      have := val_lt hL
      omega
    rintro v H' ⟨c, s', rfl, r2, f2⟩
    rw [hd] at r2
    exact Tot.ret (hQ _ _ ⟨c, s', by rw [decide_eq_true (by omega)], r2, f2⟩)
theorem nth_set {l : List Nat} {i j x : Nat} (hi : i < l.length) : nth (l.set i x) j = if j = i then x else nth l j := by
  simp only [nth, List.getD_eq_getElem?_getD, List.getElem?_set]
  by_cases h : i = j
  · subst h; simp [hi]
  · rw [if_neg h, if_neg (Ne.symm h)]
theorem val_set {b : Nat} : ∀ {l : List Nat} {i x : Nat}, i < l.length → val b (l.set i x) + b ^ i * nth l i = val b l + b ^ i * x
  | [], i, x, h => by simp at h
  | y :: l, 0, x, h => by simp [val, nth]; omega
  | y :: l, i + 1, x, h => by
    have := val_set (b := b) (l := l) (i := i) (x := x) (by simpa using h)
    have e : nth (y :: l) (i + 1) = nth l i := by simp [nth]
    simp only [List.set_cons_succ, val, e, Nat.pow_succ]
    have : b * (val b (l.set i x) + b ^ i * nth l i) = b * (val b l + b ^ i * x) := by rw [this]
    grind
theorem mul_inv {b O O' p o x y c V R : Nat} (h1 : O' + p * o = O + p * ((c + (o + x * y)) % b)) (h2 : O + p * c = V + R) : O' + p * b * ((c + (o + x * y)) / b) = V + (R + p * (x * y)) := by
  have := carry b p (c + (o + x * y)) 0
  grind
theorem nat_Mul_spec {H : Heap} {s t : Sl} {l l' : List Nat} (h : Row H .u32 s l) (h' : Row H .u32 t l') (hm : l.length + l'.length < 2000000000) (hL : Lim 4294967296 l) (hL' : Lim 4294967296 l') :
    Tot (fun n => f_nat_Mul n [.slice s, .slice t] H) fun v H' => Ext0 H H' ∧ ∃ s', v = .slice s' ∧ Row H' .u32 s' (dig 4294967296 (val 4294967296 l * val 4294967296 l')) ∧ Fr H.n s' := by
  refine Tot.of fun Q hQ => ?_
  refine nat_Mul_tot ?_
  have e0 : ((l.length : Int) + l'.length).toNat = l.length + l'.length := by omega
  simp (disch := first | omega | (simp only [npz, nsz, nmz] <;> omega) | (simp <;> omega) | fail) [h.lenSl, h'.lenSl, e0]
  have lp : ∀ (j i : Nat) (ii : Int) (H' : Heap) (o : List Nat) (so : Sl), i + j = l.length → ii = (i : Int) → Ext0 H H' → Mut H' .u32 ty_uint32 H.n [] o [] so → o.length = l.length + l'.length → Lim 4294967296 o →
      (∀ k, i + l'.length ≤ k → nth o k = 0) → val 4294967296 o = val 4294967296 (l.take i) * val 4294967296 l' → ∀ m, Big m → Tot (fun n => nat_Mul.l0 n (m n) (.slice t) (.slice so) (.slice s) (.int .i64 l.length) (.int .i64 ii) H') Q := by
    intro j
    induction j with
    | zero =>
      intro i ii H' o so hi hii c0 mo ho hLo h0 hv m hb
      subst hii
      refine nat_Mul.l0_tot hb fun m' hb' => ?_
      simp (disch := first | omega | (simp only [npz, nsz, nmz] <;> omega) | (simp <;> omega) | fail) []
      refine Tot.no (by omega) ?_
      refine Tot.bind (nat_trim_spec mo.row (by omega)) ?_
      rintro v _ ⟨rfl, s3, rfl, r3, f3, -⟩
      rw [trimZ_dig (b := 4294967296) (by decide) hLo, hv, List.take_of_length_le (by omega)] at r3
      exact Tot.ret (hQ _ _ ⟨c0, _, rfl, r3, fun i hi => by have := mo.has.1 (f3 i hi); omega⟩)
    | succ j ih =>
      intro i ii H' o so hi hii c0 mo ho hLo h0 hv m hb
      subst hii
      refine nat_Mul.l0_tot hb fun m' hb' => ?_
      have r := h.ext c0
      have r' := h'.ext c0
      have hx := hL.nth (i := i) (by decide)
      simp (disch := first | omega | (simp only [npz, nsz, nmz] <;> omega) | (simp <;> omega) | fail) [r.idx, r.get, r'.lenSl]
      refine Tot.yes (by omega) ?_
      suffices lp2 : ∀ (j2 k : Nat) (kk ci : Int) (H' : Heap) (o2 : List Nat) (c : Nat), k + j2 = l'.length → kk = (k : Int) → ci = (c : Int) → Ext0 H H' → Mut H' .u32 ty_uint32 H.n [] o2 [] so → o2.length = l.length + l'.length → Lim 4294967296 o2 → c < 4294967296 →
          (∀ k, i + l'.length ≤ k → nth o2 k = 0) → val 4294967296 o2 + 4294967296 ^ (i + k) * c = val 4294967296 o + 4294967296 ^ i * (nth l i * val 4294967296 (l'.take k)) → ∀ m1, Big m1 →
          Tot (fun n => nat_Mul.l1 n (m' n) (m1 n) (.slice t) (.slice so) (.int .i64 i) (.int .u32 (nth l i : Nat)) (.int .u64 ci) (.slice s) (.int .i64 l.length) (.int .i64 i) (.slice t) (.int .i64 l'.length) (.int .i64 kk) H') Q by
        exact lp2 l'.length 0 _ _ _ o 0 (by omega) rfl rfl c0 mo ho hLo (by decide) h0 (by simp [val]) _ Big.id
      intro j2
      induction j2 with
      | zero =>
        intro k kk ci H' o2 c hk hkk hci c1 mo2 ho2 hLo2 hc h02 hv2 m1 hb1
        subst hkk hci
        refine nat_Mul.l1_tot hb1 fun m1' hb1' => ?_
        simp (disch := first | omega | (simp only [npz, nsz, nmz] <;> omega) | (simp <;> omega) | fail) []
        refine Tot.no (by omega) ?_
        refine nat_Mul.p2_tot ?_
        simp (disch := first | omega | (simp only [npz, nsz, nmz] <;> omega) | (simp <;> omega) | fail) [(h'.ext c1).lenSl, mo2.row.idxN (i := i + l'.length) (by omega)]
        refine Tot.st mo2 (x := c) (by omega) (by omega) ?_
        intro H3 mo3 c3
        have hkl : k = l'.length := by omega
        subst hkl
        refine ih (i + 1) _ H3 _ so (by omega) (by omega) (c1.trans c3 fun i hi hx => by subst hx; omega) mo3 (by simpa using ho2) (hLo2.set hc) ?_ ?_ _ hb'
        · intro k hk
          rw [nth_set (by omega), if_neg (by omega)]
          exact h02 k (by omega)
        · have e1 := val_set (b := 4294967296) (l := o2) (i := i + l'.length) (x := c) (by omega)
          rw [h02 _ (Nat.le_refl _)] at e1
          rw [List.take_of_length_le (Nat.le_refl _)] at hv2
          rw [take_succ_nth (by omega), val_snoc, Nat.add_mul, ← hv]
          have e2 : (l.take i).length = i := by simp; omega
          rw [e2]
          have e3 : 4294967296 ^ i * nth l i * val 4294967296 l' = 4294967296 ^ i * (nth l i * val 4294967296 l') := Nat.mul_assoc _ _ _
          omega
      | succ j2 ih2 =>
        intro k kk ci H' o2 c hk hkk hci c1 mo2 ho2 hLo2 hc h02 hv2 m1 hb1
        subst hkk hci
        refine nat_Mul.l1_tot hb1 fun m1' hb1' => ?_
        have r' := h'.ext c1
        have hy := hL'.nth (i := k) (by decide)
        have hw := hLo2.nth (i := i + k) (by decide)
        have hxy : nth l i * nth l' k ≤ 4294967295 * 4294967295 := Nat.mul_le_mul (by omega) (by omega)
        simp (disch := first | omega | (simp only [npz, nsz, nmz] <;> omega) | (simp <;> omega) | fail) [r'.idx, r'.get, mo2.row.idxN (i := i + k) (by omega), mo2.row.get]
        refine Tot.yes (by omega) ?_
        refine Tot.st mo2 (x := (c + (nth o2 (i + k) + nth l i * nth l' k)) % 4294967296) (by omega) (by rw [wrap_u32m]; omega) ?_
        intro H3 mo3 c3
        refine ih2 (k + 1) _ _ H3 _ ((c + (nth o2 (i + k) + nth l i * nth l' k)) / 4294967296) (by omega) (by omega) (by omega) (c1.trans c3 fun i hi hx => by subst hx; omega) mo3 (by simpa using ho2) (hLo2.set (Nat.mod_lt _ (by decide))) (by omega) ?_ ?_ _ hb1'
        · intro q hq
          rw [nth_set (by omega), if_neg (by omega)]
          exact h02 q hq
        · have e1 := val_set (b := 4294967296) (l := o2) (i := i + k) (x := (c + (nth o2 (i + k) + nth l i * nth l' k)) % 4294967296) (by omega)
          have e2 := mul_inv e1 hv2
          have e4 : (l'.take k).length = k := by simp; omega
          rw [take_succ_nth (by omega), val_snoc, show i + (k + 1) = i + k + 1 from rfl, Nat.pow_succ, e2, e4, Nat.pow_add]
          grind
  exact lp l.length 0 _ _ (List.replicate (l.length + l'.length) 0) _ (by omega) rfl Ch.push Mut.make (by simp) (by intro x hx; simp at hx; omega) (by intro k _; simp [nth, List.getD_eq_getElem?_getD, List.getElem?_replicate]; split <;> rfl) (by simp [val_zero, val]) _ Big.id
end Go.AM
end
section
set_option linter.unusedVariables false
set_option linter.unusedSimpArgs false
namespace Go.AM
def blen (x : Nat) : Nat := (dig 2 x).length
theorem blen_lt (x : Nat) : x < 2 ^ blen x := dig_len_lt (by decide)
theorem blen_le {x n : Nat} (h : x < 2 ^ n) : blen x ≤ n := dig_len_le (by decide) h
theorem le_of_blen {x : Nat} (h : x ≠ 0) : 2 ^ (blen x - 1) ≤ x := by
  apply Nat.le_of_not_lt
  intro hlt
  have := blen_le hlt
  have h0 : blen x ≠ 0 := by
    intro e
    have := blen_lt x
    rw [e] at this; omega
  omega
theorem blen_eq {x n : Nat} (h1 : x < 2 ^ n) (h2 : n = 0 ∨ 2 ^ (n - 1) ≤ x) : blen x = n := by
  have h3 := blen_le h1
  rcases h2 with h2 | h2
  · omega
  · have h4 := blen_lt x
    rcases Nat.lt_or_ge (blen x) n with h5 | h5
    · have h6 : 2 ^ blen x ≤ 2 ^ (n - 1) := Nat.pow_le_pow_right (by decide) (by omega)
      omega
    · omega
theorem blen_div {x k : Nat} (h : 2 ^ k ≤ x) : blen x = k + blen (x / 2 ^ k) := by
  have hp : 0 < 2 ^ k := Nat.two_pow_pos k
  have hne : x / 2 ^ k ≠ 0 := by
    intro e
    have := (Nat.div_eq_zero_iff_lt hp).1 e
    omega
  have h1 := blen_lt (x / 2 ^ k)
  have h2 := le_of_blen hne
  generalize hn : blen (x / 2 ^ k) = n at *
  have hn0 : n ≠ 0 := by
    intro e; subst e; simp at h1; omega
  apply blen_eq
  · rw [Nat.pow_add, Nat.mul_comm]
    exact (Nat.div_lt_iff_lt_mul hp).1 h1
  · right
    rw [show k + n - 1 = k + (n - 1) by omega, Nat.pow_add, Nat.mul_comm]
    exact (Nat.le_div_iff_mul_le hp).1 h2
def Guess (W U3 V2 q : Nat) : Prop := q < W ∧ q * V2 ≤ U3 ∧ ∀ t, t < W → t * V2 ≤ U3 → t ≤ q
theorem guess_lo {W U3 V2 q p U V u' v' : Nat} (hg : Guess W U3 V2 q) (hp : 0 < p) (hV : V = p * V2 + v') (hU : U = p * U3 + u') (hu' : u' < p) (hUV : U < W * V) : U / V ≤ q := by
  have hV0 : 0 < V := by
    rcases Nat.eq_zero_or_pos V with h | h
    · rw [h] at hUV; simp at hUV
    · exact h
  apply hg.2.2
  · exact (Nat.div_lt_iff_lt_mul hV0).2 hUV
  · have h1 : U / V * V ≤ U := Nat.div_mul_le_self _ _
    generalize U / V = t at *
    apply Nat.le_of_lt_succ
    apply Nat.lt_of_mul_lt_mul_left (a := p)
    have h2 : t * V = p * (t * V2) + t * v' := by rw [hV]; grind
    have h3 : p * (U3 + 1) = p * U3 + p := by grind
    show p * (t * V2) < p * (U3 + 1)
    omega
theorem guess_hi {W U3 V2 q p U V u' v' : Nat} (hg : Guess W U3 V2 q) (hV : V = p * V2 + v') (hU : U = p * U3 + u') (hv' : v' < p) (hpV : W * p ≤ V) (hV0 : 0 < V) : q ≤ U / V + 1 := by
  obtain ⟨h1, h2, _⟩ := hg
  have h3 : p * (q * V2) ≤ p * U3 := Nat.mul_le_mul_left _ h2
  have h4 : q * v' ≤ W * p := Nat.mul_le_mul (by omega) (by omega)
  have h5 : q * V = p * (q * V2) + q * v' := by rw [hV]; grind
  rcases Nat.eq_zero_or_pos q with h | h
  · rw [h]; exact Nat.zero_le _
  · obtain ⟨r, rfl⟩ : ∃ r, q = r + 1 := ⟨q - 1, by omega⟩
    have h6 : (r + 1) * V = r * V + V := Nat.succ_mul _ _
    have h7 : r * V ≤ U := by omega
    have := (Nat.le_div_iff_mul_le hV0).2 h7
    omega
theorem nth_take {l : List Nat} {i n : Nat} (h : i < n) : nth (l.take n) i = nth l i := by
  simp [nth, List.getD_eq_getElem?_getD, List.getElem?_take, h]
theorem nth_drop {l : List Nat} {i n : Nat} : nth (l.drop n) i = nth l (n + i) := by
  simp [nth, List.getD_eq_getElem?_getD]
theorem take_set_le {l : List Nat} {i n x : Nat} (h : n ≤ i) : (l.set i x).take n = l.take n := by
  rw [List.take_set_of_le h]
theorem drop_set_lt {l : List Nat} {i n x : Nat} (h : i < n) : (l.set i x).drop n = l.drop n := by
  rw [List.drop_set_of_lt h]
theorem nth_set' {l : List Nat} {i x : Nat} (hi : i < l.length) : nth (l.set i x) i = x := by
  simp [nth, List.getD_eq_getElem?_getD, List.getElem?_set, hi]
theorem drop_set_eq {l : List Nat} {i x : Nat} (h : i < l.length) : (l.set i x).drop i = x :: l.drop (i + 1) := by
  rw [drop_eq_nth_cons (by simpa using h), nth_set' h, drop_set_lt (by omega)]
theorem short_step {by_ r x Q V W : Nat} (h : V = Q * by_ + r) : x + W * V = ((r * W + x) / by_ + W * Q) * by_ + (r * W + x) % by_ := by
  have := Nat.div_add_mod (r * W + x) by_
  generalize (r * W + x) / by_ = a at *
  generalize (r * W + x) % by_ = c at *
  subst h
  grind
theorem val_inj_div {V q r x : Nat} (h : V = q * x + r) (hr : r < x) : q = V / x ∧ r = V % x := by
  have hx : 0 < x := by omega
  constructor
  · rw [h, Nat.add_comm, Nat.add_mul_div_right _ _ hx, Nat.div_eq_of_lt hr, Nat.zero_add]
  · rw [h, Nat.add_comm, Nat.add_mul_mod_self_right, Nat.mod_eq_of_lt hr]
end Go.AM
end
section
set_option linter.unusedVariables false
set_option linter.unusedSimpArgs false
set_option linter.unusedSimpArgs false
set_option linter.unusedVariables false
namespace Go.AM
theorem sh_l {q : IntKind} {a b : Int} (hb : 0 ≤ b ∧ b ≤ 63) : shA .shl (.int .u64 a) (.int q b) = some (.int .u64 (IntKind.u64.wrap (a * 2 ^ b.toNat))) := by
  simp only [shA, shiftA]
  rw [if_neg (by omega), show min b.toNat IntKind.u64.bits = b.toNat by simp only [IntKind.bits]; omega]
theorem sh_r {q : IntKind} {a b : Int} (hb : 0 ≤ a ∧ 0 ≤ b ∧ b ≤ 63) : shA .shr (.int .u64 a) (.int q b) = some (.int .u64 (a / 2 ^ b.toNat)) := by
  simp only [shA, shiftA]
  rw [if_neg (by omega), show min b.toNat IntKind.u64.bits = b.toNat by simp only [IntKind.bits]; omega, Int.fdiv_eq_ediv_of_nonneg _ (by exact Int.pow_nonneg (by decide))]
theorem sh_l32 {q : IntKind} {a : Int} : shA .shl (.int .u64 a) (.int q 32) = some (.int .u64 (IntKind.u64.wrap (a * 4294967296))) := sh_l (by omega)
theorem sh_r32 {q : IntKind} {a b : Int} (hb : 0 ≤ a ∧ 0 ≤ b ∧ b ≤ 31) : shA .shr (.int .u32 a) (.int q b) = some (.int .u32 (a / 2 ^ b.toNat)) := by
  simp only [shA, shiftA]
  rw [if_neg (by omega), show min b.toNat IntKind.u32.bits = b.toNat by simp only [IntKind.bits]; omega, Int.fdiv_eq_ediv_of_nonneg _ (by exact Int.pow_nonneg (by decide))]
theorem or_apart {a b i c : Nat} {x y : Int} (hx : x = (a : Int)) (hy : y = (b : Int)) (ha : a = 2 ^ i * c) (hb : b < 2 ^ i) (hm : a + b < 18446744073709551616) : arA .or (.int .u64 x) (.int .u64 y) = some (.int .u64 ((a + b : Nat) : Int)) := by
  subst hx hy
  simp only [arA, if_true, intA]
  congr 2
  have h1 : (BitVec.ofInt IntKind.u64.bits (a : Int) ||| BitVec.ofInt IntKind.u64.bits (b : Int)).toNat = a + b := by
    rw [BitVec.toNat_or, BitVec.toNat_ofInt, BitVec.toNat_ofInt]
    simp only [IntKind.bits]
    rw [show ((a : Int) % ((2 ^ 64 : Nat) : Int)).toNat = a by omega, show ((b : Int) % ((2 ^ 64 : Nat) : Int)).toNat = b by omega]
    rw [ha]; exact (Nat.two_pow_add_eq_or_of_lt hb c).symm
  rw [h1, wrap_u64 (by omega)]
theorem or32 {a b : Nat} (h : a < 4294967296 ∧ b < 4294967296) : arA .or (.int .u64 ((a : Int) * 4294967296)) (.int .u64 (b : Int)) = some (.int .u64 ((a : Int) * 4294967296 + b)) := by
  have := or_apart (a := a * 4294967296) (b := b) (i := 32) (c := a) (x := (a : Int) * 4294967296) (y := b) (by simp) rfl (Nat.mul_comm _ _) (Nat.lt_of_lt_of_le h.2 (by decide)) (by omega)
  rw [this]; simp
theorem or_comm {x y : Int} : arA .or (.int .u64 x) (.int .u64 y) = arA .or (.int .u64 y) (.int .u64 x) := by
  simp only [arA, if_true, intA, BitVec.or_comm]
set_option maxRecDepth 20000 in
theorem len8 {y : Nat} (h : y < 256) : ixStr (.str [0, 1, 2, 2, 3, 3, 3, 3, 4, 4, 4, 4, 4, 4, 4, 4, 5, 5, 5, 5, 5, 5, 5, 5, 5, 5, 5, 5, 5, 5, 5, 5, 6, 6, 6, 6, 6, 6, 6, 6, 6, 6, 6, 6, 6, 6, 6, 6, 6, 6, 6, 6, 6, 6, 6, 6, 6, 6, 6, 6, 6, 6, 6, 6, 7, 7, 7, 7, 7, 7, 7, 7, 7, 7, 7, 7, 7, 7, 7, 7, 7, 7, 7, 7, 7, 7, 7, 7, 7, 7, 7, 7, 7, 7, 7, 7, 7, 7, 7, 7, 7, 7, 7, 7, 7, 7, 7, 7, 7, 7, 7, 7, 7, 7, 7, 7, 7, 7, 7, 7, 7, 7, 7, 7, 7, 7, 7, 7, 8, 8, 8, 8, 8, 8, 8, 8, 8, 8, 8, 8, 8, 8, 8, 8, 8, 8, 8, 8, 8, 8, 8, 8, 8, 8, 8, 8, 8, 8, 8, 8, 8, 8, 8, 8, 8, 8, 8, 8, 8, 8, 8, 8, 8, 8, 8, 8, 8, 8, 8, 8, 8, 8, 8, 8, 8, 8, 8, 8, 8, 8, 8, 8, 8, 8, 8, 8, 8, 8, 8, 8, 8, 8, 8, 8, 8, 8, 8, 8, 8, 8, 8, 8, 8, 8, 8, 8, 8, 8, 8, 8, 8, 8, 8, 8, 8, 8, 8, 8, 8, 8, 8, 8, 8, 8, 8, 8, 8, 8, 8, 8, 8, 8, 8, 8, 8, 8, 8, 8, 8, 8, 8, 8, 8, 8, 8, 8]) (.int .u8 (y : Int)) = some (.int .u8 (blen y : Int)) := by
  have key : ∀ i : Fin 256, ∃ b : UInt8, ([0, 1, 2, 2, 3, 3, 3, 3, 4, 4, 4, 4, 4, 4, 4, 4, 5, 5, 5, 5, 5, 5, 5, 5, 5, 5, 5, 5, 5, 5, 5, 5, 6, 6, 6, 6, 6, 6, 6, 6, 6, 6, 6, 6, 6, 6, 6, 6, 6, 6, 6, 6, 6, 6, 6, 6, 6, 6, 6, 6, 6, 6, 6, 6, 7, 7, 7, 7, 7, 7, 7, 7, 7, 7, 7, 7, 7, 7, 7, 7, 7, 7, 7, 7, 7, 7, 7, 7, 7, 7, 7, 7, 7, 7, 7, 7, 7, 7, 7, 7, 7, 7, 7, 7, 7, 7, 7, 7, 7, 7, 7, 7, 7, 7, 7, 7, 7, 7, 7, 7, 7, 7, 7, 7, 7, 7, 7, 7, 8, 8, 8, 8, 8, 8, 8, 8, 8, 8, 8, 8, 8, 8, 8, 8, 8, 8, 8, 8, 8, 8, 8, 8, 8, 8, 8, 8, 8, 8, 8, 8, 8, 8, 8, 8, 8, 8, 8, 8, 8, 8, 8, 8, 8, 8, 8, 8, 8, 8, 8, 8, 8, 8, 8, 8, 8, 8, 8, 8, 8, 8, 8, 8, 8, 8, 8, 8, 8, 8, 8, 8, 8, 8, 8, 8, 8, 8, 8, 8, 8, 8, 8, 8, 8, 8, 8, 8, 8, 8, 8, 8, 8, 8, 8, 8, 8, 8, 8, 8, 8, 8, 8, 8, 8, 8, 8, 8, 8, 8, 8, 8, 8, 8, 8, 8, 8, 8, 8, 8, 8, 8, 8, 8, 8, 8, 8, 8] : List UInt8)[i.val]? = some b ∧ i.val < 2 ^ b.toNat ∧ (b.toNat = 0 ∨ 2 ^ (b.toNat - 1) ≤ i.val) := by decide +kernel
  obtain ⟨b, h1, h2, h3⟩ := key ⟨y, h⟩
  simp only at h1 h2 h3
  have h0 : (0 : Int) ≤ (y : Int) := by omega
  simp only [ixStr, if_pos h0, Int.toNat_natCast, h1, blen_eq h2 h3]
set_option maxRecDepth 20000 in
theorem Len32_spec {H : Heap} {x : Nat} {xi : Int} (hx : xi = (x : Int)) (hm : x < 4294967296) :
    Tot (fun n => f_math_bits_Len32 n [.int .u32 xi] H) fun v H' => H' = H ∧ v = .int .i64 (blen x) := by
  subst hx
  refine Tot.of fun Q hQ => ?_
  refine math_bits_Len32_tot ?_
  have p1 : ∀ (y k : Nat) (yi ki : Int), yi = (y : Int) → ki = (k : Int) → y < 256 → k ≤ 24 → k + blen y = blen x → Tot (fun n => math_bits_Len32.p1 n (.int .u32 yi) (.int .i64 ki) H) Q := by
    intro y k yi ki hy hk h1 h2 h3
    subst hy hk
    refine math_bits_Len32.p1_tot ?_
    have h4 : blen y ≤ 8 := blen_le (by omega)
    simp (disch := first | omega | (simp only [npz, nsz, nmz] <;> omega) | (simp <;> omega) | fail) [len8 h1]
    exact Tot.ret (hQ _ _ ⟨rfl, by rw [← h3]; simp⟩)
  have p0 : ∀ (y k : Nat) (yi ki : Int), yi = (y : Int) → ki = (k : Int) → y < 65536 → k ≤ 16 → k + blen y = blen x → Tot (fun n => math_bits_Len32.p0 n (.int .u32 yi) (.int .i64 ki) H) Q := by
    intro y k yi ki hy hk h1 h2 h3
    subst hy hk
    refine math_bits_Len32.p0_tot ?_
    simp (disch := first | omega | (simp only [npz, nsz, nmz] <;> omega) | (simp <;> omega) | fail) [sh_r32]
    refine Tot.ite (fun h => ?_) (fun h => ?_)
    · exact p1 (y / 256) (k + 8) _ _ (by omega) (by omega) (by omega) (by omega) (by have := blen_div (x := y) (k := 8) (by omega); simp at this; omega)
    · exact p1 y k _ _ rfl rfl (by omega) (by omega) h3
  simp (disch := first | omega | (simp only [npz, nsz, nmz] <;> omega) | (simp <;> omega) | fail) [sh_r32]
  refine Tot.ite (fun h => ?_) (fun h => ?_)
  · exact p0 (x / 65536) 16 _ _ (by omega) (by omega) (by omega) (by omega) (by have := blen_div (x := x) (k := 16) (by omega); simp at this; omega)
  · exact p0 x 0 _ _ rfl rfl (by omega) (by omega) (by omega)
theorem Lz32_spec {H : Heap} {x : Nat} {xi : Int} (hx : xi = (x : Int)) (hm : x < 4294967296) :
    Tot (fun n => f_math_bits_LeadingZeros32 n [.int .u32 xi] H) fun v H' => H' = H ∧ v = .int .i64 ((32 - blen x : Nat) : Int) := by
  refine Tot.of fun Q hQ => ?_
  refine math_bits_LeadingZeros32_tot ?_
  simp only [math_bits_LeadingZeros32_b]
  refine Tot.bind (Len32_spec hx hm) ?_
  rintro v H ⟨rfl, rfl⟩
  have : blen x ≤ 32 := blen_le (by omega)
  simp (disch := first | omega | (simp only [npz, nsz, nmz] <;> omega) | (simp <;> omega) | fail) []
  exact Tot.ret (hQ _ _ ⟨rfl, by congr 1; omega⟩)
theorem nat_size_spec {H : Heap} {s : Sl} {l : List Nat} (h : Row H .u32 s l) (hm : l.length < 2000000000) (hL : Lim 4294967296 l) :
    Tot (fun n => f_nat_size n [.slice s] H) fun v H' => H' = H ∧ ∃ k : Nat, v = .int .i64 (k : Int) ∧ (k = 0 ↔ val 4294967296 l = 0) := by
  refine Tot.of fun Q hQ => ?_
  refine nat_size_tot ?_
  simp only [nat_size_b]
  refine Tot.bind (nat_trim_spec h (by omega)) ?_
  rintro v H ⟨rfl, s1, rfl, r1, -⟩
  have k1 := trimZ_len_le _ (l := l) rfl
  rw [trimZ_dig (b := 4294967296) (by decide) hL] at r1 k1
  have hLd := dig_lim (b := 4294967296) (by decide) (val 4294967296 l)
  have hT := dig_trimmed (b := 4294967296) (by decide) (val 4294967296 l)
  have hn := dig_eq_nil (b := 4294967296) (x := val 4294967296 l) (by decide)
  generalize dig 4294967296 (val 4294967296 l) = d at *
  simp (disch := first | omega | (simp only [npz, nsz, nmz] <;> omega) | (simp <;> omega) | fail) [r1.lenSl]
  refine Tot.ite (fun h0 => ?_) (fun h0 => ?_)
  · exact Tot.ret (hQ _ _ ⟨rfl, 0, rfl, by simp [← hn, h0]⟩)
  · rcases snoc_cases d with rfl | ⟨d', x, rfl⟩
    · simp at h0
    have hx := hT.last
    have hl : (d' ++ [x]).length = d'.length + 1 := by simp
    have hg := r1.get (i := d'.length) (by omega)
    rw [nth_app_len] at hg
    have hxm : x < 4294967296 := Lim.one.1 (Lim.app.1 hLd).2
    simp (disch := first | omega | (simp only [npz, nsz, nmz] <;> omega) | (simp <;> omega) | fail) [r1.idxN (i := d'.length) (by omega), hg]
    refine Tot.bind (Len32_spec rfl hxm) ?_
    rintro v H ⟨rfl, rfl⟩
    have hb : blen x ≤ 32 := blen_le (by omega)
    have hb0 : blen x ≠ 0 := by
      intro e
      have := blen_lt x
      rw [e] at this; omega
    simp (disch := first | omega | (simp only [npz, nsz, nmz] <;> omega) | (simp <;> omega) | fail) []
    refine Tot.ret (hQ _ _ ⟨rfl, 32 * d'.length + blen x, by congr 1, ?_⟩)
    have : val 4294967296 l ≠ 0 := fun e => by have := hn.2 e; simp at this
    constructor
    · intro e; omega
    · intro e; exact (this e).elim
theorem nat_Bits_spec {H : Heap} {s : Sl} {l : List Nat} (h : Row H .u32 s l) (hm : l.length < 2000000000) (hL : Lim 4294967296 l) :
    Tot (fun n => f_nat_Bits n [.slice s] H) fun v H' => H' = H ∧ ∃ k : Nat, v = .int .i64 (k : Int) ∧ (k = 0 ↔ val 4294967296 l = 0) := by
  refine Tot.of fun Q hQ => ?_
  refine nat_Bits_tot ?_
  simp only [nat_Bits_b]
  refine Tot.bind (nat_size_spec h hm hL) ?_
  rintro v H ⟨rfl, k, rfl, hk⟩
  exact Tot.ret (hQ _ _ ⟨rfl, k, rfl, hk⟩)
theorem nat_short_spec {H : Heap} {s : Sl} {l : List Nat} {b by_ : Nat} {q : List Nat} {bi : Int} (h : Mut H .u32 ty_uint32 b [] l q s) (hm : l.length < 2000000000) (hL : Lim 4294967296 l) (hbi : bi = (by_ : Int)) (hb0 : 0 < by_) (hb : by_ < 4294967296) :
    Tot (fun n => f_nat_short n [.slice s, .int .u32 bi] H) fun v H' => Ch (· = b) H H' ∧ v = .int .u32 ((val 4294967296 l % by_ : Nat) : Int) ∧ ∃ l', Mut H' .u32 ty_uint32 b [] l' q s ∧ l'.length = l.length ∧ Lim 4294967296 l' ∧ val 4294967296 l' = val 4294967296 l / by_ := by
  subst hbi
  refine Tot.of fun Q hQ => ?_
  refine nat_short_tot ?_
  simp (disch := first | omega | (simp only [npz, nsz, nmz] <;> omega) | (simp <;> omega) | fail) [h.row.lenSl]
  suffices lp : ∀ (j : Nat) (ii ri : Int) (H' : Heap) (o : List Nat) (r : Nat), ii = (j : Int) - 1 → ri = (r : Int) → j ≤ l.length → Ch (· = b) H H' → Mut H' .u32 ty_uint32 b [] o q s → o.length = l.length → Lim 4294967296 o → r < by_ → o.take j = l.take j →
      val 4294967296 (l.drop j) = val 4294967296 (o.drop j) * by_ + r → ∀ m, Big m → Tot (fun n => nat_short.l0 n (m n) (.slice s) (.int .u32 by_) (.int .u64 ri) (.int .i64 ii) H') Q by
    exact lp l.length _ _ _ l 0 rfl rfl (Nat.le_refl _) Ch.refl h rfl hL hb0 rfl (by rw [List.drop_length]; simp [val]) _ Big.id
  intro j
  induction j with
  | zero =>
    intro ii ri H' o r hii hri hj c mo ho hLo hr ht hv m hb
    subst hii hri
    refine nat_short.l0_tot hb fun m' hb' => ?_
    simp (disch := first | omega | (simp only [npz, nsz, nmz] <;> omega) | (simp <;> omega) | fail) []
    simp only [List.drop_zero] at hv
    have h2 := val_inj_div hv hr
    exact Tot.ret (hQ _ _ ⟨c, by rw [h2.2], o, mo, ho, hLo, by rw [h2.1]⟩)
  | succ j ih =>
    intro ii ri H' o r hii hri hj c mo ho hLo hr ht hv m hb
    have : ii = (j : Int) := by omega
    subst this hri
    refine nat_short.l0_tot hb fun m' hb' => ?_
    have hx := hLo.nth (i := j) (by decide)
    have hxe : nth o j = nth l j := by rw [← nth_take (l := o) (n := j + 1) (by omega), ht, nth_take (by omega)]
    simp (disch := first | omega | (simp only [npz, nsz, nmz] <;> omega) | (simp <;> omega) | fail) [mo.row.idxN (i := j) (by omega), mo.row.get, sh_l32, or_apart (a := r * 4294967296) (b := nth o j) (i := 32) (c := r)]
    have hq : (r * 4294967296 + nth o j) / by_ < 4294967296 := by
      apply (Nat.div_lt_iff_lt_mul hb0).2
      have : (r + 1) * 4294967296 ≤ by_ * 4294967296 := Nat.mul_le_mul_right _ hr
      rw [Nat.mul_comm 4294967296]; omega
    refine Tot.st mo (x := (r * 4294967296 + nth o j) / by_) (by omega) ?_ ?_
    · have e1 : ((r : Int) * 4294967296 + (nth o j : Int)) / (by_ : Int) = (((r * 4294967296 + nth o j) / by_ : Nat) : Int) := by simp
      rw [e1]
      generalize (r * 4294967296 + nth o j) / by_ = z at *
      rw [wrap_u64 (by omega), wrap_u32 (by omega)]
    intro H3 mo3 c3
    refine ih _ _ H3 _ ((r * 4294967296 + nth o j) % by_) (by omega) ?_ (by omega) (c.trans c3 fun i hi hx => hx) mo3 (by simpa using ho) (hLo.set hq) (Nat.mod_lt _ hb0) ?_ ?_ _ hb'
    · simp
    · rw [take_set_le (Nat.le_refl _)]
      have := congrArg (List.take j) ht
      simpa [List.take_take, Nat.min_eq_left (Nat.le_succ j)] using this
    · rw [val_drop_nth (by omega), drop_set_eq (by omega), ← hxe, short_step hv]
      rfl
end Go.AM
end
section
set_option linter.unusedVariables false
set_option linter.unusedSimpArgs false
set_option linter.unusedSimpArgs false
set_option linter.unusedVariables false
namespace Go.AM
theorem pow_le31 {by_ : Nat} (h : by_ ≤ 31) : 2 ^ by_ ≤ 2147483648 := by
  have := Nat.pow_le_pow_right (n := 2) (by decide) h
  omega
theorem shift_inv {b p D c x t A f V : Nat} (h : D + p * (c + f * (x + b * A)) = V) (ht : t = c + f * x) : D + p * (t % b) + p * b * (t / b + f * A) = V := by
  have := carry b p t (f * A)
  subst ht
  grind
theorem nat_shift_spec {H : Heap} {s : Sl} {l : List Nat} {by_ : Nat} {bi : Int} (h : Row H .u32 s l) (hm : l.length < 2000000000) (hL : Lim 4294967296 l) (hbi : bi = (by_ : Int)) (hb : by_ ≤ 31) :
    Tot (fun n => f_nat_shift n [.slice s, .int .i64 bi] H) fun v H' => Ext0 H H' ∧ ∃ s' d, v = .slice s' ∧ Own H' .u32 ty_uint32 s' d ∧ (∀ i, s'.has i → H.n ≤ i) ∧ d.length = l.length + 1 ∧ Lim 4294967296 d ∧ val 4294967296 d = val 4294967296 l * 2 ^ by_ := by
  subst hbi
  have hp := pow_le31 hb
  have hp0 : 0 < 2 ^ by_ := Nat.two_pow_pos by_
  refine Tot.of fun Q hQ => ?_
  refine nat_shift_tot ?_
  simp (disch := first | omega | (simp only [npz, nsz, nmz] <;> omega) | (simp <;> omega) | fail) [h.lenSl]
  suffices lp : ∀ (j i : Nat) (ii ci : Int) (H' : Heap) (so : Sl) (d : List Nat) (c : Nat), i + j = l.length → ii = (i : Int) → ci = (c : Int) → Ext0 H H' → Own H' .u32 ty_uint32 so d → (∀ i, so.has i → H.n ≤ i) → d.length = i → Lim 4294967296 d → c < 2 ^ by_ →
      val 4294967296 d + 4294967296 ^ d.length * (c + 2 ^ by_ * val 4294967296 (l.drop i)) = 2 ^ by_ * val 4294967296 l → ∀ m, Big m → Tot (fun n => nat_shift.l0 n (m n) (.int .i64 by_) (.slice so) (.int .u64 ci) (.slice s) (.int .i64 l.length) (.int .i64 ii) H') Q by
    refine lp l.length 0 _ _ _ _ [] 0 (by omega) rfl rfl Ch.push (Own.new (l := [])) (fun i hi => by rw [has_mk] at hi; omega) rfl Lim.nil hp0 (by simp [val]) _ Big.id
  intro j
  induction j with
  | zero =>
    intro i ii ci H' so d c hi hii hci c0 o f hd hLd hc hv m hb
    subst hii hci
    refine nat_shift.l0_tot hb fun m' hb' => ?_
    simp (disch := first | omega | (simp only [npz, nsz, nmz] <;> omega) | (simp <;> omega) | fail) []
    refine Tot.no (by omega) ?_
    refine nat_shift.p1_tot ?_
    simp (disch := first | omega | (simp only [npz, nsz, nmz] <;> omega) | (simp <;> omega) | fail) []
    refine Tot.app1 o (x := c) (by omega) (by omega) (by decide) (by rfl) ?_
    intro s' H2 o2 c2 f2
    refine Tot.ret (hQ _ _ ⟨c0.trans c2 fun i hi hx => by have := f i hx; omega, s', _, rfl, o2, fun i hi => ?_, by simp; omega, Lim.app.2 ⟨hLd, Lim.one.2 (by omega)⟩, ?_⟩)
    · rcases f2 i hi with h | h
      · exact f i h
      · have := c0.n; omega
    · rw [val_drop_out (l := l) (by omega)] at hv
      rw [val_snoc, Nat.mul_comm _ (2 ^ by_), ← hv]; simp
  | succ j ih =>
    intro i ii ci H' so d c hi hii hci c0 o f hd hLd hc hv m hb
    subst hii hci
    refine nat_shift.l0_tot hb fun m' hb' => ?_
    have r := h.ext c0
    have hx := hL.nth (i := i) (by decide)
    have hxy : 2 ^ by_ * (nth l i + 1) ≤ 2 ^ by_ * 4294967296 := Nat.mul_le_mul_left _ hx
    rw [Nat.mul_add] at hxy
    obtain ⟨y, hy⟩ : ∃ y, y = 2 ^ by_ * nth l i := ⟨_, rfl⟩
    have hxi : (nth l i : Int) * 2 ^ by_ = (y : Int) := by rw [hy]; simp [Int.mul_comm]
    have hor : arA .or (.int .u64 (c : Int)) (.int .u64 (y : Int)) = some (.int .u64 ((y + c : Nat) : Int)) := by
      rw [or_comm]; exact or_apart (i := by_) (c := nth l i) rfl rfl hy hc (by omega)
    simp (disch := omega) [r.idx, r.get, sh_l, hxi, hor]
    refine Tot.yes (by omega) ?_
    have ht : 2 ^ by_ * nth l i + c = c + 2 ^ by_ * nth l i := Nat.add_comm _ _
    rw [val_drop_nth (l := l) (by omega)] at hv
    have hv2 := shift_inv (t := 2 ^ by_ * nth l i + c) hv ht
    have ht2 : 2 ^ by_ * nth l i + c < 2 ^ by_ * 4294967296 := by omega
    have ht3 : (2 ^ by_ * nth l i + c) / 4294967296 < 2 ^ by_ := (Nat.div_lt_iff_lt_mul (by decide)).2 ht2
    rw [← hy] at hv2 ht2 ht3
    refine Tot.app1 o (x := (y + c) % 4294967296) (by omega) (by rw [wrap_u32m]; omega) (by decide) (by rfl) ?_
    intro s' H2 o2 c2 f2
    refine ih (i + 1) _ _ H2 s' _ ((y + c) / 4294967296) (by omega) (by omega) (by omega) (c0.trans c2 fun i hi hx => by have := f i hx; omega) o2
      (fun i hi => by rcases f2 i hi with h | h; exact f i h; have := c0.n; omega) (by simp; omega) (Lim.app.2 ⟨hLd, Lim.one.2 (Nat.mod_lt _ (by decide))⟩) ht3 ?_ _ hb'
    rw [val_snoc, List.length_append, List.length_singleton, Nat.pow_succ]
    exact hv2
theorem guess_dec {W U3 V2 q : Nat} (h : ¬ q * V2 ≤ U3 ∨ W ≤ q) (hm : ∀ t, t < W → t * V2 ≤ U3 → t ≤ q) : ∀ t, t < W → t * V2 ≤ U3 → t ≤ q - 1 := by
  intro t ht hle
  have h1 := hm t ht hle
  rcases h with h | h
  · have : t ≠ q := by intro e; subst e; exact h hle
    omega
  · omega
theorem nat_guess_spec {H : Heap} {s : Sl} {l : List Nat} {top next k : Nat} {ti ni : Int} (h : Row H .u32 s l) (hl : l.length = k + 3) (hm : l.length < 2000000000) (hL : Lim 4294967296 l) (hti : ti = (top : Int)) (hni : ni = (next : Int))
    (ht1 : 2147483648 ≤ top) (ht2 : top < 4294967296) (hn : next < 4294967296) (hu : nth l (k + 2) ≤ top) :
    Tot (fun n => f_nat_guess n [.slice s, .int .u64 ti, .int .u64 ni] H) fun v H' => H' = H ∧ ∃ q : Nat, v = .int .u64 (q : Int) ∧ Guess 4294967296 ((nth l (k + 2) * 4294967296 + nth l (k + 1)) * 4294967296 + nth l k) (top * 4294967296 + next) q := by
  subst hti hni
  have h2 := hL.nth (i := k + 2) (by decide)
  have h1 := hL.nth (i := k + 1) (by decide)
  have h0 := hL.nth (i := k) (by decide)
  refine Tot.of fun Q hQ => ?_
  refine nat_guess_tot ?_
  simp (disch := first | omega | (simp only [npz, nsz, nmz] <;> omega) | (simp <;> omega) | fail) [h.lenSl, h.idxN (i := k + 2) (by omega), h.idxN (i := k + 1) (by omega), h.get, sh_l32, or_apart (a := nth l (k + 2) * 4294967296) (b := nth l (k + 1)) (i := 32) (c := nth l (k + 2))]
  generalize nth l (k + 2) = u2 at *
  generalize nth l (k + 1) = u1 at *
  suffices lp : ∀ (j q r : Nat) (qi ri : Int), q ≤ j → qi = (q : Int) → ri = (r : Int) → u2 * 4294967296 + u1 = q * top + r → r < 4294967296 → (∀ t, t < 4294967296 → t * (top * 4294967296 + next) ≤ (u2 * 4294967296 + u1) * 4294967296 + nth l k → t ≤ q) → ∀ m, Big m →
      Tot (fun n => nat_guess.l0 n (m n) (.slice s) (.int .u64 top) (.int .u64 next) (.int .i64 ((l.length : Int) - 1)) (.int .u64 qi) (.int .u64 ri) H) Q by
    have hd := Nat.div_add_mod (u2 * 4294967296 + u1) top
    have hr := Nat.mod_lt (u2 * 4294967296 + u1) (show top > 0 by omega)
    refine lp _ ((u2 * 4294967296 + u1) / top) ((u2 * 4294967296 + u1) % top) _ _ (Nat.le_refl _) ?_ ?_ (by rw [Nat.mul_comm ((u2 * 4294967296 + u1) / top)]; omega) (by omega) ?_ _ Big.id
    · have hlt : (u2 * 4294967296 + u1) / top < 8589934592 := (Nat.div_lt_iff_lt_mul (by omega)).2 (by omega)
      have e1 : ((u2 : Int) * 4294967296 + (u1 : Int)) / (top : Int) = (((u2 * 4294967296 + u1) / top : Nat) : Int) := by simp
      rw [e1]; generalize (u2 * 4294967296 + u1) / top = z at *
      rw [wrap_u64 (by omega)]
    · simp
    · intro t ht hle
      apply (Nat.le_div_iff_mul_le (by omega)).2
      have : (t * top) * 4294967296 ≤ (u2 * 4294967296 + u1) * 4294967296 + nth l k := by
        have e : t * (top * 4294967296 + next) = (t * top) * 4294967296 + t * next := by grind
        omega
      omega
  intro j
  induction j with
  | zero =>
    intro q r qi ri hj hqi hri hv hr hmx m hb
    have : q = 0 := by omega
    subst this hqi hri
    refine nat_guess.l0_tot hb fun m' hb' => ?_
    have hlen : (l.length : Int) - 1 - 2 = (k : Int) := by omega
    simp (disch := omega) [hlen, h.idx, h.get, sh_l32, or32]
    refine Tot.no (by omega) ?_
    exact Tot.ret (hQ _ _ ⟨rfl, 0, rfl, by decide, by simp, hmx⟩)
  | succ j ih =>
    intro q r qi ri hj hqi hri hv hr hmx m hb
    subst hqi hri
    have hqt : (u2 * 4294967296 + u1) < (4294967296 + 2) * top := by
      have : u2 * 4294967296 ≤ top * 4294967296 := Nat.mul_le_mul_right _ hu
      omega
    have hq2 : q < 4294967296 + 2 := by
      apply Nat.lt_of_mul_lt_mul_right (a := top)
      omega
    have dec : 0 < q → (¬ q * (top * 4294967296 + next) ≤ (u2 * 4294967296 + u1) * 4294967296 + nth l k ∨ 4294967296 ≤ q) → ∀ m', Big m' → ∀ w : Int, w = (q : Int) - 1 →
        Tot (fun n => if (4294967296 ≤ (r : Int) + top) then some (.int .u64 (w), H) else nat_guess.l0 n (m' n) (.slice s) (.int .u64 top) (.int .u64 next) (.int .i64 ((l.length : Int) - 1)) (.int .u64 (w)) (.int .u64 ((r : Int) + top)) H) Q := by
      intro hq0 hlt m' hb' w hw
      subst hw
      have hmx' := guess_dec hlt hmx
      obtain ⟨p, rfl⟩ : ∃ p, q = p + 1 := ⟨q - 1, by omega⟩
      rw [show p + 1 - 1 = p from rfl] at hmx'
      have hv' : u2 * 4294967296 + u1 = p * top + (r + top) := by rw [hv]; grind
      refine Tot.ite (fun h => ?_) (fun h => ?_)
      · have hpt : p < 4294967296 := by
          rcases Nat.lt_or_ge p 4294967296 with h1 | h1
          · exact h1
          · have e1 : 4294967296 * top ≤ p * top := Nat.mul_le_mul_right _ h1
            have e2 : u2 * 4294967296 ≤ top * 4294967296 := Nat.mul_le_mul_right _ hu
            omega
        refine Tot.ret (hQ _ _ ⟨rfl, p, by congr 1; omega, hpt, ?_, hmx'⟩)
        have e3 : p * next ≤ 4294967295 * 4294967295 := Nat.mul_le_mul (by omega) (by omega)
        have e4 : p * (top * 4294967296 + next) = (p * top) * 4294967296 + p * next := by grind
        rw [e4, hv']; omega
      · exact ih p (r + top) _ _ (by omega) (by omega) (by omega) hv' (by omega) hmx' _ hb'
    refine nat_guess.l0_tot hb fun m' hb' => ?_
    have e4 : q * (top * 4294967296 + next) = (q * top) * 4294967296 + q * next := by grind
    have hlen : (l.length : Int) - 1 - 2 = (k : Int) := by omega
    simp (disch := omega) [hlen, h.idx, h.get, sh_l32, or32]
    refine Tot.ite (fun h => ?_) (fun h => ?_)
    · exact dec (by omega) (.inr (by omega)) _ hb' _ rfl
    · have e5 : q * next ≤ 4294967295 * 4294967295 := Nat.mul_le_mul (by omega) (by omega)
      simp (disch := first | omega | (simp only [npz, nsz, nmz] <;> omega) | (simp <;> omega) | fail) []
      refine Tot.ite (fun h2 => ?_) (fun h2 => ?_)
      · have hq0 : 0 < q := by
          rcases Nat.eq_zero_or_pos q with h0 | h0
          · subst h0; simp at h2; omega
          · exact h0
        refine dec hq0 (.inl ?_) _ hb' _ (wrap_u64 (by omega))
        · rw [e4, hv]; omega
      · exact Tot.ret (hQ _ _ ⟨rfl, q, rfl, by omega, by rw [e4, hv]; omega, hmx⟩)
end Go.AM
end
section
set_option linter.unusedVariables false
set_option linter.unusedSimpArgs false
set_option linter.unusedSimpArgs false
set_option linter.unusedVariables false
namespace Go.AM
theorem off_inv {p W O O' x z qq V y c d t d' L : Nat} (hs : O' + p * x = O + p * z) (hv : O + qq * V = L + p * (c + d)) (ht : t = c + qq * y) (hz : x + W * d' = z + t % W + d) :
    O' + qq * (V + p * y) = L + p * W * (t / W + d') := by
  have h1 := Nat.mod_add_div t W
  generalize t / W = a at *
  generalize t % W = e at *
  have h2 : p * (x + W * d') = p * (z + e + d) := by rw [hz]
  have h3 : p * (e + W * a) = p * (c + qq * y) := by rw [h1, ht]
  grind
theorem nat_off_spec {H : Heap} {s t : Sl} {b : Nat} {p l q lv : List Nat} {qq : Nat} {qi : Int} (h : Mut H .u32 ty_uint32 b p l q s) (h' : Row H .u32 t lv) (ht : ¬ t.has b) (hm : l.length < 2000000000) (hl : l.length = lv.length + 1) (hL : Lim 4294967296 l) (hL' : Lim 4294967296 lv)
    (hqi : qi = (qq : Int)) (hq : qq < 4294967296) :
    Tot (fun n => f_nat_off n [.slice s, .slice t, .int .u64 qi] H) fun v H' => Ch (· = b) H H' ∧ ∃ (l' : List Nat) (f : Nat), v = .bool (decide (f ≠ 0)) ∧ f ≤ 1 ∧ Mut H' .u32 ty_uint32 b p l' q s ∧ l'.length = l.length ∧ Lim 4294967296 l' ∧ val 4294967296 l' + qq * val 4294967296 lv = val 4294967296 l + 4294967296 ^ l.length * f := by
  subst hqi
  refine Tot.of fun Q hQ => ?_
  refine nat_off_tot ?_
  simp (disch := first | omega | (simp only [npz, nsz, nmz] <;> omega) | (simp <;> omega) | fail) [h.row.lenSl]
  suffices lp : ∀ (j i : Nat) (ii ci di : Int) (H' : Heap) (o : List Nat) (c d : Nat), i + j = l.length → ii = (i : Int) → ci = (c : Int) → di = (d : Int) → Ch (· = b) H H' → Mut H' .u32 ty_uint32 b p o q s → o.length = l.length → Lim 4294967296 o → c < 4294967296 → d ≤ 1 → (i = l.length → c = 0) →
      val 4294967296 o + qq * val 4294967296 (lv.take i) = val 4294967296 l + 4294967296 ^ i * (c + d) → ∀ m, Big m → Tot (fun n => nat_off.l0 n (m n) (.slice s) (.slice t) (.int .u64 qq) (.int .u64 ci) (.int .u64 di) (.int .i64 l.length) (.int .i64 ii) H') Q by
    exact lp l.length 0 _ _ _ _ l 0 0 (by omega) rfl rfl rfl Ch.refl h rfl hL (by decide) (by omega) (fun _ => rfl) (by simp [val]) _ Big.id
  intro j
  induction j with
  | zero =>
    intro i ii ci di H' o c d hi hii hci hdi c0 mo ho hLo hc hd hce hv m hb
    subst hii hci hdi
    have : c = 0 := hce (by omega)
    subst this
    refine nat_off.l0_tot hb fun m' hb' => ?_
    simp (disch := omega) []
    refine Tot.no (by omega) ?_
    rw [List.take_of_length_le (by omega), show i = l.length by omega, Nat.zero_add] at hv
    refine Tot.ret (hQ _ _ ⟨c0, o, d, ?_, hd, mo, ho, hLo, hv⟩)
    congr 1
    by_cases h0 : d = 0 <;> simp [h0]
  | succ j ih =>
    intro i ii ci di H' o c d hi hii hci hdi c0 mo ho hLo hc hd hce hv m hb
    subst hii hci hdi
    have r' := h'.ch c0 fun i hi e => ht (e ▸ hi)
    have hx := hLo.nth (i := i) (by decide)
    have step : ∀ (y : Nat) (w : Int) (tt : Nat), tt = c + qq * y → w = (tt : Int) → tt < 18446744073709551616 → tt / 4294967296 < 4294967296 → (i + 1 = l.length → tt / 4294967296 = 0) → val 4294967296 (lv.take (i + 1)) = val 4294967296 (lv.take i) + 4294967296 ^ i * y → ∀ m', Big m' →
        Tot (fun n => nat_off.p1 n (m' n) (.slice s) (.slice t) (.int .u64 qq) (.int .u64 w) (.int .u64 d) (.int .i64 i) (.int .i64 l.length) (.int .i64 i) H') Q := by
      intro y w tt htt hw htm htd hte hvt m' hb'
      subst hw
      refine nat_off.p1_tot ?_
      have hw2 : ∀ z : Int, IntKind.u64.wrap z = z % 18446744073709551616 := wrap_u64m
      simp (disch := omega) [mo.row.idxN (i := i) (by omega), mo.row.get]
      refine Tot.st mo (x := (nth o i + 2 * 4294967296 - tt % 4294967296 - d) % 4294967296) (by omega) (by simp only [wrap_u32m, wrap_u64m]; omega) ?_
      intro H3 mo3 c3
      have hz : nth o i + 4294967296 * (if nth o i < tt % 4294967296 + d then 1 else 0) = (nth o i + 2 * 4294967296 - tt % 4294967296 - d) % 4294967296 + tt % 4294967296 + d := by split <;> omega
      refine ih (i + 1) _ _ _ H3 _ (tt / 4294967296) (if nth o i < tt % 4294967296 + d then 1 else 0) (by omega) (by omega) (by omega) ?_ (c0.trans c3 fun i hi hx => hx) mo3 (by simpa using ho) (hLo.set (Nat.mod_lt _ (by decide))) htd (by split <;> omega) hte ?_ _ hb'
      · simp only [wrap_u32m, wrap_u64m]; split <;> omega
      · rw [hvt, Nat.pow_succ]
        exact off_inv (val_set (b := 4294967296) (by omega)) hv htt hz
    refine nat_off.l0_tot hb fun m' hb' => ?_
    simp (disch := omega) [r'.lenSl]
    refine Tot.yes (by omega) ?_
    refine Tot.ite (fun hlt => ?_) (fun hlt => ?_)
    · have hy := hL'.nth (i := i) (by decide)
      have hxy : qq * nth lv i ≤ 4294967295 * 4294967295 := Nat.mul_le_mul (by omega) (by omega)
      obtain ⟨y, hye⟩ : ∃ y, y = qq * nth lv i := ⟨_, rfl⟩
      have hyi : (qq : Int) * (nth lv i : Int) = (y : Int) := by rw [hye]; simp
      rw [← hye] at hxy
      simp (disch := omega) [r'.idx, r'.get, hyi]
      refine step (nth lv i) _ (c + y) (by rw [hye]) (by omega) (by omega) (by omega) (by omega) ?_ _ hb'
      rw [take_succ_nth (by omega), val_snoc]; simp [Nat.min_eq_left (show i ≤ lv.length by omega)]
    · refine step 0 _ c (by omega) rfl (by omega) (by omega) (by omega) ?_ _ hb'
      rw [List.take_of_length_le (by omega), List.take_of_length_le (by omega)]; omega
theorem back_inv {p W O O' x V y c t L : Nat} (hs : O' + p * x = O + p * (t % W)) (hv : O + p * c = L + V) (ht : t = c + x + y) : O' + p * W * (t / W) = L + (V + p * y) := by
  have h1 := carry W p t 0
  subst ht
  grind
theorem nat_back_spec {H : Heap} {s t : Sl} {b : Nat} {p l q lv : List Nat} (h : Mut H .u32 ty_uint32 b p l q s) (h' : Row H .u32 t lv) (ht : ¬ t.has b) (hm : l.length < 2000000000) (hl : l.length = lv.length + 1) (hL : Lim 4294967296 l) (hL' : Lim 4294967296 lv) :
    Tot (fun n => f_nat_back n [.slice s, .slice t] H) fun v H' => Ch (· = b) H H' ∧ ∃ (l' : List Nat) (f : Nat), f ≤ 1 ∧ Mut H' .u32 ty_uint32 b p l' q s ∧ l'.length = l.length ∧ Lim 4294967296 l' ∧ val 4294967296 l' + 4294967296 ^ l.length * f = val 4294967296 l + val 4294967296 lv := by
  refine Tot.of fun Q hQ => ?_
  refine nat_back_tot ?_
  simp (disch := first | omega | (simp only [npz, nsz, nmz] <;> omega) | (simp <;> omega) | fail) [h.row.lenSl]
  suffices lp : ∀ (j i : Nat) (ii ci : Int) (H' : Heap) (o : List Nat) (c : Nat), i + j = l.length → ii = (i : Int) → ci = (c : Int) → Ch (· = b) H H' → Mut H' .u32 ty_uint32 b p o q s → o.length = l.length → Lim 4294967296 o → c ≤ 1 →
      val 4294967296 o + 4294967296 ^ i * c = val 4294967296 l + val 4294967296 (lv.take i) → ∀ m, Big m → Tot (fun n => nat_back.l0 n (m n) (.slice s) (.slice t) (.int .u64 ci) (.int .i64 l.length) (.int .i64 ii) H') Q by
    exact lp l.length 0 _ _ _ l 0 (by omega) rfl rfl Ch.refl h rfl hL (by omega) (by simp [val]) _ Big.id
  intro j
  induction j with
  | zero =>
    intro i ii ci H' o c hi hii hci c0 mo ho hLo hc hv m hb
    subst hii hci
    refine nat_back.l0_tot hb fun m' hb' => ?_
    simp (disch := omega) []
    refine Tot.no (by omega) ?_
    rw [List.take_of_length_le (by omega), show i = l.length by omega] at hv
    exact Tot.ret (hQ _ _ ⟨c0, o, c, hc, mo, ho, hLo, hv⟩)
  | succ j ih =>
    intro i ii ci H' o c hi hii hci c0 mo ho hLo hc hv m hb
    subst hii hci
    have r' := h'.ch c0 fun i hi e => ht (e ▸ hi)
    have hx := hLo.nth (i := i) (by decide)
    have step : ∀ (y : Nat) (w : Int) (tt : Nat), tt = c + nth o i + y → w = (tt : Int) → y < 4294967296 → val 4294967296 (lv.take (i + 1)) = val 4294967296 (lv.take i) + 4294967296 ^ i * y → ∀ m', Big m' →
        Tot (fun n => nat_back.p1 n (m' n) (.slice s) (.slice t) (.int .u64 w) (.int .i64 i) (.int .i64 l.length) (.int .i64 i) H') Q := by
      intro y w tt htt hw hy hvt m' hb'
      subst hw
      refine nat_back.p1_tot ?_
      simp (disch := omega) [mo.row.idxN (i := i) (by omega)]
      refine Tot.st mo (x := tt % 4294967296) (by omega) (by simp only [wrap_u32m]; omega) ?_
      intro H3 mo3 c3
      refine ih (i + 1) _ _ H3 _ (tt / 4294967296) (by omega) (by omega) (by omega) (c0.trans c3 fun i hi hx => hx) mo3 (by simpa using ho) (hLo.set (Nat.mod_lt _ (by decide))) (by omega) ?_ _ hb'
      rw [hvt, Nat.pow_succ]
      exact back_inv (val_set (b := 4294967296) (by omega)) hv htt
    refine nat_back.l0_tot hb fun m' hb' => ?_
    simp (disch := omega) [r'.lenSl, mo.row.idxN (i := i) (by omega), mo.row.get]
    refine Tot.yes (by omega) ?_
    refine Tot.ite (fun hlt => ?_) (fun hlt => ?_)
    · have hy := hL'.nth (i := i) (by decide)
      simp (disch := omega) [r'.idx, r'.get]
      refine step (nth lv i) _ (c + nth o i + nth lv i) rfl (by omega) hy ?_ _ hb'
      rw [take_succ_nth (by omega), val_snoc]; simp [Nat.min_eq_left (show i ≤ lv.length by omega)]
    · refine step 0 _ (c + nth o i) rfl (by omega) (by omega) ?_ _ hb'
      rw [List.take_of_length_le (by omega), List.take_of_length_le (by omega)]; omega
end Go.AM
end
section
set_option linter.unusedVariables false
set_option linter.unusedSimpArgs false
set_option linter.unusedSimpArgs false
set_option linter.unusedVariables false
namespace Go.AM
theorem val_three {b k : Nat} {l : List Nat} (h : l.length = k + 3) : val b l = b ^ k * ((nth l (k + 2) * b + nth l (k + 1)) * b + nth l k) + val b (l.take k) := by
  rw [val_take_drop (n := k) (by omega), val_drop_nth (by omega), val_drop_nth (by omega), val_drop_nth (by omega), val_drop_out (by omega)]
  grind
theorem val_two {b k : Nat} {l : List Nat} (h : l.length = k + 2) : val b l = b ^ k * (nth l (k + 1) * b + nth l k) + val b (l.take k) := by
  rw [val_take_drop (n := k) (by omega), val_drop_nth (by omega), val_drop_nth (by omega), val_drop_out (by omega)]
  grind
theorem val_top_le {b k top : Nat} {l : List Nat} {V r : Nat} (h : l.length = k + 1) (hV : V = b ^ k * top + r) (hr : r < b ^ k) (hlt : val b l < V) : nth l k ≤ top := by
  rw [val_take_drop (n := k) (by omega), val_drop_nth (by omega), val_drop_out (by omega)] at hlt
  apply Nat.le_of_not_lt
  intro h1
  have : b ^ k * (top + 1) ≤ b ^ k * nth l k := Nat.mul_le_mul_left _ h1
  rw [Nat.mul_add] at this
  simp at hlt
  omega
theorem drop_zero_of_lt {b n : Nat} {l : List Nat} (hn : n ≤ l.length) (h : val b l < b ^ n) : val b (l.drop n) = 0 := by
  rw [val_take_drop hn] at h
  rcases Nat.eq_zero_or_pos (val b (l.drop n)) with h0 | h0
  · exact h0
  · have : b ^ n * 1 ≤ b ^ n * val b (l.drop n) := Nat.mul_le_mul_left _ h0
    omega
theorem long_step {M U V q t f f2 P1 P2 : Nat} (ht : t = U / V) (hV : 0 < V) (h1 : t ≤ q) (h2 : q ≤ t + 1) (ho : P1 + q * V = U + M * f) (hP1 : P1 < M) (hVM : V ≤ M) :
    (f = 0 → q = t ∧ P1 = U % V) ∧ (f = 1 → q = t + 1 ∧ (P2 + M * f2 = P1 + V → f2 ≤ 1 → P2 < M → P2 = U % V)) := by
  have hd := Nat.div_add_mod U V
  have hr := Nat.mod_lt U hV
  rw [← ht, Nat.mul_comm] at hd
  generalize U % V = r at *
  clear ht
  have hq : q = t ∨ q = t + 1 := by omega
  have e2 : (t + 1) * V = t * V + V := by grind
  constructor
  · intro hf
    subst hf
    rcases hq with rfl | rfl
    · exact ⟨rfl, by omega⟩
    · omega
  · intro hf
    subst hf
    rcases hq with rfl | rfl
    · omega
    · refine ⟨rfl, fun h3 h4 h5 => ?_⟩
      have : f2 = 0 ∨ f2 = 1 := by omega
      rcases this with rfl | rfl <;> omega
theorem shr_word {f g W x X : Nat} (hf : 0 < f) (hfg : W = f * g) (hg : 0 < g) (hx : x < W) : (x + W * X) / f = ((X % W) * W + x) / f % W + W * (X / f) := by
  have hW : 0 < W := by rw [hfg]; exact Nat.mul_pos hf hg
  have h1 := Nat.div_add_mod X W
  have h2 := Nat.mod_lt X hW
  generalize X % W = x' at *
  generalize X / W = Y at *
  subst h1
  have h3 := Nat.div_add_mod ((x' * W + x) / f) W
  have h4 : (x' * W + x) / f / W = x' / f := by
    rw [Nat.div_div_eq_div_mul, Nat.mul_comm f W, ← Nat.div_div_eq_div_mul, Nat.mul_comm x' W, Nat.mul_add_div hW, Nat.div_eq_of_lt hx, Nat.add_zero]
  rw [h4] at h3
  have h5 : x + W * (W * Y + x') = (x' * W + x) + f * (g * W * Y) := by rw [show f * (g * W * Y) = (f * g) * W * Y by grind, ← hfg]; grind
  have h6 : W * Y + x' = x' + f * (g * Y) := by rw [show f * (g * Y) = (f * g) * Y by grind, ← hfg]; grind
  rw [h5, h6, Nat.add_mul_div_left _ _ hf, Nat.add_mul_div_left _ _ hf]
  generalize (x' * W + x) / f % W = z at *
  generalize (x' * W + x) / f = y at *
  generalize x' / f = u at *
  subst h3
  grind
theorem long_math {b k V : Nat} (hb : 2 ≤ b) {pp w : List Nat} (hpl : pp.length = k + 3) (hlen : w.length = k + 2) (hLp : Lim b pp) (Lvv : Lim b w) (hvv : val b w = V) (htop : 1 ≤ nth w (k + 1)) (hd : val b (pp.drop 1) < V) :
    nth pp (k + 2) ≤ nth w (k + 1) ∧ val b pp < b * V ∧ 0 < V ∧ V ≤ b ^ (k + 3) ∧ ∀ q, Guess b ((nth pp (k + 2) * b + nth pp (k + 1)) * b + nth pp k) (nth w (k + 1) * b + nth w k) q → val b pp / V ≤ q ∧ q ≤ val b pp / V + 1 := by
  have hV0 : 0 < V := by omega
  have hp0 : 0 < b ^ k := Nat.pow_pos (by omega)
  have v2 := val_two (b := b) hlen
  rw [hvv] at v2
  have hr2 : val b (w.take k) < b ^ k := by
    have := val_lt (Lvv.take (n := k)); rwa [show (w.take k).length = k by simp; omega] at this
  have hUV : val b pp < b * V := by
    have h3 := hLp.nth (i := 0) (by omega)
    have h4 : b * (val b (pp.drop 1) + 1) ≤ b * V := Nat.mul_le_mul_left _ hd
    have h5 := val_drop_nth (b := b) (l := pp) (i := 0) (by omega)
    rw [List.drop_zero, Nat.zero_add] at h5
    rw [Nat.mul_add] at h4
    omega
  refine ⟨?_, hUV, hV0, ?_, ?_⟩
  · have e1 : nth (pp.drop 1) (k + 1) = nth pp (k + 2) := by rw [nth_drop]; congr 1; omega
    rw [← e1]
    refine val_top_le (b := b) (V := V) (r := val b (w.take (k + 1))) (by simp; omega) ?_ ?_ hd
    · have h6 := val_take_drop (b := b) (n := k + 1) (l := w) (by omega)
      rw [val_drop_nth (by omega), val_drop_out (l := w) (by omega), hvv] at h6
      rw [h6]; simp; omega
    · have := val_lt (Lvv.take (n := k + 1)); rwa [show (w.take (k + 1)).length = k + 1 by simp; omega] at this
  · have h7 := val_lt Lvv
    rw [hvv, hlen] at h7
    have : b ^ (k + 2) ≤ b ^ (k + 3) := Nat.pow_le_pow_right (by omega) (by omega)
    omega
  · intro q hg
    have v3 := val_three (b := b) hpl
    have hu3 : val b (pp.take k) < b ^ k := by
      have := val_lt (hLp.take (n := k)); rwa [show (pp.take k).length = k by simp; omega] at this
    have hWp : b * b ^ k ≤ V := by
      rw [v2]
      have h8 : 1 * b ≤ nth w (k + 1) * b := Nat.mul_le_mul_right _ htop
      have : b ^ k * b ≤ b ^ k * (nth w (k + 1) * b + nth w k) := Nat.mul_le_mul_left _ (by omega)
      rw [Nat.mul_comm b (b ^ k)]; omega
    exact ⟨guess_lo hg hp0 v2 v3 hu3 hUV, guess_hi hg v2 v3 hr2 hWp hV0⟩
theorem part_math {b j k V : Nat} {uu : List Nat} (hjk : j + (k + 2) + 1 ≤ uu.length) (hlt : val b (uu.drop (j + 1)) < V) (hV : V ≤ b ^ (k + 2)) :
    val b (uu.drop (j + 1)) = val b (((uu.drop j).take (j + (k + 2) + 1 - j)).drop 1) ∧ val b (uu.drop j) = val b ((uu.drop j).take (j + (k + 2) + 1 - j)) ∧ val b (uu.drop (j + (k + 2) + 1)) = 0 := by
  have e0 := drop_zero_of_lt (n := k + 2) (l := uu.drop (j + 1)) (by simp; omega) (Nat.lt_of_lt_of_le hlt hV)
  refine ⟨?_, ?_, ?_⟩
  · rw [val_take_drop (n := k + 2) (l := uu.drop (j + 1)) (by simp; omega), e0, List.drop_take, List.drop_drop]
    simp
    congr 2
    omega
  · rw [List.drop_drop] at e0
    rw [val_take_drop (n := k + 3) (l := uu.drop j) (by simp; omega), List.drop_drop, show j + (k + 3) = j + 1 + (k + 2) by omega, e0, show j + (k + 2) + 1 - j = k + 3 by omega]
    simp
  · rw [List.drop_drop, show j + 1 + (k + 2) = j + (k + 2) + 1 by omega] at e0; exact e0
structure LongAt (b j k N V : Nat) (du uu qs : List Nat) : Prop where
  jN : j ≤ N
  lu : uu.length = N + k + 2
  ld : du.length = N + k + 2
  lq : qs.length = N
  Lu : Lim b uu
  Lq : Lim b qs
  take : uu.take j = du.take j
  eq : val b (du.drop j) = val b (qs.drop j) * V + val b (uu.drop j)
  lt : val b (uu.drop j) < V
theorem LongAt.next {b j k N V : Nat} {du uu qs p2 : List Nat} (h : LongAt b (j + 1) k N V du uu qs) (hV : V ≤ b ^ (k + 2)) (hl : p2.length = k + 3) (hL : Lim b p2) (hm : val b p2 = val b ((uu.drop j).take (j + (k + 2) + 1 - j)) % V) (hq : val b ((uu.drop j).take (j + (k + 2) + 1 - j)) / V < b) :
    LongAt b j k N V du (uu.take j ++ p2 ++ uu.drop (j + (k + 2) + 1)) (qs.set j (val b ((uu.drop j).take (j + (k + 2) + 1 - j)) / V)) := by
  have hjN := h.jN
  have hlu := h.lu
  have hld := h.ld
  have hlq := h.lq
  obtain ⟨e1, e2, e3⟩ := part_math (k := k) (j := j) (by omega) h.lt hV
  have hV0 : 0 < V := Nat.lt_of_le_of_lt (Nat.zero_le _) h.lt
  have ml : (uu.take j).length = j := by simp; omega
  have hd2 : (uu.take j ++ p2 ++ uu.drop (j + (k + 2) + 1)).drop j = p2 ++ uu.drop (j + (k + 2) + 1) := by
    rw [List.append_assoc, List.drop_left' ml]
  refine ⟨by omega, by simp; omega, hld, by simpa using hlq, Lim.app.2 ⟨Lim.app.2 ⟨h.Lu.take, hL⟩, h.Lu.drop⟩, h.Lq.set hq, ?_, ?_, ?_⟩
  · rw [List.append_assoc, List.take_left' ml]
    have := congrArg (List.take j) h.take
    simpa [List.take_take, Nat.min_eq_left (Nat.le_succ j)] using this
  · have hpj : nth uu j = nth du j := by rw [← nth_take (l := uu) (n := j + 1) (by omega), h.take, nth_take (by omega)]
    have hU : val b (uu.drop j) = nth uu j + b * val b (uu.drop (j + 1)) := val_drop_nth (by omega)
    rw [hd2, val_app, e3, drop_set_eq (by omega), hm, val_drop_nth (l := du) (by omega), h.eq, ← hpj, val_cons]
    have e4 := Nat.div_add_mod (val b (uu.drop j)) V
    rw [← e2]
    generalize val b (uu.drop j) / V = a at *
    generalize val b (uu.drop j) % V = d at *
    simp only [Nat.mul_zero, Nat.add_zero]
    rw [hU] at e4
    clear hm hq e1 e2 e3 h
    grind
  · rw [hd2, val_app, e3, hm]
    simpa using Nat.mod_lt _ hV0
theorem long_loop {H3 : Heap} {k N V by_ bu bq : Nat} {du w : List Nat} {su sv sq : Sl} {Q : AM.V → Heap → Prop} (rv : Row H3 .u32 sv w) (hvu : ¬ sv.has bu) (hvq : ¬ sv.has bq) (hne : bu ≠ bq) (hlen : w.length = k + 2) (Lvv : Lim 4294967296 w) (hvv : val 4294967296 w = V) (htop : 2147483648 ≤ nth w (k + 1)) (hsz : N + k + 3 < 2000000000)
    (hus : su.ad = some (bu, 0)) (hue : su.esz = 1) (hul : su.len = N + k + 2)
    (fin : ∀ (H' : Heap) (uu qs : List Nat), Ch (fun i => i = bu ∨ i = bq) H3 H' → Mut H' .u32 ty_uint32 bu [] uu [] su → Mut H' .u32 ty_uint32 bq [] qs [] sq → LongAt 4294967296 0 k N V du uu qs → Tot (fun n => nat_long.p1 n (.int .i64 by_) (.slice su) (.slice sq) H') Q) :
    ∀ (j : Nat) (ii : Int) (H' : Heap) (uu qs : List Nat), ii = (j : Int) - 1 → Ch (fun i => i = bu ∨ i = bq) H3 H' → Mut H' .u32 ty_uint32 bu [] uu [] su → Mut H' .u32 ty_uint32 bq [] qs [] sq → LongAt 4294967296 j k N V du uu qs → ∀ m, Big m →
      Tot (fun n => nat_long.l0 n (m n) (.int .i64 by_) (.slice su) (.slice sv) (.int .i64 ((k : Int) + 2)) (.slice sq) (.int .u64 (nth w (k + 1))) (.int .u64 (nth w k)) (.int .i64 ii) H') Q := by
  intro j
  induction j with
  | zero =>
    intro ii H' uu qs hii c mu mq hA m hb
    subst hii
    refine nat_long.l0_tot hb fun m' hb' => ?_
    simp (disch := omega) []
    exact fin H' uu qs c mu mq hA
  | succ j ih =>
    intro ii H' uu qs hii c mu mq hA m hb
    have : ii = (j : Int) := by omega
    subst this
    have hjN := hA.jN
    have hlu := hA.lu
    have hlq := hA.lq
    have hVm : V ≤ 4294967296 ^ (k + 2) := by have := val_lt Lvv; rw [hvv, hlen] at this; omega
    have hjk : (j + (k + 2) + 1) ≤ uu.length := by omega
    have pt := mu.cut (i := j) (j := j + (k + 2) + 1) (by omega) hjk
    have rv' := rv.ch c fun i hi e => by rcases e with e | e <;> subst e <;> contradiction
    have hsl : slSl 1 (.slice su) (some (.int .i64 (j : Int))) (some (.int .i64 ((j : Int) + ((k : Int) + 2) + 1))) = some (.slice (subS su j (j + (k + 2) + 1))) :=
      mu.row.slice (by simp) (by rw [bndA_int (by omega)]; congr 1) (by omega) hjk
    obtain ⟨e1, e2, e3⟩ := part_math (k := k) (j := j) (by omega) hA.lt hVm
    have nx := fun p2 => hA.next (p2 := p2) hVm
    have hpl : ((uu.drop j).take (j + (k + 2) + 1 - j)).length = k + 3 := by simp; omega
    have hLp : Lim 4294967296 ((uu.drop j).take (j + (k + 2) + 1 - j)) := (hA.Lu.drop).take
    have hlt := hA.lt
    rw [e1] at hlt
    generalize (uu.drop j).take (j + (k + 2) + 1 - j) = pp at *
    have hmath := long_math (by decide) hpl hlen hLp Lvv hvv (by omega) hlt
    clear hlt e1 e2 e3
    obtain ⟨hpt2, hUV, hV0, hVM, hgg⟩ := hmath
    have htm := Lvv.nth (i := k + 1) (by decide)
    have hnm := Lvv.nth (i := k) (by decide)
    have htlt : val 4294967296 pp / V < 4294967296 := (Nat.div_lt_iff_lt_mul hV0).2 hUV
    have go : ∀ (H5 : Heap) (p2 : List Nat), Ch (· = bu) H' H5 → Mut H5 .u32 ty_uint32 bu (uu.take j) p2 (uu.drop (j + (k + 2) + 1)) (subS su j (j + (k + 2) + 1)) → p2.length = k + 3 → Lim 4294967296 p2 → val 4294967296 p2 = val 4294967296 pp % V →
        ∀ wi : Int, wi = ((val 4294967296 pp / V : Nat) : Int) → ∀ m', Big m' → Tot (fun n => bnd (stA 1 (at_ sq j) (.int .u32 wi) H5) fun H6 => nat_long.l0 n (m' n) (.int .i64 by_) (.slice su) (.slice sv) (.int .i64 ((k : Int) + 2)) (.slice sq) (.int .u64 (nth w (k + 1))) (.int .u64 (nth w k)) (.int .i64 ((j : Int) - 1)) H6) Q := by
      intro H5 p2 c5 m5 hl5 hL5 hv5 wi hwi m' hb'
      have mq5 := mq.ch c5 (fun e => hne e.symm)
      refine Tot.st mq5 (x := val 4294967296 pp / V) (by omega) hwi ?_
      intro H6 mq6 c6
      have hw : Mut H6 .u32 ty_uint32 bu [] (uu.take j ++ p2 ++ uu.drop (j + (k + 2) + 1)) [] su := (m5.ch c6 hne).whole hus hue rfl (by rw [hul]; simp; omega)
      exact ih _ H6 _ _ rfl ((c.trans c5 fun i hi e => .inl e).trans c6 fun i hi e => .inr e) hw mq6 (nx p2 hl5 hL5 hv5 htlt) _ hb'
    refine nat_long.l0_tot hb fun m' hb' => ?_
    simp (disch := omega) [hsl]
    refine Tot.bind (nat_guess_spec pt.row hpl (by omega) hLp rfl rfl htop htm hnm hpt2) ?_
    rintro v H' ⟨rfl, q, rfl, hg⟩
    obtain ⟨glo, ghi⟩ := hgg q hg
    clear hgg
    have hq := hg.1
    clear hg
    try dsimp only at *
    refine Tot.bind (nat_off_spec pt rv' hvu (by omega) (by omega) hLp Lvv rfl hq) ?_
    rintro v H4 ⟨c4, p1, f, rfl, hf, pt4, hp1, hLp1, hv4⟩
    rw [hvv, hpl] at hv4
    have hP1 : val 4294967296 p1 < 4294967296 ^ (k + 3) := by rw [← hpl, ← hp1]; exact val_lt hLp1
    have st := fun f2 P2 => long_step (f2 := f2) (P2 := P2) (t := val 4294967296 pp / V) rfl hV0 glo ghi hv4 hP1 hVM
    clear hv4
    simp (disch := omega) [mq.row.idxN (i := j) (by omega)]
    refine Tot.ite (fun hf0 => ?_) (fun hf0 => ?_)
    · have hf1 : f = 0 := hf0
      obtain ⟨hq1, hmod⟩ := (st 0 0).1 hf1
      refine go H4 p1 c4 pt4 (by omega) hLp1 hmod _ ?_ _ hb'
      rw [hq1]
    · have hf1 : f = 1 := by omega
      have hq1 := ((st 0 0).2 hf1).1
      refine Tot.bind (nat_back_spec pt4 (rv'.ch c4 fun i hi e => hvu (e ▸ hi)) hvu (by omega) (by omega) hLp1 Lvv) ?_
      rintro v H5 ⟨c5, p2, f2, hf2, pt5, hp2, hLp2, hv5⟩
      rw [hvv, hp1, hpl] at hv5
      have hP2 : val 4294967296 p2 < 4294967296 ^ (k + 3) := by rw [← hpl, ← hp1, ← hp2]; exact val_lt hLp2
      have hmod := ((st f2 (val 4294967296 p2)).2 hf1).2 hv5 hf2 hP2
      refine go H5 p2 (c4.trans c5 fun i hi e => e) pt5 (by omega) hLp2 hmod _ ?_ _ hb'
      rw [hq1] at hq ⊢
      clear hmod hv5 hP2 st hq1 go nx fin ih
      generalize val 4294967296 pp / V = z at *
      rw [wrap_u64 (by omega), wrap_u32 (by omega)]; omega
theorem nth_out {l : List Nat} {i : Nat} (h : l.length ≤ i) : nth l i = 0 := by
  simp [nth, List.getD_eq_getElem?_getD, List.getElem?_eq_none h]
theorem val_mod {b i : Nat} {l : List Nat} (hb : 0 < b) (h : Lim b l) : val b (l.drop i) % b = nth l i := by
  rcases Nat.lt_or_ge i l.length with h1 | h1
  · rw [val_drop_nth h1, Nat.add_mul_mod_self_left, Nat.mod_eq_of_lt (h.nth hb)]
  · rw [val_drop_out h1, nth_out h1]; simp
theorem trimZ_split (l : List Nat) : l = trimZ l ++ l.drop (trimZ l).length := by
  have h := trimZ_take _ (l := l) rfl
  conv => lhs; rw [← List.take_append_drop (trimZ l).length l, ← h]
theorem long_fin {H : Heap} {by_ bu bq : Nat} {uu qs : List Nat} {su sq : Sl} (mu : Mut H .u32 ty_uint32 bu [] uu [] su) (mq : Mut H .u32 ty_uint32 bq [] qs [] sq) (hne : bu ≠ bq) (hlu : uu.length < 2000000000) (hlq : qs.length < 2000000000) (hLu : Lim 4294967296 uu) (hLq : Lim 4294967296 qs) (hb : by_ ≤ 31) :
    Tot (fun n => nat_long.p1 n (.int .i64 by_) (.slice su) (.slice sq) H) fun v H' => Ch (· = bu) H H' ∧ ∃ s1 s2, v = .tuple [.slice s1, .slice s2] ∧ Row H' .u32 s1 (dig 4294967296 (val 4294967296 qs)) ∧ Row H' .u32 s2 (dig 4294967296 (val 4294967296 uu / 2 ^ by_)) ∧ (∀ i, s1.has i → i = bq) ∧ ∀ i, s2.has i → i = bu := by
  have hf0 : 0 < 2 ^ by_ := Nat.two_pow_pos _
  have hf31 := pow_le31 hb
  have hg0 : 0 < 2 ^ (32 - by_) := Nat.two_pow_pos _
  have hfg : 4294967296 = 2 ^ by_ * 2 ^ (32 - by_) := by rw [← Nat.pow_add, show by_ + (32 - by_) = 32 by omega]
  refine Tot.of fun Q hQ => ?_
  refine nat_long.p1_tot ?_
  simp only [nat_long.p1_b]
  refine Tot.bind (nat_trim_spec mu.row (by omega)) ?_
  rintro v H ⟨rfl, s1, rfl, r1, -, had, hez⟩
  have k1 := trimZ_len_le _ (l := uu) rfl
  have m1 := mu.pre (t := s1) (trimZ_split uu) had (hez mu.esz) r1.len
  have hLr : Lim 4294967296 (trimZ uu) := hLu.trimZ
  have hvr := val_trimZ (b := 4294967296) _ (l := uu) rfl
  generalize trimZ uu = r at *
  generalize uu.drop r.length ++ [] = rest at *
  simp (disch := omega) [r1.lenSl]
  have lp : ∀ (j : Nat) (ii ci : Int) (H' : Heap) (o : List Nat) (c : Nat), ii = (j : Int) - 1 → ci = (c : Int) → j ≤ r.length → Ch (· = bu) H H' → Mut H' .u32 ty_uint32 bu [] o rest s1 → o.length = r.length → Lim 4294967296 o → o.take j = r.take j → c < 18446744073709551616 → c % 4294967296 = nth r j →
      val 4294967296 (o.drop j) = val 4294967296 (r.drop j) / 2 ^ by_ → ∀ m, Big m → Tot (fun n => nat_long.l2 n (m n) (.int .i64 by_) (.slice sq) (.slice s1) (.int .u64 ci) (.int .i64 ii) H') Q := by
    intro j
    induction j with
    | zero =>
      intro ii ci H' o c hii hci hj c0 mo ho hLo ht hc hcm hv m hbm
      subst hii hci
      refine nat_long.l2_tot hbm fun m' hb' => ?_
      simp (disch := omega) []
      refine nat_long.p3_tot ?_
      simp only [nat_long.p3_b]
      have mq' := mq.ch c0 (fun e => hne e.symm)
      refine Tot.bind (nat_trim_spec mq'.row (by omega)) ?_
      rintro v H1 ⟨rfl, s2, rfl, r2, f2, -⟩
      refine Tot.bind (nat_trim_spec mo.row (by omega)) ?_
      rintro v H1 ⟨rfl, s3, rfl, r3, f3, -⟩
      rw [trimZ_dig (b := 4294967296) (by decide) hLq] at r2
      rw [List.drop_zero, List.drop_zero, hvr] at hv
      rw [trimZ_dig (b := 4294967296) (by decide) hLo, hv] at r3
      exact Tot.ret (hQ _ _ ⟨c0, _, _, rfl, r2, r3, fun i hi => mq'.has.1 (f2 i hi), fun i hi => mo.has.1 (f3 i hi)⟩)
    | succ j ih =>
      intro ii ci H' o c hii hci hj c0 mo ho hLo ht hc hcm hv m hbm
      have : ii = (j : Int) := by omega
      subst this hci
      refine nat_long.l2_tot hbm fun m' hb' => ?_
      have hx := hLo.nth (i := j) (by decide)
      have hxe : nth o j = nth r j := by rw [← nth_take (l := o) (n := j + 1) (by omega), ht, nth_take (by omega)]
      have hw : IntKind.u64.wrap ((c : Int) * 4294967296) = ((c % 4294967296 : Nat) : Int) * 4294967296 := by rw [wrap_u64m]; omega
      have hcw : c % 4294967296 < 4294967296 := Nat.mod_lt _ (by decide)
      have hsw := shr_word (f := 2 ^ by_) (g := 2 ^ (32 - by_)) (W := 4294967296) (x := nth o j) (X := val 4294967296 (r.drop (j + 1))) hf0 hfg hg0 hx
      rw [val_mod (by decide) hLr, ← hcm] at hsw
      generalize c % 4294967296 = cc at *
      have hor : arA .or (.int .u64 ((cc : Int) * 4294967296)) (.int .u64 (nth o j : Int)) = some (.int .u64 ((cc * 4294967296 + nth o j : Nat) : Int)) := by rw [or32 ⟨hcw, hx⟩]; simp
      simp (disch := omega) [mo.row.idx, mo.row.get, sh_l32, hw, hor]
      obtain ⟨cn, hcn⟩ : ∃ cn, cn = cc * 4294967296 + nth o j := ⟨_, rfl⟩
      have hci : ((cc : Int) * 4294967296 + (nth o j : Int)) = (cn : Int) := by omega
      rw [hci]
      simp (disch := omega) [sh_r]
      rw [← hcn] at hsw
      refine Tot.st mo (x := cn / 2 ^ by_ % 4294967296) (by omega) ?_ ?_
      · rw [wrap_u32m]; simp
      intro H3 mo3 c3
      refine ih _ _ H3 _ cn (by omega) rfl (by omega) (c0.trans c3 fun i hi e => e) mo3 (by simpa using ho) (hLo.set (Nat.mod_lt _ (by decide))) ?_ (by omega) (by rw [hcn, ← hxe]; omega) ?_ _ hb'
      · rw [take_set_le (Nat.le_refl _)]
        have := congrArg (List.take j) ht
        simpa [List.take_take, Nat.min_eq_left (Nat.le_succ j)] using this
      · rw [drop_set_eq (by omega), val_cons, hv, val_drop_nth (l := r) (i := j) (by omega), ← hxe]
        exact hsw.symm
  exact lp r.length _ _ H r 0 rfl rfl (Nat.le_refl _) Ch.refl m1 rfl hLr rfl (by decide) (by rw [nth_out (Nat.le_refl _)]) (by rw [List.drop_length]; simp [val]) _ Big.id
set_option maxHeartbeats 4000000 in
theorem nat_long_spec {H : Heap} {s t : Sl} {l lb : List Nat} (h : Row H .u32 s l) (h' : Row H .u32 t lb) (hm : l.length < 1900000000) (hL : Lim 4294967296 l) (hL' : Lim 4294967296 lb) (hT : Trimmed lb) (h2 : 2 ≤ lb.length) (hle : lb.length ≤ l.length) :
    Tot (fun n => f_nat_long n [.slice s, .slice t] H) fun v H' => Ext0 H H' ∧ ∃ s1 s2, v = .tuple [.slice s1, .slice s2] ∧ Row H' .u32 s1 (dig 4294967296 (val 4294967296 l / val 4294967296 lb)) ∧ Row H' .u32 s2 (dig 4294967296 (val 4294967296 l % val 4294967296 lb)) ∧ Fr H.n s1 ∧ Fr H.n s2 := by
  refine Tot.of fun Q hQ => ?_
  refine nat_long_tot ?_
  obtain ⟨k, hk⟩ : ∃ k, lb.length = k + 2 := ⟨lb.length - 2, by omega⟩
  rcases snoc_cases lb with rfl | ⟨lb', x, hlb⟩
  · simp at h2
  have hlb' : lb'.length = k + 1 := by rw [hlb] at hk; simpa using hk
  have hx0 : x ≠ 0 := (hlb ▸ hT).last
  have hx : nth lb (k + 1) = x := by rw [hlb, ← hlb']; exact nth_app_len
  have hxm : x < 4294967296 := by rw [← hx]; exact hL'.nth (by decide)
  have hbl : blen x ≤ 32 := blen_le (by simpa using hxm)
  have hbl1 : 1 ≤ blen x := by
    rcases Nat.eq_zero_or_pos (blen x) with e | e
    · have := blen_lt x; rw [e] at this; omega
    · exact e
  obtain ⟨by_, hby⟩ : ∃ by_, by_ = 32 - blen x := ⟨_, rfl⟩
  have hby31 : by_ ≤ 31 := by omega
  simp (disch := omega) [h'.lenSl, h'.idxN (i := k + 1) (by omega), h'.get]
  rw [hx]
  refine Tot.bind (Lz32_spec rfl hxm) ?_
  rintro v H ⟨rfl, rfl⟩
  try dsimp only
  rw [← hby]
  refine Tot.bind (nat_shift_spec h (by omega) hL rfl hby31) ?_
  rintro v H1 ⟨c1, su, du, rfl, ou, fu, lu, Lu, vu⟩
  try dsimp only
  refine Tot.bind (nat_shift_spec (h'.ext c1) (by omega) hL' rfl hby31) ?_
  rintro v H2 ⟨c2, sv, dv, rfl, ov, fv, lv, Lv, vv⟩
  try dsimp only
  refine Tot.bind (nat_trim_spec ov.row (by omega)) ?_
  rintro v H2 ⟨rfl, sv', rfl, rv, fv', -⟩
  try dsimp only
  rw [trimZ_dig (b := 4294967296) (by decide) Lv, vv] at rv
  have hf0 : 0 < 2 ^ by_ := Nat.two_pow_pos _
  have hf31 := pow_le31 hby31
  have hlo : 2147483648 ≤ x * 2 ^ by_ := by
    have h3 := le_of_blen hx0
    have h4 : 2 ^ (blen x - 1) * 2 ^ by_ ≤ x * 2 ^ by_ := Nat.mul_le_mul_right _ h3
    rw [← Nat.pow_add, show blen x - 1 + by_ = 31 by omega] at h4
    exact h4
  have hhi : (x + 1) * 2 ^ by_ ≤ 4294967296 := by
    have h3 := blen_lt x
    have h4 : (x + 1) * 2 ^ by_ ≤ 2 ^ blen x * 2 ^ by_ := Nat.mul_le_mul_right _ h3
    rw [← Nat.pow_add, show blen x + by_ = 32 by omega] at h4
    exact h4
  have hB : val 4294967296 lb = val 4294967296 lb' + 4294967296 ^ (k + 1) * x := by rw [hlb, val_snoc, hlb']
  have hB' : val 4294967296 lb' < 4294967296 ^ (k + 1) := by rw [← hlb']; exact val_lt (Lim.app.1 (hlb ▸ hL')).1
  have hVlo : 4294967296 ^ (k + 1) * 2147483648 ≤ val 4294967296 lb * 2 ^ by_ := by
    have : 4294967296 ^ (k + 1) * 2147483648 ≤ 4294967296 ^ (k + 1) * (x * 2 ^ by_) := Nat.mul_le_mul_left _ hlo
    rw [hB, Nat.add_mul, Nat.mul_assoc]; omega
  have hVhi : val 4294967296 lb * 2 ^ by_ < 4294967296 ^ (k + 2) := by
    have h3 : (val 4294967296 lb' + 4294967296 ^ (k + 1) * x) * 2 ^ by_ < (4294967296 ^ (k + 1) * (x + 1)) * 2 ^ by_ := Nat.mul_lt_mul_of_pos_right (by rw [Nat.mul_add]; omega) hf0
    have h4 : 4294967296 ^ (k + 1) * ((x + 1) * 2 ^ by_) ≤ 4294967296 ^ (k + 1) * 4294967296 := Nat.mul_le_mul_left _ hhi
    rw [hB, Nat.pow_succ 4294967296 (k + 1)]
    rw [Nat.mul_assoc] at h3
    omega
  have Lvv := dig_lim (b := 4294967296) (by decide) (val 4294967296 lb * 2 ^ by_)
  have hvv := val_dig (b := 4294967296) (by decide) (val 4294967296 lb * 2 ^ by_)
  have hlen : (dig 4294967296 (val 4294967296 lb * 2 ^ by_)).length = k + 2 := by
    have a1 := dig_len_le (b := 4294967296) (by decide) hVhi
    have a2 := dig_len_lt (b := 4294967296) (x := val 4294967296 lb * 2 ^ by_) (by decide)
    rcases Nat.lt_or_ge (dig 4294967296 (val 4294967296 lb * 2 ^ by_)).length (k + 2) with a3 | a3
    · have a4 : 4294967296 ^ (dig 4294967296 (val 4294967296 lb * 2 ^ by_)).length ≤ 4294967296 ^ (k + 1) := Nat.pow_le_pow_right (by decide) (by omega)
      have a5 : 4294967296 ^ (k + 1) * 1 ≤ 4294967296 ^ (k + 1) * 2147483648 := Nat.mul_le_mul_left _ (by decide)
      omega
    · omega
  obtain ⟨V, hV⟩ : ∃ V, V = val 4294967296 lb * 2 ^ by_ := ⟨_, rfl⟩
  obtain ⟨A, hA⟩ : ∃ A, A = val 4294967296 l * 2 ^ by_ := ⟨_, rfl⟩
  rw [← hV] at hVlo hVhi Lvv hvv hlen rv
  rw [← hA] at vu
  generalize dig 4294967296 V = w at *
  have hp0 : 0 < 4294967296 ^ k := Nat.pow_pos (by decide)
  have v2 := val_two (b := 4294967296) hlen
  rw [hvv] at v2
  have hr2 : val 4294967296 (w.take k) < 4294967296 ^ k := by
    have := val_lt (Lvv.take (n := k)); rwa [show (w.take k).length = k by simp; omega] at this
  have htop : 2147483648 ≤ nth w (k + 1) := by
    have v1 : val 4294967296 w = val 4294967296 (w.take (k + 1)) + 4294967296 ^ (k + 1) * nth w (k + 1) := by
      rw [val_take_drop (n := k + 1) (by omega), val_drop_nth (by omega), val_drop_out (by omega)]; simp
    rw [hvv] at v1
    have hr1 : val 4294967296 (w.take (k + 1)) < 4294967296 ^ (k + 1) := by
      have := val_lt (Lvv.take (n := k + 1)); rwa [show (w.take (k + 1)).length = k + 1 by simp; omega] at this
    apply Nat.le_of_not_lt
    intro hlt
    have : 4294967296 ^ (k + 1) * (nth w (k + 1) + 1) ≤ 4294967296 ^ (k + 1) * 2147483648 := Nat.mul_le_mul_left _ hlt
    rw [Nat.mul_add] at this
    omega
  have htm := Lvv.nth (i := k + 1) (by decide)
  have hnm := Lvv.nth (i := k) (by decide)
  have hV0 : 0 < V := by
    have : 0 < 4294967296 ^ (k + 1) := Nat.pow_pos (by decide)
    omega
  have eq0 : ((du.length : Int) - ((k : Int) + 2)).toNat = l.length - k - 1 := by omega
  obtain ⟨N, hN⟩ : ∃ N, N = l.length - k - 1 := ⟨_, rfl⟩
  have rvp : ∀ o, Row (H2.push o) .u32 sv' w := fun o => rv.ext Ch.push
  simp (disch := omega) [rv.lenSl, hlen, ou.row.lenSl, eq0, rv.idxN (i := k + 1) (by omega), rv.idxN (i := k) (by omega), (rvp _).get]
  rw [← hN]
  obtain ⟨bu, mu, fu0⟩ := ou.mut (by intro e; subst e; simp at lu)
  have hbu : H.n ≤ bu := fu bu (mu.has.2 rfl)
  have hbu1 := mu.lt
  have hn1 := c1.n
  have hn2 := c2.n
  have hvid : ∀ i, sv'.has i → H1.n ≤ i ∧ i < H2.n := fun i hi => ⟨fv i (fv' i hi), rv.lt hi⟩
  obtain ⟨H3, hH3⟩ : ∃ H3, H3 = H2.push (O.cells (List.replicate N (AM.V.int .u32 0)) ty_uint32 false) := ⟨_, rfl⟩
  have c3 : Ext0 H2 H3 := by rw [hH3]; exact Ch.push
  have mq : Mut H3 .u32 ty_uint32 H2.n [] (List.replicate N 0) [] ⟨some (H2.n, 0), N, 1, false⟩ := by rw [hH3]; exact Mut.make
  rw [← hH3]
  have mu3 := mu.ext (c2.t c3)
  have rv3 := rv.ext c3
  have cH3 : Ext0 H H3 := (c1.t c2).t c3
  generalize (⟨some (H2.n, 0), N, 1, false⟩ : Sl) = sq at *
  clear hH3 rvp
  have hlu : du.length = l.length + 1 := lu
  have hVV : V ≤ 4294967296 ^ (k + 2) := by omega
  have hN2 : l.length = N + k + 1 := by omega
  have hAlt : A < 4294967296 ^ N * V := by
    have h3 := val_lt hL
    have h4 : val 4294967296 l * 2 ^ by_ < 4294967296 ^ l.length * 2 ^ by_ := Nat.mul_lt_mul_of_pos_right h3 hf0
    have h5 : 4294967296 ^ l.length * 2 ^ by_ ≤ 4294967296 ^ l.length * 2147483648 := Nat.mul_le_mul_left _ hf31
    have h6 : 4294967296 ^ N * (4294967296 ^ (k + 1) * 2147483648) ≤ 4294967296 ^ N * V := Nat.mul_le_mul_left _ hVlo
    rw [← Nat.mul_assoc, ← Nat.pow_add, show N + (k + 1) = l.length by omega] at h6
    omega
  have hdl : val 4294967296 (du.drop N) < V := by
    have h3 := val_take_drop (b := 4294967296) (n := N) (l := du) (by omega)
    rw [vu] at h3
    apply Nat.lt_of_mul_lt_mul_left (a := 4294967296 ^ N)
    omega
  have hvN : val 4294967296 l * 2 ^ by_ = A := hA.symm
  clear vv Lv lv ov fv c1 c2 c3 v2 hr2 hp0 htm hnm hhi hlo hB hB' hVlo hVhi
  refine long_loop rv3 (fun e => by have := hvid _ e; omega) (fun e => by have := hvid _ e; omega) (by omega) hlen Lvv hvv htop (by omega) mu3.ad mu3.esz (by rw [mu3.len]; omega) ?_ N _ H3 du (List.replicate N 0) (by omega) Ch.refl mu3 mq
    ⟨Nat.le_refl _, by omega, by omega, by simp, Lu, by intro y hy; simp at hy; omega, rfl, ?_, hdl⟩ _ Big.id
  · intro H' uu qs c mu mq hAt
    refine Tot.mono (long_fin (bq := H2.n) mu mq (by omega) (by have := hAt.lu; omega) (by have := hAt.lq; omega) hAt.Lu hAt.Lq hby31) ?_
    rintro v H4 ⟨c4, s1, s2, rfl, r1, r2, f1, f2⟩
    have he := hAt.eq
    have hl := hAt.lt
    simp only [List.drop_zero] at he hl
    rw [vu] at he
    obtain ⟨q1, q2⟩ := val_inj_div he hl
    rw [q1, ← hvN, hV, Nat.mul_div_mul_right _ _ hf0] at r1
    rw [q2, ← hvN, hV, Nat.mul_mod_mul_right, Nat.mul_div_cancel _ hf0] at r2
    refine hQ _ _ ⟨(cH3.trans c ?_).trans c4 ?_, s1, s2, rfl, r1, r2, fun i hi => by have := f1 i hi; omega, fun i hi => by have := f2 i hi; omega⟩
    · intro i hi e; rcases e with e | e <;> omega
    · intro i hi e; omega
  · rw [List.drop_replicate, val_zero]; simp
end Go.AM
end
section
set_option linter.unusedVariables false
set_option linter.unusedSimpArgs false
set_option linter.unusedSimpArgs false
set_option linter.unusedVariables false
namespace Go.AM
def isN (H : Heap) (v : V) (x : Nat) : Prop := ∃ s, v = .slice s ∧ Row H .u32 s (dig 4294967296 x)
theorem isN.ch {X : Nat → Prop} {H H' : Heap} {v : V} {x : Nat} (h : isN H v x) (c : Ext0 H H') : isN H' v x := by
  obtain ⟨s, rfl, r⟩ := h; exact ⟨s, rfl, r.ext c⟩
theorem sz_mono {x y : Nat} (h : x ≤ y) : (dig 4294967296 x).length ≤ (dig 4294967296 y).length := by
  apply dig_len_le (by decide)
  exact Nat.lt_of_le_of_lt h (dig_len_lt (by decide))
theorem digL (x : Nat) : Lim 4294967296 (dig 4294967296 x) := dig_lim (by decide) x
theorem digV (x : Nat) : val 4294967296 (dig 4294967296 x) = x := val_dig (by decide) x
theorem dig_one {x : Nat} (h : x < 4294967296) (h0 : x ≠ 0) : dig 4294967296 x = [x] := by
  rw [dig_pos (by decide) h0, Nat.mod_eq_of_lt h, Nat.div_eq_of_lt h, dig_zero]
theorem nat_divmod_spec {H : Heap} {s t : Sl} {x y : Nat} (h : Row H .u32 s (dig 4294967296 x)) (h' : Row H .u32 t (dig 4294967296 y)) (hy : 0 < y) (hm : (dig 4294967296 x).length < 1900000000) (hm' : (dig 4294967296 y).length < 1900000000) :
    Tot (fun n => f_nat_divmod n [.slice s, .slice t] H) fun v H' => Ext0 H H' ∧ ∃ s1 s2, v = .tuple [.slice s1, .slice s2] ∧ Row H' .u32 s1 (dig 4294967296 (x / y)) ∧ Row H' .u32 s2 (dig 4294967296 (x % y)) ∧ Fr H.n s1 ∧ Fr H.n s2 := by
  refine Tot.of fun Q hQ => ?_
  refine nat_divmod_tot ?_
  simp only [nat_divmod_b]
  refine Tot.bind (nat_cmp_spec h h' (by omega) (by omega) (digL _) (digL _)) ?_
  rintro v H ⟨rfl, rfl⟩
  rw [digV, digV]
  by_cases hlt : x < y
  · simp only [cmpN, if_pos hlt]
    simp (disch := omega) []
    refine Tot.bind (clone_spec h (by omega)) ?_
    rintro v H1 ⟨c1, s1, rfl, o1, f1⟩
    refine Tot.ret (hQ _ _ ⟨c1, _, _, rfl, ?_, ?_, Fr.nil, f1⟩)
    · rw [Nat.div_eq_of_lt hlt, dig_zero]; exact Row.nil
    · rw [Nat.mod_eq_of_lt hlt]; exact o1.row
  · have hc : ¬ cmpN x y < 0 := by simp only [cmpN, if_neg hlt]; split <;> omega
    have hx0 : x ≠ 0 := by omega
    simp (disch := omega) [hc, h'.lenSl]
    refine Tot.ite (fun h1 => ?_) (fun h1 => ?_)
    · have hl1 : (dig 4294967296 y).length = 1 := by omega
      have hyW : y < 4294967296 := by have := dig_len_lt (b := 4294967296) (x := y) (by decide); rw [hl1] at this; omega
      have hy1 := dig_one hyW (by omega)
      refine Tot.bind (clone_spec h (by omega)) ?_
      rintro v H1 ⟨c1, s1, rfl, o1, f1⟩
      obtain ⟨b, m1, hf⟩ := o1.mut (by rw [Ne, dig_eq_nil (by decide)]; exact hx0)
      have hb := f1 b (m1.has.2 rfl)
      have r' := h'.ext c1
      rw [hy1] at r'
      have hg0 := r'.get (i := 0) (by simp)
      rw [show nth [y] 0 = y from rfl] at hg0
      simp (disch := omega) [r'.idxN (i := 0) (by simp), hg0]
      refine Tot.bind (nat_short_spec m1 (by omega) (digL x) rfl hy hyW) ?_
      rintro v H2 ⟨c2, rfl, l2, m2, hl2, hL2, hv2⟩
      rw [digV] at hv2
      refine Tot.bind (nat_trim_spec m2.row (by omega)) ?_
      rintro v H2 ⟨rfl, s3, rfl, r3, f3, -⟩
      rw [trimZ_dig (b := 4294967296) (by decide) hL2, hv2] at r3
      have hrm : x % y < 4294967296 := Nat.lt_trans (Nat.mod_lt _ hy) hyW
      have hbs : bSl 1 ty_uint32 [.int .u32 0] 1 [(0, .int .u32 ((x % y : Nat) : Int))] = some (.cells (nums .u32 [x % y]) ty_uint32 false) := by simp [bSl, rowA]
      rw [digV]
      simp only [hbs, bnd_some]
      have hr4 := (Own.new (H := H2) (k := .u32) (e := ty_uint32) (l := [x % y])).row
      refine Tot.bind (nat_trim_spec hr4 (by simp)) ?_
      rintro v H4 ⟨rfl, s4, rfl, r4, f4, -⟩
      rw [trimZ_dig (b := 4294967296) (by decide) (Lim.one.2 hrm), val_one] at r4
      exact Tot.ret (hQ _ _ ⟨(c1.trans c2 fun i hi e => by omega).push', _, _, rfl, r3.ext Ch.push, r4, fun i hi => by have := m2.has.1 (f3 i hi); omega, fun i hi => by have := has_mk.1 (f4 i hi); have := c1.n; have := c2.n; omega⟩)
    · have hl2 : 2 ≤ (dig 4294967296 y).length := by
        rcases Nat.eq_zero_or_pos (dig 4294967296 y).length with e | e
        · have := List.eq_nil_of_length_eq_zero e
          rw [dig_eq_nil (by decide)] at this; omega
        · omega
      refine Tot.bind (nat_long_spec h h' (by omega) (digL _) (digL _) (dig_trimmed (by decide) y) hl2 (sz_mono (by omega))) ?_
      rintro v H1 ⟨c1, s1, s2, rfl, r1, r2, f1, f2⟩
      rw [digV, digV] at r1 r2
      simp (disch := omega) []
      exact Tot.ret (hQ _ _ ⟨c1, _, _, rfl, r1, r2, f1, f2⟩)
theorem nat_DivMod_spec {H : Heap} {s t : Sl} {l lb : List Nat} (h : Row H .u32 s l) (h' : Row H .u32 t lb) (hL : Lim 4294967296 l) (hL' : Lim 4294967296 lb) (hm : l.length < 1900000000) (hm' : lb.length < 1900000000) (hy : 0 < val 4294967296 lb) :
    Tot (fun n => f_nat_DivMod n [.slice s, .slice t] H) fun v H' => Ext0 H H' ∧ ∃ s1 s2, v = .tuple [.slice s1, .slice s2, .int .i64 0] ∧ Row H' .u32 s1 (dig 4294967296 (val 4294967296 l / val 4294967296 lb)) ∧ Row H' .u32 s2 (dig 4294967296 (val 4294967296 l % val 4294967296 lb)) ∧ Fr H.n s1 ∧ Fr H.n s2 := by
  refine Tot.of fun Q hQ => ?_
  refine nat_DivMod_tot ?_
  simp only [nat_DivMod_b]
  have k1 := trimZ_len_le _ (l := l) rfl
  have k2 := trimZ_len_le _ (l := lb) rfl
  refine Tot.bind (nat_trim_spec h (by omega)) ?_
  rintro v H ⟨rfl, s1, rfl, r1, -⟩
  refine Tot.bind (nat_trim_spec h' (by omega)) ?_
  rintro v H ⟨rfl, s2, rfl, r2, -⟩
  rw [trimZ_dig (b := 4294967296) (by decide) hL] at r1 k1
  rw [trimZ_dig (b := 4294967296) (by decide) hL'] at r2 k2
  have hne : (dig 4294967296 (val 4294967296 lb)).length ≠ 0 := by
    intro e
    have := List.eq_nil_of_length_eq_zero e
    rw [dig_eq_nil (by decide)] at this; omega
  simp (disch := omega) [r2.lenSl]
  refine Tot.no (by simpa using hne) ?_
  refine Tot.bind (nat_divmod_spec r1 r2 hy (by omega) (by omega)) ?_
  rintro v H1 ⟨c1, s3, s4, rfl, r3, r4, f3, f4⟩
  simp (disch := omega) []
  exact Tot.ret (hQ _ _ ⟨c1, _, _, rfl, r3, r4, f3, f4⟩)
theorem nat_Gcd_spec {H : Heap} {s t : Sl} {l lb : List Nat} (h : Row H .u32 s l) (h' : Row H .u32 t lb) (hL : Lim 4294967296 l) (hL' : Lim 4294967296 lb) (hm : l.length < 1900000000) (hm' : lb.length < 1900000000) :
    Tot (fun n => f_nat_Gcd n [.slice s, .slice t] H) fun v H' => Ext0 H H' ∧ ∃ s1, v = .slice s1 ∧ Row H' .u32 s1 (dig 4294967296 (Nat.gcd (val 4294967296 l) (val 4294967296 lb))) ∧ Fr H.n s1 := by
  refine Tot.of fun Q hQ => ?_
  refine nat_Gcd_tot ?_
  simp only [nat_Gcd_b]
  have k1 := trimZ_len_le _ (l := l) rfl
  have k2 := trimZ_len_le _ (l := lb) rfl
  refine Tot.bind (nat_trim_spec h (by omega)) ?_
  rintro v H ⟨rfl, s1, rfl, r1, -⟩
  rw [trimZ_dig (b := 4294967296) (by decide) hL] at r1 k1
  refine Tot.bind (clone_spec r1 (by omega)) ?_
  rintro v H1 ⟨c1, s2, rfl, o2, f2⟩
  refine Tot.bind (nat_trim_spec (h'.ext c1) (by omega)) ?_
  rintro v H1 ⟨rfl, s3, rfl, r3, -⟩
  rw [trimZ_dig (b := 4294967296) (by decide) hL'] at r3 k2
  refine Tot.bind (clone_spec r3 (by omega)) ?_
  rintro v H2 ⟨c2, s4, rfl, o4, f4⟩
  have lp : ∀ (y x : Nat) (s t : Sl) (H' : Heap), Ext0 H H' → Row H' .u32 s (dig 4294967296 x) → Row H' .u32 t (dig 4294967296 y) → Fr H.n s → Fr H.n t → (dig 4294967296 x).length < 1900000000 → (dig 4294967296 y).length < 1900000000 → Nat.gcd x y = Nat.gcd (val 4294967296 l) (val 4294967296 lb) →
      ∀ m, Big m → Tot (fun n => nat_Gcd.l0 n (m n) (.slice s) (.slice t) H') Q := by
    intro y
    induction y using Nat.strongRecOn with
    | ind y ih =>
      intro x s t H' c r1 r2 fs ft hx hy hg m hb
      refine nat_Gcd.l0_tot hb fun m' hb' => ?_
      simp (disch := omega) [r2.lenSl]
      refine Tot.ite (fun h0 => ?_) (fun h0 => ?_)
      · have hy0 : 0 < y := by
          rcases Nat.eq_zero_or_pos y with e | e
          · subst e; rw [dig_zero] at h0; simp at h0
          · exact e
        refine Tot.bind (nat_divmod_spec r1 r2 hy0 hx hy) ?_
        rintro v H3 ⟨c3, s5, s6, rfl, r5, r6, f5, f6⟩
        simp (disch := omega) []
        have hlt := Nat.mod_lt x hy0
        exact ih (x % y) hlt y t s6 H3 (c.t c3) (r2.ext c3) r6 ft (fun i hi => Nat.le_trans c.n (f6 i hi)) hy (Nat.lt_of_le_of_lt (sz_mono (Nat.le_of_lt hlt)) hy) (by rw [← hg, Nat.gcd_comm y, ← Nat.gcd_rec, Nat.gcd_comm]) _ hb'
      · have hy0 : y = 0 := by
          rw [← dig_eq_nil (b := 4294967296) (by decide)]
          exact List.eq_nil_of_length_eq_zero (by omega)
        subst hy0
        rw [Nat.gcd_zero_right] at hg
        subst hg
        exact Tot.ret (hQ _ _ ⟨c, _, rfl, r1, fs⟩)
  exact lp _ _ _ _ _ (c1.t c2) (o2.row.ext c2) o4.row f2 (fun i hi => Nat.le_trans c1.n (f4 i hi)) (by omega) (by omega) rfl _ Big.id
end Go.AM
end
section
set_option linter.unusedVariables false
set_option linter.unusedSimpArgs false
set_option linter.unusedSimpArgs false
set_option linter.unusedVariables false
namespace Go.AM
def lets (l : List Nat) : List Nat := l.map fun d => 48 + d
def dec (x : Nat) : List UInt8 := if x = 0 then [48] else (lets (dig 10 x)).reverse.map UInt8.ofNat
theorem bytesOf_nums : ∀ (l : List Nat), bytesOf (nums .u8 l) = some (l.map UInt8.ofNat)
  | [] => rfl
  | x :: l => by
    have := bytesOf_nums l
    simp only [nums] at this
    simp [nums, bytesOf, this]
theorem Row.bytes {H : Heap} {s : Sl} {l : List Nat} (h : Row H .u8 s l) : cvBytes (.slice s) H = some (.str (l.map UInt8.ofNat)) := by
  have : s.ad.isNone = true ∨ s.esz = 1 := by
    cases hs : s.ad with
    | none => exact .inl rfl
    | some p => exact .inr (h.low p.1 p.2 (by rw [hs])).2
  simp only [cvBytes, if_pos this, h.rd, Option.bind_some, bytesOf_nums]
end Go.AM
end
section
set_option linter.unusedVariables false
set_option linter.unusedSimpArgs false
set_option linter.unusedSimpArgs false
namespace Go.AM
structure Keep (lo : Nat) (H H' : Heap) : Prop where
  n : H.n ≤ H'.n
  get : ∀ i, lo ≤ i → i < H.n → H'.get i = H.get i
theorem Keep.refl {lo : Nat} {H : Heap} : Keep lo H H := ⟨Nat.le_refl _, fun _ _ _ => rfl⟩
theorem Keep.call {lo : Nat} {H H' H'' : Heap} (h : Keep lo H H') (c : Ext0 H' H'') : Keep lo H H'' :=
  ⟨Nat.le_trans h.n c.n, fun i h1 h2 => (c.get i (Nat.lt_of_lt_of_le h2 h.n) fun f => f).trans (h.get i h1 h2)⟩
theorem Keep.push {lo : Nat} {H H' : Heap} {o : O} (h : Keep lo H H') : Keep lo H (H'.push o) := h.call Ch.push
theorem Keep.more {lo m : Nat} {H H' : Heap} (h : Keep lo H H') : Keep lo H (H'.more m) := h.call Ch.more
theorem Keep.set {lo j : Nat} {H H' : Heap} {o : O} (h : Keep lo H H') (hj : j < lo ∨ H.n ≤ j) : Keep lo H (H'.set j o) :=
  ⟨by simpa using h.n, fun i h1 h2 => by rw [Heap.gtz (by omega)]; exact h.get i h1 h2⟩
theorem Keep.ext {H H' : Heap} (h : Keep 0 H H') : Ext0 H H' := ⟨h.n, fun i hi _ => h.get i (Nat.zero_le _) hi⟩
theorem Row.keep {lo : Nat} {H H' : Heap} {k : IntKind} {s : Sl} {l : List Nat} (h : Row H k s l) (f : Fr lo s) (c : Keep lo H H') : Row H' k s l := by
  refine ⟨h.len, fun b o hs => ⟨Nat.lt_of_lt_of_le (h.low b o hs).1 c.n, (h.low b o hs).2⟩, fun hl => ?_⟩
  obtain ⟨b, o, cs, e', ro, h1, h2, h3, h4⟩ := h.mem hl
  exact ⟨b, o, cs, e', ro, h1, by rw [c.get b (f b ⟨o, h1⟩) (h.low b o h1).1]; exact h2, h3, h4⟩
theorem Fr.zero {s : Sl} : Fr 0 s := fun _ _ => Nat.zero_le _
theorem Fr.mono {m n : Nat} {s : Sl} (h : Fr n s) (hm : m ≤ n) : Fr m s := fun i hi => Nat.le_trans hm (h i hi)
theorem gmz {H : Heap} {m j : Nat} : (H.more m).get j = H.get j := (Eq.refl _).trans (Eq.refl _)
theorem lhz {i o : Nat} {H : Heap} : ld1 (.ptr (some (i, o))) H = (match H.get i with | .cells cs _ _ => cs[o]? | _ => none) := (Eq.refl _).trans (Eq.refl _)
theorem lgz {n i o : Nat} {H : Heap} : ldN n (.ptr (some (i, o))) H = (match H.get i with | .cells cs _ _ => if o + n ≤ cs.length then some (.agg ((cs.drop o).take n)) else none | _ => none) := (Eq.refl _).trans (Eq.refl _)
theorem sgz {n i o : Nat} {x : V} {H : Heap} : stA n (.ptr (some (i, o))) x H = (match H.get i with
    | .cells cs e false => if x.cells.length = n ∧ o + n ≤ cs.length ∧ x.cells.all V.one = true then some (H.set i (.cells (lset cs o x.cells) e false)) else none
    | _ => none) := (Eq.refl _).trans (Eq.refl _)
theorem chk_agg {l : List V} (h : ∀ v, v ∈ l → V.beq v v = true) : chk (some (.agg l)) (.agg l) = some () := by simp [chk, V.beq, beqs_self l h]
theorem beq_bool {b : Bool} : V.beq (.bool b) (.bool b) = true := by simp [V.beq]
theorem beq_int {k : IntKind} {n : Int} : V.beq (.int k n) (.int k n) = true := by simp [V.beq]
theorem beq_slice {s : Sl} : V.beq (.slice s) (.slice s) = true := by simp [V.beq]
theorem gz {a : V} {l : List V} : (a :: l)[0]? = some a := by simp
theorem gs {a : V} {l : List V} {i : Nat} : (a :: l)[i + 1]? = l[i]? := by simp
theorem chk_i {b : Bool} {s : Sl} : chk (some (.agg [.bool b, .slice s])) (.agg [.bool b, .slice s]) = some () := chk_agg (by simp [V.beq])
theorem chk_r {b : Bool} {s t : Sl} : chk (some (.agg [.bool b, .slice s, .slice t])) (.agg [.bool b, .slice s, .slice t]) = some () := chk_agg (by simp [V.beq])
theorem chk_i' {k : IntKind} {b : Int} {s : Sl} : chk (some (.agg [.int k b, .slice s])) (.agg [.int k b, .slice s]) = some () := chk_agg (by simp [V.beq])
theorem chk_r' {k l : IntKind} {b c : Int} {s t : Sl} : chk (some (.agg [.int k b, .slice s, .int l c, .slice t])) (.agg [.int k b, .slice s, .int l c, .slice t]) = some () := chk_agg (by simp [V.beq])
attribute [simp] chk_i chk_r chk_i' chk_r'
attribute [simp] beq_bool beq_int beq_slice
theorem Tot.pure {α : Type} {x : Option α} {a : α} {k : Nat → α → Option R} {Q : V → Heap → Prop} (h : x = some a) (hk : Tot (fun n => k n a) Q) : Tot (fun n => bnd x (k n)) Q := by
  subst h; exact hk
theorem Tot.chk {x : Option Unit} {k : Nat → Unit → Option R} {Q : V → Heap → Prop} (h : x = some ()) (hk : Tot (fun n => k n ()) Q) : Tot (fun n => bnd x (k n)) Q := by
  subst h; exact hk
theorem bnd_weak {α β : Type} {x x' : Option α} (h : x = x') (f : α → Option β) : bnd x f = bnd x' f := by rw [h]
theorem ite_weak {α : Type} {b c : Prop} [Decidable b] [Decidable c] {x y : α} (h : b = c) : ite b x y = ite c x y := by
  by_cases hb : b
  · rw [if_pos hb, if_pos (h ▸ hb)]
  · rw [if_neg hb, if_neg (h ▸ hb)]
theorem sgn_mul0 (x y : Int) : (if (!(decide (x < 0) == decide (y < 0))) = true then -((x.natAbs * y.natAbs : Nat) : Int) else ((x.natAbs * y.natAbs : Nat) : Int)) = x * y := by
  have hx : x = if x < 0 then -(x.natAbs : Int) else (x.natAbs : Int) := by split <;> omega
  have hy : y = if y < 0 then -(y.natAbs : Int) else (y.natAbs : Int) := by split <;> omega
  conv => rhs; rw [hx, hy]
  generalize x.natAbs = m at *
  generalize y.natAbs = n at *
  by_cases h1 : x < 0 <;> by_cases h2 : y < 0 <;> simp only [h1, h2, if_true, if_false, Int.natCast_mul, Int.neg_mul, Int.mul_neg, Int.neg_neg, decide_true, decide_false] <;> simp
theorem Keep.auto {lo : Nat} {H H' : Heap} (h : Keep lo H H' := by (repeat (first | exact Keep.refl | refine Keep.call ?_ (by assumption) | refine Keep.push ?_ | refine Keep.more ?_ | refine Keep.set ?_ (by first | omega | (simp only [npz, nsz, nmz] <;> omega) | fail)))) : Keep lo H H' := h
theorem Tot.autoP {α : Type} {x : Option α} {a : α} {k : Nat → α → Option R} {Q : V → Heap → Prop} (hk : Tot (fun n => k n a) Q) (h : x = some a := by simp (disch := first | omega | (simp only [npz, nsz, nmz] <;> omega) | fail) [lhz, lgz, sgz, boxA, gz, gs, Heap.gqz, Heap.gpz, Heap.gtz, Heap.gsz, gmz, npz, nsz, nmz]; try exact rfl) : Tot (fun n => bnd x (k n)) Q := Tot.pure h hk
theorem Tot.autoC {x : Option Unit} {k : Nat → Unit → Option R} {Q : V → Heap → Prop} (hk : Tot (fun n => k n ()) Q) (h : x = some () := by simp (disch := first | omega | (simp only [npz, nsz, nmz] <;> omega) | fail) [lhz, lgz, sgz, boxA, gz, gs, Heap.gqz, Heap.gpz, Heap.gtz, Heap.gsz, gmz, npz, nsz, nmz]; done) : Tot (fun n => bnd x (k n)) Q := Tot.chk h hk
end Go.AM
end
