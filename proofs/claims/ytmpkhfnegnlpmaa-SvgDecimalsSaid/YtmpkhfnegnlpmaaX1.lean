/- Merged by program (mkclaim.py) from: SvQ1 SvQ2 SvQ3 SpA SpB NmB SpC. -/
import Derived.Test.YtmpkhfnegnlpmaaX0

section
set_option linter.unusedVariables false
set_option linter.unusedSimpArgs false
/- What each Go function comes to on the machine: made by program (gen_seat.py), checked by the kernel. -/
set_option maxRecDepth 1000000
set_option linter.unusedVariables false
namespace Go.AM
/-! zellige/zelligeref03.Gcd -/
@[irreducible] noncomputable def ref03_Gcd.l0 (n m0 : Nat) (v5 v6 v7 v8 : V) (H : Heap) : Option R := Lp C n 23 [1, 1, 1, 1, 1, 0, 0, 0] m0 [(5, v5), (6, v6), (7, v7), (8, v8)] H (kB 0 (kC C n 23 [1, 1, 1, 1, 1, 1] (kR C 23)))
@[irreducible] noncomputable def ref03_Gcd.p1 (n : Nat) (v5 v6 v7 v8 : V) (H : Heap) : Option R := E C n 23 [1, 1, 1, 1, 1, 1] [(5, v5), (6, v6), (7, v7), (8, v8)] H (kR C 23)
@[irreducible] noncomputable def ref03_Gcd.l2 (n m0 : Nat) (v5 v6 v7 v8 : V) (H : Heap) : Option R := Lp C n 23 [1, 1, 1, 1, 1, 1, 0, 0, 0] m0 [(5, v5), (6, v6), (7, v7), (8, v8)] H (kB 2 (kC C n 23 [1, 1, 1, 1, 1, 1, 1] (kR C 23)))
@[irreducible] noncomputable def ref03_Gcd.l3 (n m0 m1 : Nat) (v5 v6 v7 v8 : V) (H : Heap) : Option R := Lp C n 23 [1, 1, 1, 1, 1, 1, 0, 0, 0, 1, 0, 0, 0, 0] m1 [(5, v5), (6, v6), (7, v7), (8, v8)] H (kB 4 (kC C n 23 [1, 1, 1, 1, 1, 1, 0, 0, 0, 1, 0, 1] (kB 3 (kL C n 23 [1, 1, 1, 1, 1, 1, 0, 0, 0] m0 (kB 2 (kC C n 23 [1, 1, 1, 1, 1, 1, 1] (kR C 23)))))))
@[irreducible] noncomputable def ref03_Gcd.p4 (n : Nat) (v5 v7 v8 : V) (H : Heap) : Option R := E C n 23 [1, 1, 1, 1, 1, 1, 1] [(5, v5), (7, v7), (8, v8)] H (kR C 23)
@[irreducible] noncomputable def ref03_Gcd.p5 (n m0 : Nat) (v5 v6 v7 v8 : V) (H : Heap) : Option R := E C n 23 [1, 1, 1, 1, 1, 1, 0, 0, 0, 1, 0, 1] [(5, v5), (6, v6), (7, v7), (8, v8)] H (kB 3 (kL C n 23 [1, 1, 1, 1, 1, 1, 0, 0, 0] m0 (kB 2 (kC C n 23 [1, 1, 1, 1, 1, 1, 1] (kR C 23)))))
@[irreducible] noncomputable def ref03_Gcd.l6 (n m0 : Nat) (v5 v7 v8 v9 : V) (H : Heap) : Option R := Lp C n 23 [1, 1, 1, 1, 1, 1, 1, 0, 1, 0, 0] m0 [(5, v5), (7, v7), (8, v8), (9, v9)] H (kB 8 (kC C n 23 [1, 1, 1, 1, 1, 1, 1, 1] (kR C 23)))
@[irreducible] noncomputable def ref03_Gcd.l7 (n m0 m1 : Nat) (v5 v6 v7 v8 : V) (H : Heap) : Option R := Lp C n 23 [1, 1, 1, 1, 1, 1, 0, 0, 0, 1, 0, 1, 0, 0, 0] m1 [(5, v5), (6, v6), (7, v7), (8, v8)] H (kB 6 (kC C n 23 [1, 1, 1, 1, 1, 1, 0, 0, 0, 1, 0, 1, 1] (kB 3 (kL C n 23 [1, 1, 1, 1, 1, 1, 0, 0, 0] m0 (kB 2 (kC C n 23 [1, 1, 1, 1, 1, 1, 1] (kR C 23)))))))
@[irreducible] noncomputable def ref03_Gcd.p8 (n : Nat) (v5 v7 : V) (H : Heap) : Option R := E C n 23 [1, 1, 1, 1, 1, 1, 1, 1] [(5, v5), (7, v7)] H (kR C 23)
@[irreducible] noncomputable def ref03_Gcd.p9 (n m0 : Nat) (v5 v6 v7 v8 : V) (H : Heap) : Option R := E C n 23 [1, 1, 1, 1, 1, 1, 0, 0, 0, 1, 0, 1, 1] [(5, v5), (6, v6), (7, v7), (8, v8)] H (kB 3 (kL C n 23 [1, 1, 1, 1, 1, 1, 0, 0, 0] m0 (kB 2 (kC C n 23 [1, 1, 1, 1, 1, 1, 1] (kR C 23)))))
@[simp] noncomputable def ref03_Gcd.l0_b (bd : B2) (n m0 : Nat) (v5 v6 v7 v8 : V) (H : Heap) : Option R :=
 (bd (idxS 1 v6 (.int .i64 0)) fun t22_1 =>
 (bd (ld1 t22_1 H) fun t23_2 =>
 (bd (arA .rem t23_2 (.int .i64 2)) fun t24_3 =>
 (bd (arA .eql t24_3 (.int .i64 0)) fun t25_4 =>
 (bd (asB t25_4) fun b5 =>
 if b5 = true then
 (bd (idxS 1 v7 (.int .i64 0)) fun t28_6 =>
 (bd (ld1 t28_6 H) fun t29_7 =>
 (bd (arA .rem t29_7 (.int .i64 2)) fun t30_8 =>
 (bd (arA .eql t30_8 (.int .i64 0)) fun t31_9 =>
 (bd (asB t31_9) fun b10 =>
 if b10 = true then
 (bd (f_ref03_Half n [v6] H) fun r11 =>
 (bd (f_ref03_Half n [v7] r11.2) fun r12 =>
 (bd (arA .add v8 (.int .i64 1)) fun t38_13 =>
 (ref03_Gcd.l0 n m0 v5 r11.1 r12.1 t38_13 r12.2))))
 else
 (ref03_Gcd.p1 n v5 v6 v7 v8 H))))))
 else
 (ref03_Gcd.p1 n v5 v6 v7 v8 H))))))
theorem ref03_Gcd.l0_tot {m0 : Nat → Nat} {v5 v6 v7 v8 : V} {H : Heap} {Q : V → Heap → Prop} (hb : Big m0) (h : ∀ m0', Big m0' → Tot (fun n => ref03_Gcd.l0_b @bnd n (m0' n) v5 v6 v7 v8 H) Q) : Tot (fun n => ref03_Gcd.l0 n (m0 n) v5 v6 v7 v8 H) Q :=
  Tot.loop (f := fun n k => ref03_Gcd.l0 n k v5 v6 v7 v8 H) (g := fun n k => ref03_Gcd.l0_b @bnd n k v5 v6 v7 v8 H) hb (fun n k => bd_bnd (fun bd => ref03_Gcd.l0_b bd n k v5 v6 v7 v8 H) (by kernel_rfl)) h
@[simp] noncomputable def ref03_Gcd.p1_b (bd : B2) (n : Nat) (v5 v6 v7 v8 : V) (H : Heap) : Option R :=
 (ref03_Gcd.l2 n n v5 v6 v7 v8 H)
theorem ref03_Gcd.p1_tot {v5 v6 v7 v8 : V} {H : Heap} {Q : V → Heap → Prop} (h : Tot (fun n => ref03_Gcd.p1_b @bnd n v5 v6 v7 v8 H) Q) : Tot (fun n => ref03_Gcd.p1 n v5 v6 v7 v8 H) Q := Tot.eq (fun n => bd_bnd (fun bd => ref03_Gcd.p1_b bd n v5 v6 v7 v8 H) (by kernel_rfl)) h
@[simp] noncomputable def ref03_Gcd.l2_b (bd : B2) (n m0 : Nat) (v5 v6 v7 v8 : V) (H : Heap) : Option R :=
 (bd (lenSl v6) fun t40_1 =>
 (bd (arA .gtr t40_1 (.int .i64 0)) fun t41_2 =>
 (bd (asB t41_2) fun b3 =>
 if b3 = true then
 (ref03_Gcd.l3 n m0 n v5 v6 v7 v8 H)
 else
 (ref03_Gcd.p4 n v5 v7 v8 H))))
theorem ref03_Gcd.l2_tot {m0 : Nat → Nat} {v5 v6 v7 v8 : V} {H : Heap} {Q : V → Heap → Prop} (hb : Big m0) (h : ∀ m0', Big m0' → Tot (fun n => ref03_Gcd.l2_b @bnd n (m0' n) v5 v6 v7 v8 H) Q) : Tot (fun n => ref03_Gcd.l2 n (m0 n) v5 v6 v7 v8 H) Q :=
  Tot.loop (f := fun n k => ref03_Gcd.l2 n k v5 v6 v7 v8 H) (g := fun n k => ref03_Gcd.l2_b @bnd n k v5 v6 v7 v8 H) hb (fun n k => bd_bnd (fun bd => ref03_Gcd.l2_b bd n k v5 v6 v7 v8 H) (by kernel_rfl)) h
@[simp] noncomputable def ref03_Gcd.l3_b (bd : B2) (n m0 m1 : Nat) (v5 v6 v7 v8 : V) (H : Heap) : Option R :=
 (bd (idxS 1 v6 (.int .i64 0)) fun t43_1 =>
 (bd (ld1 t43_1 H) fun t44_2 =>
 (bd (arA .rem t44_2 (.int .i64 2)) fun t45_3 =>
 (bd (arA .eql t45_3 (.int .i64 0)) fun t46_4 =>
 (bd (asB t46_4) fun b5 =>
 if b5 = true then
 (bd (f_ref03_Half n [v6] H) fun r6 =>
 (ref03_Gcd.l3 n m0 m1 v5 r6.1 v7 v8 r6.2))
 else
 (ref03_Gcd.p5 n m0 v5 v6 v7 v8 H))))))
theorem ref03_Gcd.l3_tot {m0 : Nat → Nat} {m1 : Nat → Nat} {v5 v6 v7 v8 : V} {H : Heap} {Q : V → Heap → Prop} (hb : Big m1) (h : ∀ m1', Big m1' → Tot (fun n => ref03_Gcd.l3_b @bnd n (m0 n) (m1' n) v5 v6 v7 v8 H) Q) : Tot (fun n => ref03_Gcd.l3 n (m0 n) (m1 n) v5 v6 v7 v8 H) Q :=
  Tot.loop (f := fun n k => ref03_Gcd.l3 n (m0 n) k v5 v6 v7 v8 H) (g := fun n k => ref03_Gcd.l3_b @bnd n (m0 n) k v5 v6 v7 v8 H) hb (fun n k => bd_bnd (fun bd => ref03_Gcd.l3_b bd n (m0 n) k v5 v6 v7 v8 H) (by kernel_rfl)) h
@[simp] noncomputable def ref03_Gcd.p4_b (bd : B2) (n : Nat) (v5 v7 v8 : V) (H : Heap) : Option R :=
 (ref03_Gcd.l6 n n v5 v7 v8 (.int .i64 0) H)
theorem ref03_Gcd.p4_tot {v5 v7 v8 : V} {H : Heap} {Q : V → Heap → Prop} (h : Tot (fun n => ref03_Gcd.p4_b @bnd n v5 v7 v8 H) Q) : Tot (fun n => ref03_Gcd.p4 n v5 v7 v8 H) Q := Tot.eq (fun n => bd_bnd (fun bd => ref03_Gcd.p4_b bd n v5 v7 v8 H) (by kernel_rfl)) h
@[simp] noncomputable def ref03_Gcd.p5_b (bd : B2) (n m0 : Nat) (v5 v6 v7 v8 : V) (H : Heap) : Option R :=
 (ref03_Gcd.l7 n m0 n v5 v6 v7 v8 H)
theorem ref03_Gcd.p5_tot {m0 : Nat → Nat} {v5 v6 v7 v8 : V} {H : Heap} {Q : V → Heap → Prop} (h : Tot (fun n => ref03_Gcd.p5_b @bnd n (m0 n) v5 v6 v7 v8 H) Q) : Tot (fun n => ref03_Gcd.p5 n (m0 n) v5 v6 v7 v8 H) Q := Tot.eq (fun n => bd_bnd (fun bd => ref03_Gcd.p5_b bd n (m0 n) v5 v6 v7 v8 H) (by kernel_rfl)) h
@[simp] noncomputable def ref03_Gcd.l6_b (bd : B2) (n m0 : Nat) (v5 v7 v8 v9 : V) (H : Heap) : Option R :=
 (bd (arA .lss v9 v8) fun t67_1 =>
 (bd (asB t67_1) fun b2 =>
 if b2 = true then
 (bd (f_ref03_Add n [v5, v5] H) fun r3 =>
 (bd (arA .add v9 (.int .i64 1)) fun t69_4 =>
 (ref03_Gcd.l6 n m0 r3.1 v7 v8 t69_4 r3.2)))
 else
 (ref03_Gcd.p8 n v5 v7 H)))
theorem ref03_Gcd.l6_tot {m0 : Nat → Nat} {v5 v7 v8 v9 : V} {H : Heap} {Q : V → Heap → Prop} (hb : Big m0) (h : ∀ m0', Big m0' → Tot (fun n => ref03_Gcd.l6_b @bnd n (m0' n) v5 v7 v8 v9 H) Q) : Tot (fun n => ref03_Gcd.l6 n (m0 n) v5 v7 v8 v9 H) Q :=
  Tot.loop (f := fun n k => ref03_Gcd.l6 n k v5 v7 v8 v9 H) (g := fun n k => ref03_Gcd.l6_b @bnd n k v5 v7 v8 v9 H) hb (fun n k => bd_bnd (fun bd => ref03_Gcd.l6_b bd n k v5 v7 v8 v9 H) (by kernel_rfl)) h
@[simp] noncomputable def ref03_Gcd.l7_b (bd : B2) (n m0 m1 : Nat) (v5 v6 v7 v8 : V) (H : Heap) : Option R :=
 (bd (idxS 1 v7 (.int .i64 0)) fun t50_1 =>
 (bd (ld1 t50_1 H) fun t51_2 =>
 (bd (arA .rem t51_2 (.int .i64 2)) fun t52_3 =>
 (bd (arA .eql t52_3 (.int .i64 0)) fun t53_4 =>
 (bd (asB t53_4) fun b5 =>
 if b5 = true then
 (bd (f_ref03_Half n [v7] H) fun r6 =>
 (ref03_Gcd.l7 n m0 m1 v5 v6 r6.1 v8 r6.2))
 else
 (ref03_Gcd.p9 n m0 v5 v6 v7 v8 H))))))
theorem ref03_Gcd.l7_tot {m0 : Nat → Nat} {m1 : Nat → Nat} {v5 v6 v7 v8 : V} {H : Heap} {Q : V → Heap → Prop} (hb : Big m1) (h : ∀ m1', Big m1' → Tot (fun n => ref03_Gcd.l7_b @bnd n (m0 n) (m1' n) v5 v6 v7 v8 H) Q) : Tot (fun n => ref03_Gcd.l7 n (m0 n) (m1 n) v5 v6 v7 v8 H) Q :=
  Tot.loop (f := fun n k => ref03_Gcd.l7 n (m0 n) k v5 v6 v7 v8 H) (g := fun n k => ref03_Gcd.l7_b @bnd n (m0 n) k v5 v6 v7 v8 H) hb (fun n k => bd_bnd (fun bd => ref03_Gcd.l7_b bd n (m0 n) k v5 v6 v7 v8 H) (by kernel_rfl)) h
@[simp] noncomputable def ref03_Gcd.p8_b (bd : B2) (n : Nat) (v5 v7 : V) (H : Heap) : Option R :=
 (bd (f_ref03_Mul n [v7, v5] H) fun r1 =>
 (some (r1.1, r1.2)))
theorem ref03_Gcd.p8_tot {v5 v7 : V} {H : Heap} {Q : V → Heap → Prop} (h : Tot (fun n => ref03_Gcd.p8_b @bnd n v5 v7 H) Q) : Tot (fun n => ref03_Gcd.p8 n v5 v7 H) Q := Tot.eq (fun n => bd_bnd (fun bd => ref03_Gcd.p8_b bd n v5 v7 H) (by kernel_rfl)) h
@[simp] noncomputable def ref03_Gcd.p9_b (bd : B2) (n m0 : Nat) (v5 v6 v7 v8 : V) (H : Heap) : Option R :=
 (bd (f_ref03_Cmp n [v6, v7] H) fun r1 =>
 (bd (arA .lss r1.1 (.int .i64 0)) fun t59_2 =>
 (bd (asB t59_2) fun b3 =>
 if b3 = true then
 (bd (f_ref03_Sub n [v7, v6] r1.2) fun r4 =>
 (ref03_Gcd.l2 n m0 v5 r4.1 v6 v8 r4.2))
 else
 (bd (f_ref03_Sub n [v6, v7] r1.2) fun r5 =>
 (ref03_Gcd.l2 n m0 v5 r5.1 v7 v8 r5.2)))))
theorem ref03_Gcd.p9_tot {m0 : Nat → Nat} {v5 v6 v7 v8 : V} {H : Heap} {Q : V → Heap → Prop} (h : Tot (fun n => ref03_Gcd.p9_b @bnd n (m0 n) v5 v6 v7 v8 H) Q) : Tot (fun n => ref03_Gcd.p9 n (m0 n) v5 v6 v7 v8 H) Q := Tot.eq (fun n => bd_bnd (fun bd => ref03_Gcd.p9_b bd n (m0 n) v5 v6 v7 v8 H) (by kernel_rfl)) h
@[simp] noncomputable def ref03_Gcd_b (bd : B2) (n : Nat) (v0 v1 : V) (H : Heap) : Option R :=
 (bd (bSl 1 ty_int [(.int .i64 0)] 1 [(0, (.int .i64 1))]) fun o1 =>
 (bd (lenSl v0) fun t14_2 =>
 (bd (arA .eql t14_2 (.int .i64 0)) fun t15_3 =>
 (bd (asB t15_3) fun b4 =>
 if b4 = true then
 (some (v1, (H.push o1)))
 else
 (bd (lenSl v1) fun t18_5 =>
 (bd (arA .eql t18_5 (.int .i64 0)) fun t19_6 =>
 (bd (asB t19_6) fun b7 =>
 if b7 = true then
 (some (v0, (H.push o1)))
 else
 (ref03_Gcd.l0 n n (.slice ⟨some (H.n, 0), 1, 1, false⟩) v0 v1 (.int .i64 0) (H.push o1)))))))))
theorem ref03_Gcd_tot {v0 v1 : V} {H : Heap} {Q : V → Heap → Prop} (h : Tot (fun n => ref03_Gcd_b @bnd n v0 v1 H) Q) : Tot (fun n => f_ref03_Gcd n [v0, v1] H) Q := Tot.fn (fun n => bd_bnd (fun bd => ref03_Gcd_b bd n v0 v1 H) (by kernel_rfl)) h
/-! zellige/zelligeref03.DivMod -/
@[irreducible] noncomputable def ref03_DivMod.l0 (n m0 : Nat) (v0 v1 v6 v7 v8 : V) (H : Heap) : Option R := Lp C n 24 [1, 1, 0, 1, 0, 0] m0 [(0, v0), (1, v1), (6, v6), (7, v7), (8, v8)] H (kB 0 (kC C n 24 [1, 1, 1] (kR C 24)))
@[irreducible] noncomputable def ref03_DivMod.p1 (n m0 : Nat) (v0 v1 v6 v7 v8 : V) (H : Heap) : Option R := E C n 24 [1, 1, 0, 1, 0, 0, 1, 0, 0, 1, 1] [(0, v0), (1, v1), (6, v6), (7, v7), (8, v8)] H (kB 1 (kC C n 24 [1, 1, 0, 1, 0, 0, 1, 1] (kL C n 24 [1, 1, 0, 1, 0, 0] m0 (kB 0 (kC C n 24 [1, 1, 1] (kR C 24))))))
@[irreducible] noncomputable def ref03_DivMod.p2 (n : Nat) (v6 v7 : V) (H : Heap) : Option R := E C n 24 [1, 1, 1] [(6, v6), (7, v7)] H (kR C 24)
@[simp] noncomputable def ref03_DivMod.l0_b (bd : B2) (n m0 : Nat) (v0 v1 v6 v7 v8 : V) (H : Heap) : Option R :=
 (bd (arA .geq v8 (.int .i64 0)) fun t18_1 =>
 (bd (asB t18_1) fun b2 =>
 if b2 = true then
 (bd (f_ref03_Add n [v7, v7] H) fun r3 =>
 (bd (arA .quo v8 (.int .i64 16)) fun t26_4 =>
 (bd (idxS 1 v0 t26_4) fun t27_5 =>
 (bd (ld1 t27_5 r3.2) fun t28_6 =>
 (bd (arA .rem v8 (.int .i64 16)) fun t30_7 =>
 (bd (cvInt .u64 t30_7) fun t31_8 =>
 (bd (shA .shr t28_6 t31_8) fun t32_9 =>
 (bd (arA .rem t32_9 (.int .i64 2)) fun t33_10 =>
 (bd (arA .eql t33_10 (.int .i64 1)) fun t34_11 =>
 (bd (asB t34_11) fun b12 =>
 if b12 = true then
 (bd (bSl 1 ty_int [(.int .i64 0)] 1 [(0, (.int .i64 1))]) fun o13 =>
 (bd (f_ref03_Add n [r3.1, (.slice ⟨some (r3.2.n, 0), 1, 1, false⟩)] (r3.2.push o13)) fun r14 =>
 (ref03_DivMod.p1 n m0 v0 v1 v6 r14.1 v8 r14.2)))
 else
 (ref03_DivMod.p1 n m0 v0 v1 v6 r3.1 v8 r3.2)))))))))))
 else
 (ref03_DivMod.p2 n v6 v7 H)))
theorem ref03_DivMod.l0_tot {m0 : Nat → Nat} {v0 v1 v6 v7 v8 : V} {H : Heap} {Q : V → Heap → Prop} (hb : Big m0) (h : ∀ m0', Big m0' → Tot (fun n => ref03_DivMod.l0_b @bnd n (m0' n) v0 v1 v6 v7 v8 H) Q) : Tot (fun n => ref03_DivMod.l0 n (m0 n) v0 v1 v6 v7 v8 H) Q :=
  Tot.loop (f := fun n k => ref03_DivMod.l0 n k v0 v1 v6 v7 v8 H) (g := fun n k => ref03_DivMod.l0_b @bnd n k v0 v1 v6 v7 v8 H) hb (fun n k => bd_bnd (fun bd => ref03_DivMod.l0_b bd n k v0 v1 v6 v7 v8 H) (by kernel_rfl)) h
@[simp] noncomputable def ref03_DivMod.p1_b (bd : B2) (n m0 : Nat) (v0 v1 v6 v7 v8 : V) (H : Heap) : Option R :=
 (bd (f_ref03_Cmp n [v7, v1] H) fun r1 =>
 (bd (arA .geq r1.1 (.int .i64 0)) fun t41_2 =>
 (bd (asB t41_2) fun b3 =>
 if b3 = true then
 (bd (f_ref03_Sub n [v7, v1] r1.2) fun r4 =>
 (bd (arA .quo v8 (.int .i64 16)) fun t47_5 =>
 (bd (arA .quo v8 (.int .i64 16)) fun t50_6 =>
 (bd (idxS 1 v6 t50_6) fun t51_7 =>
 (bd (ld1 t51_7 r4.2) fun t52_8 =>
 (bd (arA .rem v8 (.int .i64 16)) fun t54_9 =>
 (bd (cvInt .u64 t54_9) fun t55_10 =>
 (bd (shA .shl (.int .i64 1) t55_10) fun t56_11 =>
 (bd (arA .add t52_8 t56_11) fun t57_12 =>
 (bd (idxS 1 v6 t47_5) fun t58_13 =>
 (bd (stA 1 t58_13 t57_12 r4.2) fun H14 =>
 (bd (arA .sub v8 (.int .i64 1)) fun t20_15 =>
 (ref03_DivMod.l0 n m0 v0 v1 v6 r4.1 t20_15 H14)))))))))))))
 else
 (bd (arA .sub v8 (.int .i64 1)) fun t20_16 =>
 (ref03_DivMod.l0 n m0 v0 v1 v6 v7 t20_16 r1.2)))))
theorem ref03_DivMod.p1_tot {m0 : Nat → Nat} {v0 v1 v6 v7 v8 : V} {H : Heap} {Q : V → Heap → Prop} (h : Tot (fun n => ref03_DivMod.p1_b @bnd n (m0 n) v0 v1 v6 v7 v8 H) Q) : Tot (fun n => ref03_DivMod.p1 n (m0 n) v0 v1 v6 v7 v8 H) Q := Tot.eq (fun n => bd_bnd (fun bd => ref03_DivMod.p1_b bd n (m0 n) v0 v1 v6 v7 v8 H) (by kernel_rfl)) h
@[simp] noncomputable def ref03_DivMod.p2_b (bd : B2) (n : Nat) (v6 v7 : V) (H : Heap) : Option R :=
 (bd (f_ref03_Trim n [v6] H) fun r1 =>
 (some (.tuple [r1.1, v7], r1.2)))
theorem ref03_DivMod.p2_tot {v6 v7 : V} {H : Heap} {Q : V → Heap → Prop} (h : Tot (fun n => ref03_DivMod.p2_b @bnd n v6 v7 H) Q) : Tot (fun n => ref03_DivMod.p2 n v6 v7 H) Q := Tot.eq (fun n => bd_bnd (fun bd => ref03_DivMod.p2_b bd n v6 v7 H) (by kernel_rfl)) h
@[simp] noncomputable def ref03_DivMod_b (bd : B2) (n : Nat) (v0 v1 : V) (H : Heap) : Option R :=
 (bd (lenSl v0) fun t10_1 =>
 (bd (mkSl 1 8 ty_int [(.int .i64 0)] t10_1 t10_1) fun o2 =>
 (bd (bSl 1 ty_int [(.int .i64 0)] 0 []) fun o3 =>
 (bd (lenSl v0) fun t14_4 =>
 (bd (arA .mul (.int .i64 16) t14_4) fun t15_5 =>
 (bd (arA .sub t15_5 (.int .i64 1)) fun t16_6 =>
 (ref03_DivMod.l0 n n v0 v1 (.slice ⟨some (H.n, 0), o2.2, 1, false⟩) (.slice ⟨some ((H.push o2.1).n, 0), 0, 1, false⟩) t16_6 ((H.push o2.1).push o3))))))))
theorem ref03_DivMod_tot {v0 v1 : V} {H : Heap} {Q : V → Heap → Prop} (h : Tot (fun n => ref03_DivMod_b @bnd n v0 v1 H) Q) : Tot (fun n => f_ref03_DivMod n [v0, v1] H) Q := Tot.fn (fun n => bd_bnd (fun bd => ref03_DivMod_b bd n v0 v1 H) (by kernel_rfl)) h
/-! zellige/zelligeref03.Of -/
@[irreducible] noncomputable def ref03_Of.l0 (n m0 : Nat) (v0 v3 v4 : V) (H : Heap) : Option R := Lp C n 25 [1, 1, 0, 1, 0, 0] m0 [(0, v0), (3, v3), (4, v4)] H (kB 0 (kC C n 25 [1, 1, 1] (kR C 25)))
@[simp] noncomputable def ref03_Of.l0_b (bd : B2) (n m0 : Nat) (v0 v3 v4 : V) (H : Heap) : Option R :=
 (bd (lenSl v0) fun t8_1 =>
 (bd (arA .lss v4 t8_1) fun t9_2 =>
 (bd (asB t9_2) fun b3 =>
 if b3 = true then
 (bd (idxS 1 v0 v4) fun t15_4 =>
 (bd (ld1 t15_4 (H.more 1)) fun t16_5 =>
 (bd (arA .rem t16_5 (.int .u32 65536)) fun t17_6 =>
 (bd (cvInt .i64 t17_6) fun t18_7 =>
 (bd (idxS 1 v0 v4) fun t21_8 =>
 (bd (ld1 t21_8 (H.more 1)) fun t22_9 =>
 (bd (arA .quo t22_9 (.int .u32 65536)) fun t23_10 =>
 (bd (cvInt .i64 t23_10) fun t24_11 =>
 (bd (bSl 1 ty_int [(.int .i64 0)] 2 [(0, t18_7), (1, t24_11)]) fun o12 =>
 (bd (appA 1 8 ty_int v3 (.slice ⟨some ((H.n + 0), 0), 2, 1, false⟩) ((H.more 1).set (H.n + 0) o12)) fun p13 =>
 (bd (arA .add v4 (.int .i64 1)) fun t11_14 =>
 (ref03_Of.l0 n m0 v0 p13.1 t11_14 p13.2))))))))))))
 else
 (bd (f_ref03_Trim n [v3] H) fun r15 =>
 (some (r15.1, r15.2))))))
theorem ref03_Of.l0_tot {m0 : Nat → Nat} {v0 v3 v4 : V} {H : Heap} {Q : V → Heap → Prop} (hb : Big m0) (h : ∀ m0', Big m0' → Tot (fun n => ref03_Of.l0_b @bnd n (m0' n) v0 v3 v4 H) Q) : Tot (fun n => ref03_Of.l0 n (m0 n) v0 v3 v4 H) Q :=
  Tot.loop (f := fun n k => ref03_Of.l0 n k v0 v3 v4 H) (g := fun n k => ref03_Of.l0_b @bnd n k v0 v3 v4 H) hb (fun n k => bd_bnd (fun bd => ref03_Of.l0_b bd n k v0 v3 v4 H) (by kernel_rfl)) h
@[simp] noncomputable def ref03_Of_b (bd : B2) (n : Nat) (v0 : V) (H : Heap) : Option R :=
 (bd (bSl 1 ty_int [(.int .i64 0)] 0 []) fun o1 =>
 (ref03_Of.l0 n n v0 (.slice ⟨some (H.n, 0), 0, 1, false⟩) (.int .i64 0) (H.push o1)))
theorem ref03_Of_tot {v0 : V} {H : Heap} {Q : V → Heap → Prop} (h : Tot (fun n => ref03_Of_b @bnd n v0 H) Q) : Tot (fun n => f_ref03_Of n [v0] H) Q := Tot.fn (fun n => bd_bnd (fun bd => ref03_Of_b bd n v0 H) (by kernel_rfl)) h
/-! zellige/zelligeref04.Of -/
@[simp] noncomputable def ref04_Of_b (bd : B2) (n : Nat) (v0 : V) (H : Heap) : Option R :=
 (bd (boxA ty_api_Int v0) fun o1 =>
 (bd (faA 1 (.ptr (some (H.n, 0)))) fun t4_2 =>
 (bd (ld1 t4_2 ((H.push o1).push (.cells [(.int .i64 0), (.slice ⟨none, 0, 0, false⟩)] ty_ref04_Int false))) fun t5_3 =>
 (bd (f_ref03_Of n [t5_3] ((H.push o1).push (.cells [(.int .i64 0), (.slice ⟨none, 0, 0, false⟩)] ty_ref04_Int false))) fun r4 =>
 (bd (lenSl r4.1) fun t8_5 =>
 (bd (arA .eql t8_5 (.int .i64 0)) fun t9_6 =>
 (bd (asB t9_6) fun b7 =>
 if b7 = true then
 (bd (flA [(0, 1), (1, 1)] [(.int .i64 0), (.slice ⟨none, 0, 0, false⟩)] []) fun t10_8 =>
 (bd (stA 2 (.ptr (some ((H.push o1).n, 0))) t10_8 r4.2) fun H9 =>
 (bd (ldN 2 (.ptr (some ((H.push o1).n, 0))) H9) fun t10 =>
 (some (t10, H9)))))
 else
 (bd (faA 0 (.ptr (some (H.n, 0)))) fun t11_11 =>
 (bd (ld1 t11_11 r4.2) fun t12_12 =>
 (bd (asB t12_12) fun b13 =>
 if b13 = true then
 (bd (flA [(0, 1), (1, 1)] [(.int .i64 0), (.slice ⟨none, 0, 0, false⟩)] [(0, (.int .i64 (-1))), (1, r4.1)]) fun t14_14 =>
 (bd (stA 2 (.ptr (some ((H.push o1).n, 0))) t14_14 r4.2) fun H15 =>
 (bd (ldN 2 (.ptr (some ((H.push o1).n, 0))) H15) fun t16 =>
 (some (t16, H15)))))
 else
 (bd (flA [(0, 1), (1, 1)] [(.int .i64 0), (.slice ⟨none, 0, 0, false⟩)] [(0, (.int .i64 1)), (1, r4.1)]) fun t16_17 =>
 (bd (stA 2 (.ptr (some ((H.push o1).n, 0))) t16_17 r4.2) fun H18 =>
 (bd (ldN 2 (.ptr (some ((H.push o1).n, 0))) H18) fun t19 =>
 (some (t19, H18)))))))))))))))
theorem ref04_Of_tot {v0 : V} {H : Heap} {Q : V → Heap → Prop} (h : Tot (fun n => ref04_Of_b @bnd n v0 H) Q) : Tot (fun n => f_ref04_Of n [v0] H) Q := Tot.fn (fun n => bd_bnd (fun bd => ref04_Of_b bd n v0 H) (by kernel_rfl)) h
/-! zellige/zelligeref03.Add -/
@[irreducible] noncomputable def ref03_Add.l0 (n m0 : Nat) (v0 v1 v5 v6 v7 : V) (H : Heap) : Option R := Lp C n 27 [1, 1, 0, 1, 0, 0] m0 [(0, v0), (1, v1), (5, v5), (6, v6), (7, v7)] H (kB 0 (kC C n 27 [1, 1, 1] (kR C 27)))
@[irreducible] noncomputable def ref03_Add.p1 (n m0 : Nat) (v0 v1 v5 v6 v7 : V) (H : Heap) : Option R := E C n 27 [1, 1, 0, 1, 0, 0, 1, 0, 0, 1] [(0, v0), (1, v1), (5, v5), (6, v6), (7, v7)] H (kB 1 (kC C n 27 [1, 1, 0, 1, 0, 0, 1, 1] (kL C n 27 [1, 1, 0, 1, 0, 0] m0 (kB 0 (kC C n 27 [1, 1, 1] (kR C 27))))))
@[irreducible] noncomputable def ref03_Add.p2 (n : Nat) (v5 v6 : V) (H : Heap) : Option R := E C n 27 [1, 1, 1] [(5, v5), (6, v6)] H (kR C 27)
@[irreducible] noncomputable def ref03_Add.p3 (n m0 : Nat) (v0 v1 v5 v6 v7 : V) (H : Heap) : Option R := E C n 27 [1, 1, 0, 1, 0, 0, 1, 0, 0, 1, 1] [(0, v0), (1, v1), (5, v5), (6, v6), (7, v7)] H (kB 1 (kC C n 27 [1, 1, 0, 1, 0, 0, 1, 1] (kL C n 27 [1, 1, 0, 1, 0, 0] m0 (kB 0 (kC C n 27 [1, 1, 1] (kR C 27))))))
@[simp] noncomputable def ref03_Add.l0_b (bd : B2) (n m0 : Nat) (v0 v1 v5 v6 v7 : V) (H : Heap) : Option R :=
 (bd (lenSl v0) fun t11_1 =>
 (bd (arA .lss v7 t11_1) fun t12_2 =>
 (bd (asB t12_2) fun b3 =>
 if b3 = true then
 (bd (lenSl v0) fun t23_4 =>
 (bd (arA .lss v7 t23_4) fun t24_5 =>
 (bd (asB t24_5) fun b6 =>
 if b6 = true then
 (bd (idxS 1 v0 v7) fun t28_7 =>
 (bd (ld1 t28_7 H) fun t29_8 =>
 (bd (arA .add v6 t29_8) fun t30_9 =>
 (ref03_Add.p1 n m0 v0 v1 v5 t30_9 v7 H))))
 else
 (ref03_Add.p1 n m0 v0 v1 v5 v6 v7 H))))
 else
 (bd (lenSl v1) fun t16_10 =>
 (bd (arA .lss v7 t16_10) fun t17_11 =>
 (bd (asB t17_11) fun b12 =>
 if b12 = true then
 (bd (lenSl v0) fun t23_13 =>
 (bd (arA .lss v7 t23_13) fun t24_14 =>
 (bd (asB t24_14) fun b15 =>
 if b15 = true then
 (bd (idxS 1 v0 v7) fun t28_16 =>
 (bd (ld1 t28_16 H) fun t29_17 =>
 (bd (arA .add v6 t29_17) fun t30_18 =>
 (ref03_Add.p1 n m0 v0 v1 v5 t30_18 v7 H))))
 else
 (ref03_Add.p1 n m0 v0 v1 v5 v6 v7 H))))
 else
 (ref03_Add.p2 n v5 v6 H)))))))
theorem ref03_Add.l0_tot {m0 : Nat → Nat} {v0 v1 v5 v6 v7 : V} {H : Heap} {Q : V → Heap → Prop} (hb : Big m0) (h : ∀ m0', Big m0' → Tot (fun n => ref03_Add.l0_b @bnd n (m0' n) v0 v1 v5 v6 v7 H) Q) : Tot (fun n => ref03_Add.l0 n (m0 n) v0 v1 v5 v6 v7 H) Q :=
  Tot.loop (f := fun n k => ref03_Add.l0 n k v0 v1 v5 v6 v7 H) (g := fun n k => ref03_Add.l0_b @bnd n k v0 v1 v5 v6 v7 H) hb (fun n k => bd_bnd (fun bd => ref03_Add.l0_b bd n k v0 v1 v5 v6 v7 H) (by kernel_rfl)) h
@[simp] noncomputable def ref03_Add.p1_b (bd : B2) (n m0 : Nat) (v0 v1 v5 v6 v7 : V) (H : Heap) : Option R :=
 (bd (lenSl v1) fun t33_1 =>
 (bd (arA .lss v7 t33_1) fun t34_2 =>
 (bd (asB t34_2) fun b3 =>
 if b3 = true then
 (bd (idxS 1 v1 v7) fun t38_4 =>
 (bd (ld1 t38_4 H) fun t39_5 =>
 (bd (arA .add v6 t39_5) fun t40_6 =>
 (ref03_Add.p3 n m0 v0 v1 v5 t40_6 v7 H))))
 else
 (ref03_Add.p3 n m0 v0 v1 v5 v6 v7 H))))
theorem ref03_Add.p1_tot {m0 : Nat → Nat} {v0 v1 v5 v6 v7 : V} {H : Heap} {Q : V → Heap → Prop} (h : Tot (fun n => ref03_Add.p1_b @bnd n (m0 n) v0 v1 v5 v6 v7 H) Q) : Tot (fun n => ref03_Add.p1 n (m0 n) v0 v1 v5 v6 v7 H) Q := Tot.eq (fun n => bd_bnd (fun bd => ref03_Add.p1_b bd n (m0 n) v0 v1 v5 v6 v7 H) (by kernel_rfl)) h
@[simp] noncomputable def ref03_Add.p2_b (bd : B2) (n : Nat) (v5 v6 : V) (H : Heap) : Option R :=
 (bd (bSl 1 ty_int [(.int .i64 0)] 1 [(0, v6)]) fun o1 =>
 (bd (appA 1 8 ty_int v5 (.slice ⟨some (H.n, 0), 1, 1, false⟩) (H.push o1)) fun p2 =>
 (bd (f_ref03_Trim n [p2.1] p2.2) fun r3 =>
 (some (r3.1, r3.2)))))
theorem ref03_Add.p2_tot {v5 v6 : V} {H : Heap} {Q : V → Heap → Prop} (h : Tot (fun n => ref03_Add.p2_b @bnd n v5 v6 H) Q) : Tot (fun n => ref03_Add.p2 n v5 v6 H) Q := Tot.eq (fun n => bd_bnd (fun bd => ref03_Add.p2_b bd n v5 v6 H) (by kernel_rfl)) h
@[simp] noncomputable def ref03_Add.p3_b (bd : B2) (n m0 : Nat) (v0 v1 v5 v6 v7 : V) (H : Heap) : Option R :=
 (bd (arA .rem v6 (.int .i64 65536)) fun t43_1 =>
 (bd (bSl 1 ty_int [(.int .i64 0)] 1 [(0, t43_1)]) fun o2 =>
 (bd (appA 1 8 ty_int v5 (.slice ⟨some (H.n, 0), 1, 1, false⟩) (H.push o2)) fun p3 =>
 (bd (arA .quo v6 (.int .i64 65536)) fun t47_4 =>
 (bd (arA .add v7 (.int .i64 1)) fun t20_5 =>
 (ref03_Add.l0 n m0 v0 v1 p3.1 t47_4 t20_5 p3.2))))))
theorem ref03_Add.p3_tot {m0 : Nat → Nat} {v0 v1 v5 v6 v7 : V} {H : Heap} {Q : V → Heap → Prop} (h : Tot (fun n => ref03_Add.p3_b @bnd n (m0 n) v0 v1 v5 v6 v7 H) Q) : Tot (fun n => ref03_Add.p3 n (m0 n) v0 v1 v5 v6 v7 H) Q := Tot.eq (fun n => bd_bnd (fun bd => ref03_Add.p3_b bd n (m0 n) v0 v1 v5 v6 v7 H) (by kernel_rfl)) h
@[simp] noncomputable def ref03_Add_b (bd : B2) (n : Nat) (v0 v1 : V) (H : Heap) : Option R :=
 (bd (bSl 1 ty_int [(.int .i64 0)] 0 []) fun o1 =>
 (ref03_Add.l0 n n v0 v1 (.slice ⟨some (H.n, 0), 0, 1, false⟩) (.int .i64 0) (.int .i64 0) (H.push o1)))
theorem ref03_Add_tot {v0 v1 : V} {H : Heap} {Q : V → Heap → Prop} (h : Tot (fun n => ref03_Add_b @bnd n v0 v1 H) Q) : Tot (fun n => f_ref03_Add n [v0, v1] H) Q := Tot.fn (fun n => bd_bnd (fun bd => ref03_Add_b bd n v0 v1 H) (by kernel_rfl)) h
/-! zellige/zelligeref03.Cmp -/
@[irreducible] noncomputable def ref03_Cmp.l0 (n m0 : Nat) (v0 v1 v5 : V) (H : Heap) : Option R := Lp C n 28 [1, 1, 1, 0, 1, 0, 0] m0 [(0, v0), (1, v1), (5, v5)] H (kB 0 (kC C n 28 [1, 1, 1, 1] (kR C 28)))
@[simp] noncomputable def ref03_Cmp.l0_b (bd : B2) (n m0 : Nat) (v0 v1 v5 : V) (H : Heap) : Option R :=
 (bd (arA .geq v5 (.int .i64 0)) fun t20_1 =>
 (bd (asB t20_1) fun b2 =>
 if b2 = true then
 (bd (idxS 1 v0 v5) fun t25_3 =>
 (bd (ld1 t25_3 (H.more 0)) fun t26_4 =>
 (bd (idxS 1 v1 v5) fun t29_5 =>
 (bd (ld1 t29_5 (H.more 0)) fun t30_6 =>
 (bd (arA .lss t26_4 t30_6) fun t31_7 =>
 (bd (asB t31_7) fun b8 =>
 if b8 = true then
 (some ((.int .i64 (-1)), (H.more 0)))
 else
 (bd (idxS 1 v0 v5) fun t34_9 =>
 (bd (ld1 t34_9 ((H.more 0).more 0)) fun t35_10 =>
 (bd (idxS 1 v1 v5) fun t38_11 =>
 (bd (ld1 t38_11 ((H.more 0).more 0)) fun t39_12 =>
 (bd (arA .gtr t35_10 t39_12) fun t40_13 =>
 (bd (asB t40_13) fun b14 =>
 if b14 = true then
 (some ((.int .i64 1), ((H.more 0).more 0)))
 else
 (bd (arA .sub v5 (.int .i64 1)) fun t22_15 =>
 (ref03_Cmp.l0 n m0 v0 v1 t22_15 ((H.more 0).more 0)))))))))))))))
 else
 (some ((.int .i64 0), H))))
theorem ref03_Cmp.l0_tot {m0 : Nat → Nat} {v0 v1 v5 : V} {H : Heap} {Q : V → Heap → Prop} (hb : Big m0) (h : ∀ m0', Big m0' → Tot (fun n => ref03_Cmp.l0_b @bnd n (m0' n) v0 v1 v5 H) Q) : Tot (fun n => ref03_Cmp.l0 n (m0 n) v0 v1 v5 H) Q :=
  Tot.loop (f := fun n k => ref03_Cmp.l0 n k v0 v1 v5 H) (g := fun n k => ref03_Cmp.l0_b @bnd n k v0 v1 v5 H) hb (fun n k => bd_bnd (fun bd => ref03_Cmp.l0_b bd n k v0 v1 v5 H) (by kernel_rfl)) h
@[simp] noncomputable def ref03_Cmp_b (bd : B2) (n : Nat) (v0 v1 : V) (H : Heap) : Option R :=
 (bd (lenSl v0) fun t7_1 =>
 (bd (lenSl v1) fun t9_2 =>
 (bd (arA .lss t7_1 t9_2) fun t10_3 =>
 (bd (asB t10_3) fun b4 =>
 if b4 = true then
 (some ((.int .i64 (-1)), H))
 else
 (bd (lenSl v0) fun t12_5 =>
 (bd (lenSl v1) fun t14_6 =>
 (bd (arA .gtr t12_5 t14_6) fun t15_7 =>
 (bd (asB t15_7) fun b8 =>
 if b8 = true then
 (some ((.int .i64 1), H))
 else
 (bd (lenSl v0) fun t17_9 =>
 (bd (arA .sub t17_9 (.int .i64 1)) fun t18_10 =>
 (ref03_Cmp.l0 n n v0 v1 t18_10 H)))))))))))
theorem ref03_Cmp_tot {v0 v1 : V} {H : Heap} {Q : V → Heap → Prop} (h : Tot (fun n => ref03_Cmp_b @bnd n v0 v1 H) Q) : Tot (fun n => f_ref03_Cmp n [v0, v1] H) Q := Tot.fn (fun n => bd_bnd (fun bd => ref03_Cmp_b bd n v0 v1 H) (by kernel_rfl)) h
/-! zellige/zelligeref04.make1 -/
@[simp] noncomputable def ref04_make1_b (bd : B2) (n : Nat) (v0 v1 : V) (H : Heap) : Option R :=
 (bd (lenSl v1) fun t6_1 =>
 (bd (arA .eql t6_1 (.int .i64 0)) fun t7_2 =>
 (bd (asB t7_2) fun b3 =>
 if b3 = true then
 (bd (flA [(0, 1), (1, 1)] [(.int .i64 0), (.slice ⟨none, 0, 0, false⟩)] []) fun t8_4 =>
 (bd (stA 2 (.ptr (some (H.n, 0))) t8_4 (H.push (.cells [(.int .i64 0), (.slice ⟨none, 0, 0, false⟩)] ty_ref04_Int false))) fun H5 =>
 (bd (ldN 2 (.ptr (some (H.n, 0))) H5) fun t6 =>
 (some (t6, H5)))))
 else
 (bd (flA [(0, 1), (1, 1)] [(.int .i64 0), (.slice ⟨none, 0, 0, false⟩)] [(0, v0), (1, v1)]) fun t11_7 =>
 (bd (stA 2 (.ptr (some (H.n, 0))) t11_7 (H.push (.cells [(.int .i64 0), (.slice ⟨none, 0, 0, false⟩)] ty_ref04_Int false))) fun H8 =>
 (bd (ldN 2 (.ptr (some (H.n, 0))) H8) fun t9 =>
 (some (t9, H8))))))))
theorem ref04_make1_tot {v0 v1 : V} {H : Heap} {Q : V → Heap → Prop} (h : Tot (fun n => ref04_make1_b @bnd n v0 v1 H) Q) : Tot (fun n => f_ref04_make1 n [v0, v1] H) Q := Tot.fn (fun n => bd_bnd (fun bd => ref04_make1_b bd n v0 v1 H) (by kernel_rfl)) h
/-! zellige/zelligeref03.Sub -/
@[irreducible] noncomputable def ref03_Sub.l0 (n m0 : Nat) (v0 v1 v5 v6 v7 : V) (H : Heap) : Option R := Lp C n 30 [1, 1, 0, 1, 0, 0] m0 [(0, v0), (1, v1), (5, v5), (6, v6), (7, v7)] H (kB 0 (kC C n 30 [1, 1, 1] (kR C 30)))
@[irreducible] noncomputable def ref03_Sub.p1 (n m0 : Nat) (v0 v1 v5 v7 v8 : V) (H : Heap) : Option R := E C n 30 [1, 1, 0, 1, 0, 0, 1, 0, 0, 1, 1] [(0, v0), (1, v1), (5, v5), (7, v7), (8, v8)] H (kB 1 (kC C n 30 [1, 1, 0, 1, 0, 0, 1, 1] (kL C n 30 [1, 1, 0, 1, 0, 0] m0 (kB 0 (kC C n 30 [1, 1, 1] (kR C 30))))))
@[simp] noncomputable def ref03_Sub.l0_b (bd : B2) (n m0 : Nat) (v0 v1 v5 v6 v7 : V) (H : Heap) : Option R :=
 (bd (lenSl v0) fun t12_1 =>
 (bd (arA .lss v7 t12_1) fun t13_2 =>
 (bd (asB t13_2) fun b3 =>
 if b3 = true then
 (bd (idxS 1 v0 v7) fun t18_4 =>
 (bd (ld1 t18_4 H) fun t19_5 =>
 (bd (arA .sub t19_5 v6) fun t21_6 =>
 (bd (lenSl v1) fun t24_7 =>
 (bd (arA .lss v7 t24_7) fun t25_8 =>
 (bd (asB t25_8) fun b9 =>
 if b9 = true then
 (bd (idxS 1 v1 v7) fun t29_10 =>
 (bd (ld1 t29_10 H) fun t30_11 =>
 (bd (arA .sub t21_6 t30_11) fun t31_12 =>
 (ref03_Sub.p1 n m0 v0 v1 v5 v7 t31_12 H))))
 else
 (ref03_Sub.p1 n m0 v0 v1 v5 v7 t21_6 H)))))))
 else
 (bd (f_ref03_Trim n [v5] H) fun r13 =>
 (some (r13.1, r13.2))))))
theorem ref03_Sub.l0_tot {m0 : Nat → Nat} {v0 v1 v5 v6 v7 : V} {H : Heap} {Q : V → Heap → Prop} (hb : Big m0) (h : ∀ m0', Big m0' → Tot (fun n => ref03_Sub.l0_b @bnd n (m0' n) v0 v1 v5 v6 v7 H) Q) : Tot (fun n => ref03_Sub.l0 n (m0 n) v0 v1 v5 v6 v7 H) Q :=
  Tot.loop (f := fun n k => ref03_Sub.l0 n k v0 v1 v5 v6 v7 H) (g := fun n k => ref03_Sub.l0_b @bnd n k v0 v1 v5 v6 v7 H) hb (fun n k => bd_bnd (fun bd => ref03_Sub.l0_b bd n k v0 v1 v5 v6 v7 H) (by kernel_rfl)) h
@[simp] noncomputable def ref03_Sub.p1_b (bd : B2) (n m0 : Nat) (v0 v1 v5 v7 v8 : V) (H : Heap) : Option R :=
 (bd (arA .lss v8 (.int .i64 0)) fun t33_1 =>
 (bd (asB t33_1) fun b2 =>
 if b2 = true then
 (bd (arA .add v8 (.int .i64 65536)) fun t35_3 =>
 (bd (bSl 1 ty_int [(.int .i64 0)] 1 [(0, t35_3)]) fun o4 =>
 (bd (appA 1 8 ty_int v5 (.slice ⟨some (H.n, 0), 1, 1, false⟩) (H.push o4)) fun p5 =>
 (bd (arA .add v7 (.int .i64 1)) fun t15_6 =>
 (ref03_Sub.l0 n m0 v0 v1 p5.1 (.int .i64 1) t15_6 p5.2)))))
 else
 (bd (bSl 1 ty_int [(.int .i64 0)] 1 [(0, v8)]) fun o7 =>
 (bd (appA 1 8 ty_int v5 (.slice ⟨some (H.n, 0), 1, 1, false⟩) (H.push o7)) fun p8 =>
 (bd (arA .add v7 (.int .i64 1)) fun t15_9 =>
 (ref03_Sub.l0 n m0 v0 v1 p8.1 (.int .i64 0) t15_9 p8.2))))))
theorem ref03_Sub.p1_tot {m0 : Nat → Nat} {v0 v1 v5 v7 v8 : V} {H : Heap} {Q : V → Heap → Prop} (h : Tot (fun n => ref03_Sub.p1_b @bnd n (m0 n) v0 v1 v5 v7 v8 H) Q) : Tot (fun n => ref03_Sub.p1 n (m0 n) v0 v1 v5 v7 v8 H) Q := Tot.eq (fun n => bd_bnd (fun bd => ref03_Sub.p1_b bd n (m0 n) v0 v1 v5 v7 v8 H) (by kernel_rfl)) h
@[simp] noncomputable def ref03_Sub_b (bd : B2) (n : Nat) (v0 v1 : V) (H : Heap) : Option R :=
 (bd (bSl 1 ty_int [(.int .i64 0)] 0 []) fun o1 =>
 (ref03_Sub.l0 n n v0 v1 (.slice ⟨some (H.n, 0), 0, 1, false⟩) (.int .i64 0) (.int .i64 0) (H.push o1)))
theorem ref03_Sub_tot {v0 v1 : V} {H : Heap} {Q : V → Heap → Prop} (h : Tot (fun n => ref03_Sub_b @bnd n v0 v1 H) Q) : Tot (fun n => f_ref03_Sub n [v0, v1] H) Q := Tot.fn (fun n => bd_bnd (fun bd => ref03_Sub_b bd n v0 v1 H) (by kernel_rfl)) h
/-! zellige/zelligeref03.Mul -/
@[irreducible] noncomputable def ref03_Mul.l0 (n m0 : Nat) (v0 v1 v5 v6 : V) (H : Heap) : Option R := Lp C n 31 [1, 1, 0, 1, 0, 0] m0 [(0, v0), (1, v1), (5, v5), (6, v6)] H (kB 0 (kC C n 31 [1, 1, 1] (kR C 31)))
@[irreducible] noncomputable def ref03_Mul.l1 (n m0 m1 : Nat) (v0 v1 v5 v6 v7 v8 : V) (H : Heap) : Option R := Lp C n 31 [1, 1, 0, 1, 0, 0, 1, 0, 0, 1, 0, 1, 0, 0] m1 [(0, v0), (1, v1), (5, v5), (6, v6), (7, v7), (8, v8)] H (kB 2 (kC C n 31 [1, 1, 0, 1, 0, 0, 1, 0, 0, 1, 1] (kB 1 (kC C n 31 [1, 1, 0, 1, 0, 0, 1, 1] (kL C n 31 [1, 1, 0, 1, 0, 0] m0 (kB 0 (kC C n 31 [1, 1, 1] (kR C 31))))))))
@[irreducible] noncomputable def ref03_Mul.p2 (n m0 : Nat) (v0 v1 v5 v6 v7 : V) (H : Heap) : Option R := E C n 31 [1, 1, 0, 1, 0, 0, 1, 0, 0, 1, 1] [(0, v0), (1, v1), (5, v5), (6, v6), (7, v7)] H (kB 1 (kC C n 31 [1, 1, 0, 1, 0, 0, 1, 1] (kL C n 31 [1, 1, 0, 1, 0, 0] m0 (kB 0 (kC C n 31 [1, 1, 1] (kR C 31))))))
@[simp] noncomputable def ref03_Mul.l0_b (bd : B2) (n m0 : Nat) (v0 v1 v5 v6 : V) (H : Heap) : Option R :=
 (bd (lenSl v0) fun t17_1 =>
 (bd (arA .lss v6 t17_1) fun t18_2 =>
 (bd (asB t18_2) fun b3 =>
 if b3 = true then
 (ref03_Mul.l1 n m0 n v0 v1 v5 v6 (.int .i64 0) (.int .i64 0) H)
 else
 (bd (f_ref03_Trim n [v5] H) fun r4 =>
 (some (r4.1, r4.2))))))
theorem ref03_Mul.l0_tot {m0 : Nat → Nat} {v0 v1 v5 v6 : V} {H : Heap} {Q : V → Heap → Prop} (hb : Big m0) (h : ∀ m0', Big m0' → Tot (fun n => ref03_Mul.l0_b @bnd n (m0' n) v0 v1 v5 v6 H) Q) : Tot (fun n => ref03_Mul.l0 n (m0 n) v0 v1 v5 v6 H) Q :=
  Tot.loop (f := fun n k => ref03_Mul.l0 n k v0 v1 v5 v6 H) (g := fun n k => ref03_Mul.l0_b @bnd n k v0 v1 v5 v6 H) hb (fun n k => bd_bnd (fun bd => ref03_Mul.l0_b bd n k v0 v1 v5 v6 H) (by kernel_rfl)) h
@[simp] noncomputable def ref03_Mul.l1_b (bd : B2) (n m0 m1 : Nat) (v0 v1 v5 v6 v7 v8 : V) (H : Heap) : Option R :=
 (bd (lenSl v1) fun t23_1 =>
 (bd (arA .lss v8 t23_1) fun t24_2 =>
 (bd (asB t24_2) fun b3 =>
 if b3 = true then
 (bd (arA .add v6 v8) fun t31_4 =>
 (bd (idxS 1 v5 t31_4) fun t32_5 =>
 (bd (ld1 t32_5 (H.more 0)) fun t33_6 =>
 (bd (arA .add v7 t33_6) fun t34_7 =>
 (bd (idxS 1 v0 v6) fun t37_8 =>
 (bd (ld1 t37_8 (H.more 0)) fun t38_9 =>
 (bd (idxS 1 v1 v8) fun t41_10 =>
 (bd (ld1 t41_10 (H.more 0)) fun t42_11 =>
 (bd (arA .mul t38_9 t42_11) fun t43_12 =>
 (bd (arA .add t34_7 t43_12) fun t44_13 =>
 (bd (arA .add v6 v8) fun t48_14 =>
 (bd (arA .rem t44_13 (.int .i64 65536)) fun t50_15 =>
 (bd (arA .quo t44_13 (.int .i64 65536)) fun t52_16 =>
 (bd (idxS 1 v5 t48_14) fun t53_17 =>
 (bd (stA 1 t53_17 t50_15 (H.more 0)) fun H18 =>
 (bd (arA .add v8 (.int .i64 1)) fun t26_19 =>
 (ref03_Mul.l1 n m0 m1 v0 v1 v5 v6 t52_16 t26_19 H18)))))))))))))))))
 else
 (ref03_Mul.p2 n m0 v0 v1 v5 v6 v7 H))))
theorem ref03_Mul.l1_tot {m0 : Nat → Nat} {m1 : Nat → Nat} {v0 v1 v5 v6 v7 v8 : V} {H : Heap} {Q : V → Heap → Prop} (hb : Big m1) (h : ∀ m1', Big m1' → Tot (fun n => ref03_Mul.l1_b @bnd n (m0 n) (m1' n) v0 v1 v5 v6 v7 v8 H) Q) : Tot (fun n => ref03_Mul.l1 n (m0 n) (m1 n) v0 v1 v5 v6 v7 v8 H) Q :=
  Tot.loop (f := fun n k => ref03_Mul.l1 n (m0 n) k v0 v1 v5 v6 v7 v8 H) (g := fun n k => ref03_Mul.l1_b @bnd n (m0 n) k v0 v1 v5 v6 v7 v8 H) hb (fun n k => bd_bnd (fun bd => ref03_Mul.l1_b bd n (m0 n) k v0 v1 v5 v6 v7 v8 H) (by kernel_rfl)) h
@[simp] noncomputable def ref03_Mul.p2_b (bd : B2) (n m0 : Nat) (v0 v1 v5 v6 v7 : V) (H : Heap) : Option R :=
 (bd (lenSl v1) fun t57_1 =>
 (bd (arA .add v6 t57_1) fun t58_2 =>
 (bd (idxS 1 v5 t58_2) fun t60_3 =>
 (bd (stA 1 t60_3 v7 H) fun H4 =>
 (bd (arA .add v6 (.int .i64 1)) fun t20_5 =>
 (ref03_Mul.l0 n m0 v0 v1 v5 t20_5 H4))))))
theorem ref03_Mul.p2_tot {m0 : Nat → Nat} {v0 v1 v5 v6 v7 : V} {H : Heap} {Q : V → Heap → Prop} (h : Tot (fun n => ref03_Mul.p2_b @bnd n (m0 n) v0 v1 v5 v6 v7 H) Q) : Tot (fun n => ref03_Mul.p2 n (m0 n) v0 v1 v5 v6 v7 H) Q := Tot.eq (fun n => bd_bnd (fun bd => ref03_Mul.p2_b bd n (m0 n) v0 v1 v5 v6 v7 H) (by kernel_rfl)) h
@[simp] noncomputable def ref03_Mul_b (bd : B2) (n : Nat) (v0 v1 : V) (H : Heap) : Option R :=
 (bd (lenSl v0) fun t10_1 =>
 (bd (lenSl v1) fun t12_2 =>
 (bd (arA .add t10_1 t12_2) fun t13_3 =>
 (bd (mkSl 1 8 ty_int [(.int .i64 0)] t13_3 t13_3) fun o4 =>
 (ref03_Mul.l0 n n v0 v1 (.slice ⟨some (H.n, 0), o4.2, 1, false⟩) (.int .i64 0) (H.push o4.1))))))
theorem ref03_Mul_tot {v0 v1 : V} {H : Heap} {Q : V → Heap → Prop} (h : Tot (fun n => ref03_Mul_b @bnd n v0 v1 H) Q) : Tot (fun n => f_ref03_Mul n [v0, v1] H) Q := Tot.fn (fun n => bd_bnd (fun bd => ref03_Mul_b bd n v0 v1 H) (by kernel_rfl)) h
/-! zellige/zelligeref05.Add -/
@[simp] noncomputable def ref05_Add_b (bd : B2) (n : Nat) (v0 v1 : V) (H : Heap) : Option R :=
 (bd (boxA ty_ref05_Rat v0) fun o1 =>
 (bd (boxA ty_ref05_Rat v1) fun o2 =>
 (bd (faA 0 (.ptr (some (H.n, 0)))) fun t5_3 =>
 (bd (ldN 2 t5_3 ((((H.push o1).push o2).push (.cells [(.int .i64 0), (.slice ⟨none, 0, 0, false⟩), (.int .i64 0), (.slice ⟨none, 0, 0, false⟩)] ty_ref05_Rat false)).more 0)) fun t6_4 =>
 (bd (faA 2 (.ptr (some ((H.push o1).n, 0)))) fun t7_5 =>
 (bd (ldN 2 t7_5 ((((H.push o1).push o2).push (.cells [(.int .i64 0), (.slice ⟨none, 0, 0, false⟩), (.int .i64 0), (.slice ⟨none, 0, 0, false⟩)] ty_ref05_Rat false)).more 0)) fun t8_6 =>
 (bd (f_ref04_Mul n [t6_4, t8_6] ((((H.push o1).push o2).push (.cells [(.int .i64 0), (.slice ⟨none, 0, 0, false⟩), (.int .i64 0), (.slice ⟨none, 0, 0, false⟩)] ty_ref05_Rat false)).more 0)) fun r7 =>
 (bd (faA 0 (.ptr (some ((H.push o1).n, 0)))) fun t10_8 =>
 (bd (ldN 2 t10_8 r7.2) fun t11_9 =>
 (bd (chk (ldN 2 t10_8 ((((H.push o1).push o2).push (.cells [(.int .i64 0), (.slice ⟨none, 0, 0, false⟩), (.int .i64 0), (.slice ⟨none, 0, 0, false⟩)] ty_ref05_Rat false)).more 0)) t11_9) fun _ =>
 (bd (faA 2 (.ptr (some (H.n, 0)))) fun t12_10 =>
 (bd (ldN 2 t12_10 r7.2) fun t13_11 =>
 (bd (chk (ldN 2 t12_10 ((((H.push o1).push o2).push (.cells [(.int .i64 0), (.slice ⟨none, 0, 0, false⟩), (.int .i64 0), (.slice ⟨none, 0, 0, false⟩)] ty_ref05_Rat false)).more 0)) t13_11) fun _ =>
 (bd (f_ref04_Mul n [t11_9, t13_11] r7.2) fun r12 =>
 (bd (f_ref04_Add n [r7.1, r12.1] r12.2) fun r13 =>
 (bd (faA 2 (.ptr (some (H.n, 0)))) fun t16_14 =>
 (bd (ldN 2 t16_14 r13.2) fun t17_15 =>
 (bd (chk (ldN 2 t16_14 r12.2) t17_15) fun _ =>
 (bd (chk (ldN 2 t16_14 r7.2) t17_15) fun _ =>
 (bd (chk (ldN 2 t16_14 ((((H.push o1).push o2).push (.cells [(.int .i64 0), (.slice ⟨none, 0, 0, false⟩), (.int .i64 0), (.slice ⟨none, 0, 0, false⟩)] ty_ref05_Rat false)).more 0)) t17_15) fun _ =>
 (bd (faA 2 (.ptr (some ((H.push o1).n, 0)))) fun t18_16 =>
 (bd (ldN 2 t18_16 r13.2) fun t19_17 =>
 (bd (chk (ldN 2 t18_16 r12.2) t19_17) fun _ =>
 (bd (chk (ldN 2 t18_16 r7.2) t19_17) fun _ =>
 (bd (chk (ldN 2 t18_16 ((((H.push o1).push o2).push (.cells [(.int .i64 0), (.slice ⟨none, 0, 0, false⟩), (.int .i64 0), (.slice ⟨none, 0, 0, false⟩)] ty_ref05_Rat false)).more 0)) t19_17) fun _ =>
 (bd (f_ref04_Mul n [t17_15, t19_17] r13.2) fun r18 =>
 (bd (flA [(0, 2), (2, 2)] [(.int .i64 0), (.slice ⟨none, 0, 0, false⟩), (.int .i64 0), (.slice ⟨none, 0, 0, false⟩)] [(0, r13.1), (1, r18.1)]) fun t21_19 =>
 (bd (stA 4 (.ptr (some (((H.push o1).push o2).n, 0))) t21_19 r18.2) fun H20 =>
 (bd (ldN 4 (.ptr (some (((H.push o1).push o2).n, 0))) H20) fun t21 =>
 (some (t21, H20)))))))))))))))))))))))))))))))
theorem ref05_Add_tot {v0 v1 : V} {H : Heap} {Q : V → Heap → Prop} (h : Tot (fun n => ref05_Add_b @bnd n v0 v1 H) Q) : Tot (fun n => f_ref05_Add n [v0, v1] H) Q := Tot.fn (fun n => bd_bnd (fun bd => ref05_Add_b bd n v0 v1 H) (by kernel_rfl)) h
/-! zellige/zelligeref04.Cmp -/
@[simp] noncomputable def ref04_Cmp_b (bd : B2) (n : Nat) (v0 v1 : V) (H : Heap) : Option R :=
 (bd (boxA ty_ref04_Int v0) fun o1 =>
 (bd (boxA ty_ref04_Int v1) fun o2 =>
 (bd (ldN 2 (.ptr (some (H.n, 0))) ((H.push o1).push o2)) fun t5_3 =>
 (bd (ldN 2 (.ptr (some ((H.push o1).n, 0))) ((H.push o1).push o2)) fun t6_4 =>
 (bd (f_ref04_Sub n [t5_3, t6_4] ((H.push o1).push o2)) fun r5 =>
 (bd (fd1 0 r5.1) fun t8_6 =>
 (some (t8_6, r5.2))))))))
theorem ref04_Cmp_tot {v0 v1 : V} {H : Heap} {Q : V → Heap → Prop} (h : Tot (fun n => ref04_Cmp_b @bnd n v0 v1 H) Q) : Tot (fun n => f_ref04_Cmp n [v0, v1] H) Q := Tot.fn (fun n => bd_bnd (fun bd => ref04_Cmp_b bd n v0 v1 H) (by kernel_rfl)) h
/-! zellige/rat.Make -/
@[simp] noncomputable def rat_Make_b (bd : B2) (n : Nat) (v0 v1 : V) (H : Heap) : Option R :=
 (bd (boxA ty_api_Int v0) fun o1 =>
 (bd (boxA ty_api_Int v1) fun o2 =>
 (bd (ldN 2 (.ptr (some ((H.push o1).n, 0))) (((H.push o1).push o2).push (.cells [(.bool false), (.slice ⟨none, 0, 0, false⟩), (.slice ⟨none, 0, 0, false⟩)] ty_api_Rat false))) fun t6_3 =>
 (bd (f_whole_Sign n [t6_3] (((H.push o1).push o2).push (.cells [(.bool false), (.slice ⟨none, 0, 0, false⟩), (.slice ⟨none, 0, 0, false⟩)] ty_api_Rat false))) fun r4 =>
 (bd (arA .eql r4.1 (.int .i64 0)) fun t8_5 =>
 (bd (asB t8_5) fun b6 =>
 if b6 = true then
 (bd (flA [(0, 2), (2, 1)] [(.bool false), (.slice ⟨none, 0, 0, false⟩), (.slice ⟨none, 0, 0, false⟩)] []) fun t9_7 =>
 (bd (f_rat_norm n [t9_7] r4.2) fun r8 =>
 (bd (stA 3 (.ptr (some (((H.push o1).push o2).n, 0))) r8.1 r8.2) fun H9 =>
 (bd (ldN 3 (.ptr (some (((H.push o1).push o2).n, 0))) H9) fun t10 =>
 (some (.tuple [t10, (.int .i64 3)], H9))))))
 else
 (bd (faA 0 (.ptr (some ((H.push o1).n, 0)))) fun t11_11 =>
 (bd (ld1 t11_11 r4.2) fun t12_12 =>
 (bd (asB t12_12) fun b13 =>
 if b13 = true then
 (bd (ldN 2 (.ptr (some (H.n, 0))) r4.2) fun t13_14 =>
 (bd (f_whole_Neg n [t13_14] r4.2) fun r15 =>
 (bd (stA 2 (.ptr (some (H.n, 0))) r15.1 r15.2) fun H16 =>
 (bd (ldN 2 (.ptr (some (H.n, 0))) H16) fun t15_17 =>
 (bd (faA 1 (.ptr (some ((H.push o1).n, 0)))) fun t16_18 =>
 (bd (ld1 t16_18 H16) fun t17_19 =>
 (bd (f_rat_lowest n [t15_17, t17_19] H16) fun r20 =>
 (bd (stA 3 (.ptr (some (((H.push o1).push o2).n, 0))) r20.1 r20.2) fun H21 =>
 (bd (ldN 3 (.ptr (some (((H.push o1).push o2).n, 0))) H21) fun t22 =>
 (some (.tuple [t22, (.int .i64 0)], H21)))))))))))
 else
 (bd (ldN 2 (.ptr (some (H.n, 0))) r4.2) fun t15_23 =>
 (bd (faA 1 (.ptr (some ((H.push o1).n, 0)))) fun t16_24 =>
 (bd (ld1 t16_24 r4.2) fun t17_25 =>
 (bd (f_rat_lowest n [t15_23, t17_25] r4.2) fun r26 =>
 (bd (stA 3 (.ptr (some (((H.push o1).push o2).n, 0))) r26.1 r26.2) fun H27 =>
 (bd (ldN 3 (.ptr (some (((H.push o1).push o2).n, 0))) H27) fun t28 =>
 (some (.tuple [t28, (.int .i64 0)], H27)))))))))))))))))
theorem rat_Make_tot {v0 v1 : V} {H : Heap} {Q : V → Heap → Prop} (h : Tot (fun n => rat_Make_b @bnd n v0 v1 H) Q) : Tot (fun n => f_rat_Make n [v0, v1] H) Q := Tot.fn (fun n => bd_bnd (fun bd => rat_Make_b bd n v0 v1 H) (by kernel_rfl)) h
/-! zellige/svg.power -/
@[irreducible] noncomputable def svg_power.l0 (n m0 : Nat) (v2 v3 v5 v6 : V) (H : Heap) : Option R := Lp C n 35 [1, 1, 0, 1, 0, 0] m0 [(2, v2), (3, v3), (5, v5), (6, v6)] H (kB 0 (kC C n 35 [1, 1, 1] (kR C 35)))
@[simp] noncomputable def svg_power.l0_b (bd : B2) (n m0 : Nat) (v2 v3 v5 v6 : V) (H : Heap) : Option R :=
 (bd (arA .lss v6 v5) fun t7_1 =>
 (bd (asB t7_1) fun b2 =>
 if b2 = true then
 (bd (f_whole_Of n [(.int .i64 10)] (H.more 0)) fun r3 =>
 (bd (ldN 2 v3 r3.2) fun t8_4 =>
 (bd (chk (ldN 2 v3 (H.more 0)) t8_4) fun _ =>
 (bd (f_whole_Mul n [t8_4, r3.1] r3.2) fun r5 =>
 (bd (stA 2 v3 r5.1 r5.2) fun H6 =>
 (bd (arA .add v6 (.int .i64 1)) fun t11_7 =>
 (svg_power.l0 n m0 v2 v3 v5 t11_7 H6)))))))
 else
 (bd (ldN 2 v3 H) fun t12_8 =>
 (bd (stA 2 v2 t12_8 H) fun H9 =>
 (bd (ldN 2 v2 H9) fun t10 =>
 (some (t10, H9)))))))
theorem svg_power.l0_tot {m0 : Nat → Nat} {v2 v3 v5 v6 : V} {H : Heap} {Q : V → Heap → Prop} (hb : Big m0) (h : ∀ m0', Big m0' → Tot (fun n => svg_power.l0_b @bnd n (m0' n) v2 v3 v5 v6 H) Q) : Tot (fun n => svg_power.l0 n (m0 n) v2 v3 v5 v6 H) Q :=
  Tot.loop (f := fun n k => svg_power.l0 n k v2 v3 v5 v6 H) (g := fun n k => svg_power.l0_b @bnd n k v2 v3 v5 v6 H) hb (fun n k => bd_bnd (fun bd => svg_power.l0_b bd n k v2 v3 v5 v6 H) (by kernel_rfl)) h
@[simp] noncomputable def svg_power_b (bd : B2) (n : Nat) (v0 : V) (H : Heap) : Option R :=
 (bd (f_whole_Of n [(.int .i64 1)] (H.push (.cells [(.bool false), (.slice ⟨none, 0, 0, false⟩)] ty_api_Int false))) fun r1 =>
 (bd (stA 2 (.ptr (some (r1.2.n, 0))) r1.1 (r1.2.push (.cells [(.bool false), (.slice ⟨none, 0, 0, false⟩)] ty_api_Int false))) fun H2 =>
 (svg_power.l0 n n (.ptr (some (H.n, 0))) (.ptr (some (r1.2.n, 0))) v0 (.int .i64 0) H2)))
theorem svg_power_tot {v0 : V} {H : Heap} {Q : V → Heap → Prop} (h : Tot (fun n => svg_power_b @bnd n v0 H) Q) : Tot (fun n => f_svg_power n [v0] H) Q := Tot.fn (fun n => bd_bnd (fun bd => svg_power_b bd n v0 H) (by kernel_rfl)) h
/-! zellige/whole.Of -/
@[simp] noncomputable def whole_Of_b (bd : B2) (n : Nat) (v0 : V) (H : Heap) : Option R :=
 (bd (arA .lss v0 (.int .i64 0)) fun t4_1 =>
 (bd (asB t4_1) fun b2 =>
 if b2 = true then
 (bd (cvInt .u64 v0) fun t6_3 =>
 (bd (unA .neg t6_3) fun t7_4 =>
 (bd (f_nat_Of n [t7_4] (H.push (.cells [(.bool false), (.slice ⟨none, 0, 0, false⟩)] ty_api_Int false))) fun r5 =>
 (bd (f_whole_norm n [(.bool true), r5.1] r5.2) fun r6 =>
 (bd (stA 2 (.ptr (some (H.n, 0))) r6.1 r6.2) fun H7 =>
 (bd (ldN 2 (.ptr (some (H.n, 0))) H7) fun t8 =>
 (some (t8, H7))))))))
 else
 (bd (cvInt .u64 v0) fun t11_9 =>
 (bd (f_nat_Of n [t11_9] (H.push (.cells [(.bool false), (.slice ⟨none, 0, 0, false⟩)] ty_api_Int false))) fun r10 =>
 (bd (f_whole_norm n [(.bool false), r10.1] r10.2) fun r11 =>
 (bd (stA 2 (.ptr (some (H.n, 0))) r11.1 r11.2) fun H12 =>
 (bd (ldN 2 (.ptr (some (H.n, 0))) H12) fun t13 =>
 (some (t13, H12)))))))))
theorem whole_Of_tot {v0 : V} {H : Heap} {Q : V → Heap → Prop} (h : Tot (fun n => whole_Of_b @bnd n v0 H) Q) : Tot (fun n => f_whole_Of n [v0] H) Q := Tot.fn (fun n => bd_bnd (fun bd => whole_Of_b bd n v0 H) (by kernel_rfl)) h
/-! zellige/rat.Round -/
@[simp] noncomputable def rat_Round_b (bd : B2) (n : Nat) (v0 : V) (H : Heap) : Option R :=
 (bd (boxA ty_api_Rat v0) fun o1 =>
 (bd (ldN 3 (.ptr (some (H.n, 0))) ((H.push o1).push (.cells [(.bool false), (.slice ⟨none, 0, 0, false⟩)] ty_api_Int false))) fun t7_2 =>
 (bd (f_rat_norm n [t7_2] ((H.push o1).push (.cells [(.bool false), (.slice ⟨none, 0, 0, false⟩)] ty_api_Int false))) fun r3 =>
 (bd (stA 3 (.ptr (some (H.n, 0))) r3.1 r3.2) fun H4 =>
 (bd (faA 0 (.ptr (some (H.n, 0)))) fun t9_5 =>
 (bd (ldN 2 t9_5 (H4.more 1)) fun t10_6 =>
 (bd (faA 0 (.ptr (some (H.n, 0)))) fun t11_7 =>
 (bd (ldN 2 t11_7 (H4.more 1)) fun t12_8 =>
 (bd (f_whole_Add n [t10_6, t12_8] (H4.more 1)) fun r9 =>
 (bd (faA 2 (.ptr (some (H.n, 0)))) fun t14_10 =>
 (bd (ld1 t14_10 r9.2) fun t15_11 =>
 (bd (chk (ld1 t14_10 (H4.more 1)) t15_11) fun _ =>
 (bd (f_rat_plain n [t15_11] r9.2) fun r12 =>
 (bd (f_whole_Add n [r9.1, r12.1] r12.2) fun r13 =>
 (bd (stA 2 (.ptr (some ((H4.n + 0), 0))) r13.1 (r13.2.set (H4.n + 0) (.cells [(.bool false), (.slice ⟨none, 0, 0, false⟩)] ty_api_Int false))) fun H14 =>
 (bd (faA 2 (.ptr (some (H.n, 0)))) fun t20_15 =>
 (bd (ld1 t20_15 (H14.more 2)) fun t21_16 =>
 (bd (faA 2 (.ptr (some (H.n, 0)))) fun t22_17 =>
 (bd (ld1 t22_17 (H14.more 2)) fun t23_18 =>
 (bd (f_nat_Add n [t21_16, t23_18] (H14.more 2)) fun r19 =>
 (bd (f_rat_plain n [r19.1] r19.2) fun r20 =>
 (bd (ldN 2 (.ptr (some ((H4.n + 0), 0))) r20.2) fun t19_21 =>
 (bd (chk (ldN 2 (.ptr (some ((H4.n + 0), 0))) r19.2) t19_21) fun _ =>
 (bd (chk (ldN 2 (.ptr (some ((H4.n + 0), 0))) (H14.more 2)) t19_21) fun _ =>
 (bd (f_whole_Floor n [t19_21, r20.1] r20.2) fun r22 =>
 (bd (extA r22.1 0) fun t27_23 =>
 (bd (stA 2 (.ptr (some ((H14.n + 0), 0))) t27_23 ((r22.2.set (H14.n + 0) (.cells [(.bool false), (.slice ⟨none, 0, 0, false⟩)] ty_api_Int false)).set (H14.n + 1) (.cells [(.bool false), (.slice ⟨none, 0, 0, false⟩)] ty_api_Int false))) fun H24 =>
 (bd (extA r22.1 1) fun t28_25 =>
 (bd (stA 2 (.ptr (some ((H14.n + 1), 0))) t28_25 H24) fun H26 =>
 (bd (extA r22.1 2) fun t29_27 =>
 (bd (ldN 2 (.ptr (some ((H14.n + 0), 0))) H26) fun t30_28 =>
 (bd (stA 2 (.ptr (some ((H.push o1).n, 0))) t30_28 H26) fun H29 =>
 (bd (ldN 2 (.ptr (some ((H.push o1).n, 0))) H29) fun t30 =>
 (some (t30, H29)))))))))))))))))))))))))))))))))))
theorem rat_Round_tot {v0 : V} {H : Heap} {Q : V → Heap → Prop} (h : Tot (fun n => rat_Round_b @bnd n v0 H) Q) : Tot (fun n => f_rat_Round n [v0] H) Q := Tot.fn (fun n => bd_bnd (fun bd => rat_Round_b bd n v0 H) (by kernel_rfl)) h
/-! zellige/rat.Mul -/
@[simp] noncomputable def rat_Mul_b (bd : B2) (n : Nat) (v0 v1 : V) (H : Heap) : Option R :=
 (bd (boxA ty_api_Rat v0) fun o1 =>
 (bd (boxA ty_api_Rat v1) fun o2 =>
 (bd (ldN 3 (.ptr (some (H.n, 0))) ((((H.push o1).push o2).push (.cells [(.bool false), (.slice ⟨none, 0, 0, false⟩), (.slice ⟨none, 0, 0, false⟩)] ty_api_Rat false)).more 0)) fun t5_3 =>
 (bd (f_rat_norm n [t5_3] ((((H.push o1).push o2).push (.cells [(.bool false), (.slice ⟨none, 0, 0, false⟩), (.slice ⟨none, 0, 0, false⟩)] ty_api_Rat false)).more 0)) fun r4 =>
 (bd (ldN 3 (.ptr (some ((H.push o1).n, 0))) r4.2) fun t7_5 =>
 (bd (chk (ldN 3 (.ptr (some ((H.push o1).n, 0))) ((((H.push o1).push o2).push (.cells [(.bool false), (.slice ⟨none, 0, 0, false⟩), (.slice ⟨none, 0, 0, false⟩)] ty_api_Rat false)).more 0)) t7_5) fun _ =>
 (bd (f_rat_norm n [t7_5] r4.2) fun r6 =>
 (bd (stA 3 (.ptr (some (H.n, 0))) r4.1 r6.2) fun H7 =>
 (bd (stA 3 (.ptr (some ((H.push o1).n, 0))) r6.1 H7) fun H8 =>
 (bd (faA 0 (.ptr (some (H.n, 0)))) fun t9_9 =>
 (bd (ldN 2 t9_9 (H8.more 0)) fun t10_10 =>
 (bd (faA 0 (.ptr (some ((H.push o1).n, 0)))) fun t11_11 =>
 (bd (ldN 2 t11_11 (H8.more 0)) fun t12_12 =>
 (bd (f_whole_Mul n [t10_10, t12_12] (H8.more 0)) fun r13 =>
 (bd (faA 2 (.ptr (some (H.n, 0)))) fun t14_14 =>
 (bd (ld1 t14_14 r13.2) fun t15_15 =>
 (bd (chk (ld1 t14_14 (H8.more 0)) t15_15) fun _ =>
 (bd (faA 2 (.ptr (some ((H.push o1).n, 0)))) fun t16_16 =>
 (bd (ld1 t16_16 r13.2) fun t17_17 =>
 (bd (chk (ld1 t16_16 (H8.more 0)) t17_17) fun _ =>
 (bd (f_nat_Mul n [t15_15, t17_17] r13.2) fun r18 =>
 (bd (f_rat_lowest n [r13.1, r18.1] r18.2) fun r19 =>
 (bd (stA 3 (.ptr (some (((H.push o1).push o2).n, 0))) r19.1 r19.2) fun H20 =>
 (bd (ldN 3 (.ptr (some (((H.push o1).push o2).n, 0))) H20) fun t21 =>
 (some (t21, H20))))))))))))))))))))))))))
theorem rat_Mul_tot {v0 v1 : V} {H : Heap} {Q : V → Heap → Prop} (h : Tot (fun n => rat_Mul_b @bnd n v0 v1 H) Q) : Tot (fun n => f_rat_Mul n [v0, v1] H) Q := Tot.fn (fun n => bd_bnd (fun bd => rat_Mul_b bd n v0 v1 H) (by kernel_rfl)) h
/-! zellige/nat.Show -/
@[simp] noncomputable def nat_Show_b (bd : B2) (n : Nat) (v0 : V) (H : Heap) : Option R :=
 (bd (f_nat_show n [v0] H) fun r1 =>
 (some (r1.1, r1.2)))
theorem nat_Show_tot {v0 : V} {H : Heap} {Q : V → Heap → Prop} (h : Tot (fun n => nat_Show_b @bnd n v0 H) Q) : Tot (fun n => f_nat_Show n [v0] H) Q := Tot.fn (fun n => bd_bnd (fun bd => nat_Show_b bd n v0 H) (by kernel_rfl)) h
/-! zellige/whole.Sign -/
@[simp] noncomputable def whole_Sign_b (bd : B2) (n : Nat) (v0 : V) (H : Heap) : Option R :=
 (bd (boxA ty_api_Int v0) fun o1 =>
 (bd (ldN 2 (.ptr (some (H.n, 0))) (H.push o1)) fun t3_2 =>
 (bd (f_whole_sign n [t3_2] (H.push o1)) fun r3 =>
 (some (r3.1, r3.2)))))
theorem whole_Sign_tot {v0 : V} {H : Heap} {Q : V → Heap → Prop} (h : Tot (fun n => whole_Sign_b @bnd n v0 H) Q) : Tot (fun n => f_whole_Sign n [v0] H) Q := Tot.fn (fun n => bd_bnd (fun bd => whole_Sign_b bd n v0 H) (by kernel_rfl)) h
/-! zellige/zelligeref05.Round -/
@[simp] noncomputable def ref05_Round_b (bd : B2) (n : Nat) (v0 : V) (H : Heap) : Option R :=
 (bd (boxA ty_ref05_Rat v0) fun o1 =>
 (bd (f_ref04_Long n [(.int .i64 1)] (((H.push o1).push (.cells [(.int .i64 0), (.slice ⟨none, 0, 0, false⟩)] ty_ref04_Int false)).more 0)) fun r2 =>
 (bd (f_ref04_Long n [(.int .i64 2)] r2.2) fun r3 =>
 (bd (ldN 4 (.ptr (some (H.n, 0))) r3.2) fun t3_4 =>
 (bd (chk (ldN 4 (.ptr (some (H.n, 0))) r2.2) t3_4) fun _ =>
 (bd (chk (ldN 4 (.ptr (some (H.n, 0))) (((H.push o1).push (.cells [(.int .i64 0), (.slice ⟨none, 0, 0, false⟩)] ty_ref04_Int false)).more 0)) t3_4) fun _ =>
 (bd (flA [(0, 2), (2, 2)] [(.int .i64 0), (.slice ⟨none, 0, 0, false⟩), (.int .i64 0), (.slice ⟨none, 0, 0, false⟩)] [(0, r2.1), (1, r3.1)]) fun t6_5 =>
 (bd (f_ref05_Add n [t3_4, t6_5] r3.2) fun r6 =>
 (bd (f_ref05_Floor n [r6.1] r6.2) fun r7 =>
 (bd (stA 2 (.ptr (some ((H.push o1).n, 0))) r7.1 r7.2) fun H8 =>
 (bd (ldN 2 (.ptr (some ((H.push o1).n, 0))) H8) fun t9 =>
 (some (t9, H8)))))))))))))
theorem ref05_Round_tot {v0 : V} {H : Heap} {Q : V → Heap → Prop} (h : Tot (fun n => ref05_Round_b @bnd n v0 H) Q) : Tot (fun n => f_ref05_Round n [v0] H) Q := Tot.fn (fun n => bd_bnd (fun bd => ref05_Round_b bd n v0 H) (by kernel_rfl)) h
/-! zellige/zelligeref03.Trim -/
@[irreducible] noncomputable def ref03_Trim.l0 (n m0 : Nat) (v0 v3 : V) (H : Heap) : Option R := Lp C n 43 [1, 1, 0, 0, 0] m0 [(0, v0), (3, v3)] H (kB 0 (kC C n 43 [1, 1, 1] (kR C 43)))
@[irreducible] noncomputable def ref03_Trim.p1 (n : Nat) (v0 v3 : V) (H : Heap) : Option R := E C n 43 [1, 1, 1] [(0, v0), (3, v3)] H (kR C 43)
@[simp] noncomputable def ref03_Trim.l0_b (bd : B2) (n m0 : Nat) (v0 v3 : V) (H : Heap) : Option R :=
 (bd (arA .gtr v3 (.int .i64 0)) fun t7_1 =>
 (bd (asB t7_1) fun b2 =>
 if b2 = true then
 (bd (arA .sub v3 (.int .i64 1)) fun t11_3 =>
 (bd (idxS 1 v0 t11_3) fun t12_4 =>
 (bd (ld1 t12_4 H) fun t13_5 =>
 (bd (arA .eql t13_5 (.int .i64 0)) fun t14_6 =>
 (bd (asB t14_6) fun b7 =>
 if b7 = true then
 (bd (arA .sub v3 (.int .i64 1)) fun t17_8 =>
 (ref03_Trim.l0 n m0 v0 t17_8 H))
 else
 (ref03_Trim.p1 n v0 v3 H))))))
 else
 (ref03_Trim.p1 n v0 v3 H)))
theorem ref03_Trim.l0_tot {m0 : Nat → Nat} {v0 v3 : V} {H : Heap} {Q : V → Heap → Prop} (hb : Big m0) (h : ∀ m0', Big m0' → Tot (fun n => ref03_Trim.l0_b @bnd n (m0' n) v0 v3 H) Q) : Tot (fun n => ref03_Trim.l0 n (m0 n) v0 v3 H) Q :=
  Tot.loop (f := fun n k => ref03_Trim.l0 n k v0 v3 H) (g := fun n k => ref03_Trim.l0_b @bnd n k v0 v3 H) hb (fun n k => bd_bnd (fun bd => ref03_Trim.l0_b bd n k v0 v3 H) (by kernel_rfl)) h
@[simp] noncomputable def ref03_Trim.p1_b (bd : B2) (n : Nat) (v0 v3 : V) (H : Heap) : Option R :=
 (bd (slSl 1 v0 none (some v3)) fun t20_1 =>
 (some (t20_1, H)))
theorem ref03_Trim.p1_tot {v0 v3 : V} {H : Heap} {Q : V → Heap → Prop} (h : Tot (fun n => ref03_Trim.p1_b @bnd n v0 v3 H) Q) : Tot (fun n => ref03_Trim.p1 n v0 v3 H) Q := Tot.eq (fun n => bd_bnd (fun bd => ref03_Trim.p1_b bd n v0 v3 H) (by kernel_rfl)) h
@[simp] noncomputable def ref03_Trim_b (bd : B2) (n : Nat) (v0 : V) (H : Heap) : Option R :=
 (bd (lenSl v0) fun t5_1 =>
 (ref03_Trim.l0 n n v0 t5_1 H))
theorem ref03_Trim_tot {v0 : V} {H : Heap} {Q : V → Heap → Prop} (h : Tot (fun n => ref03_Trim_b @bnd n v0 H) Q) : Tot (fun n => f_ref03_Trim n [v0] H) Q := Tot.fn (fun n => bd_bnd (fun bd => ref03_Trim_b bd n v0 H) (by kernel_rfl)) h
/-! zellige/zelligeref03.Half -/
@[irreducible] noncomputable def ref03_Half.l0 (n m0 : Nat) (v0 v3 v4 v5 : V) (H : Heap) : Option R := Lp C n 44 [1, 1, 0, 1, 0, 0] m0 [(0, v0), (3, v3), (4, v4), (5, v5)] H (kB 0 (kC C n 44 [1, 1, 1] (kR C 44)))
@[simp] noncomputable def ref03_Half.l0_b (bd : B2) (n m0 : Nat) (v0 v3 v4 v5 : V) (H : Heap) : Option R :=
 (bd (arA .geq v5 (.int .i64 0)) fun t13_1 =>
 (bd (asB t13_1) fun b2 =>
 if b2 = true then
 (bd (arA .mul v4 (.int .i64 65536)) fun t17_3 =>
 (bd (idxS 1 v0 v5) fun t20_4 =>
 (bd (ld1 t20_4 H) fun t21_5 =>
 (bd (arA .add t17_3 t21_5) fun t22_6 =>
 (bd (arA .quo t22_6 (.int .i64 2)) fun t26_7 =>
 (bd (arA .rem t22_6 (.int .i64 2)) fun t28_8 =>
 (bd (idxS 1 v3 v5) fun t29_9 =>
 (bd (stA 1 t29_9 t26_7 H) fun H10 =>
 (bd (arA .sub v5 (.int .i64 1)) fun t15_11 =>
 (ref03_Half.l0 n m0 v0 v3 t28_8 t15_11 H10))))))))))
 else
 (bd (f_ref03_Trim n [v3] H) fun r12 =>
 (some (r12.1, r12.2)))))
theorem ref03_Half.l0_tot {m0 : Nat → Nat} {v0 v3 v4 v5 : V} {H : Heap} {Q : V → Heap → Prop} (hb : Big m0) (h : ∀ m0', Big m0' → Tot (fun n => ref03_Half.l0_b @bnd n (m0' n) v0 v3 v4 v5 H) Q) : Tot (fun n => ref03_Half.l0 n (m0 n) v0 v3 v4 v5 H) Q :=
  Tot.loop (f := fun n k => ref03_Half.l0 n k v0 v3 v4 v5 H) (g := fun n k => ref03_Half.l0_b @bnd n k v0 v3 v4 v5 H) hb (fun n k => bd_bnd (fun bd => ref03_Half.l0_b bd n k v0 v3 v4 v5 H) (by kernel_rfl)) h
@[simp] noncomputable def ref03_Half_b (bd : B2) (n : Nat) (v0 : V) (H : Heap) : Option R :=
 (bd (lenSl v0) fun t7_1 =>
 (bd (mkSl 1 8 ty_int [(.int .i64 0)] t7_1 t7_1) fun o2 =>
 (bd (lenSl v0) fun t10_3 =>
 (bd (arA .sub t10_3 (.int .i64 1)) fun t11_4 =>
 (ref03_Half.l0 n n v0 (.slice ⟨some (H.n, 0), o2.2, 1, false⟩) (.int .i64 0) t11_4 (H.push o2.1))))))
theorem ref03_Half_tot {v0 : V} {H : Heap} {Q : V → Heap → Prop} (h : Tot (fun n => ref03_Half_b @bnd n v0 H) Q) : Tot (fun n => f_ref03_Half n [v0] H) Q := Tot.fn (fun n => bd_bnd (fun bd => ref03_Half_b bd n v0 H) (by kernel_rfl)) h
/-! zellige/zelligeref04.Sub -/
@[simp] noncomputable def ref04_Sub_b (bd : B2) (n : Nat) (v0 v1 : V) (H : Heap) : Option R :=
 (bd (boxA ty_ref04_Int v0) fun o1 =>
 (bd (boxA ty_ref04_Int v1) fun o2 =>
 (bd (ldN 2 (.ptr (some ((H.push o1).n, 0))) ((((H.push o1).push o2).push (.cells [(.int .i64 0), (.slice ⟨none, 0, 0, false⟩)] ty_ref04_Int false)).more 0)) fun t6_3 =>
 (bd (f_ref04_Neg n [t6_3] ((((H.push o1).push o2).push (.cells [(.int .i64 0), (.slice ⟨none, 0, 0, false⟩)] ty_ref04_Int false)).more 0)) fun r4 =>
 (bd (ldN 2 (.ptr (some (H.n, 0))) r4.2) fun t5_5 =>
 (bd (chk (ldN 2 (.ptr (some (H.n, 0))) ((((H.push o1).push o2).push (.cells [(.int .i64 0), (.slice ⟨none, 0, 0, false⟩)] ty_ref04_Int false)).more 0)) t5_5) fun _ =>
 (bd (f_ref04_Add n [t5_5, r4.1] r4.2) fun r6 =>
 (bd (stA 2 (.ptr (some (((H.push o1).push o2).n, 0))) r6.1 r6.2) fun H7 =>
 (bd (ldN 2 (.ptr (some (((H.push o1).push o2).n, 0))) H7) fun t8 =>
 (some (t8, H7)))))))))))
theorem ref04_Sub_tot {v0 v1 : V} {H : Heap} {Q : V → Heap → Prop} (h : Tot (fun n => ref04_Sub_b @bnd n v0 v1 H) Q) : Tot (fun n => f_ref04_Sub n [v0, v1] H) Q := Tot.fn (fun n => bd_bnd (fun bd => ref04_Sub_b bd n v0 v1 H) (by kernel_rfl)) h
/-! zellige/rat.norm -/
@[simp] noncomputable def rat_norm_b (bd : B2) (n : Nat) (v0 : V) (H : Heap) : Option R :=
 (bd (boxA ty_api_Rat v0) fun o1 =>
 (bd (faA 0 (.ptr (some (H.n, 0)))) fun t3_2 =>
 (bd (ldN 2 t3_2 ((H.push o1).push (.cells [(.bool false), (.slice ⟨none, 0, 0, false⟩), (.slice ⟨none, 0, 0, false⟩)] ty_api_Rat false))) fun t4_3 =>
 (bd (faA 2 (.ptr (some (H.n, 0)))) fun t5_4 =>
 (bd (ld1 t5_4 ((H.push o1).push (.cells [(.bool false), (.slice ⟨none, 0, 0, false⟩), (.slice ⟨none, 0, 0, false⟩)] ty_api_Rat false))) fun t6_5 =>
 (bd (f_rat_lowest n [t4_3, t6_5] ((H.push o1).push (.cells [(.bool false), (.slice ⟨none, 0, 0, false⟩), (.slice ⟨none, 0, 0, false⟩)] ty_api_Rat false))) fun r6 =>
 (bd (stA 3 (.ptr (some ((H.push o1).n, 0))) r6.1 r6.2) fun H7 =>
 (bd (ldN 3 (.ptr (some ((H.push o1).n, 0))) H7) fun t8 =>
 (some (t8, H7))))))))))
theorem rat_norm_tot {v0 : V} {H : Heap} {Q : V → Heap → Prop} (h : Tot (fun n => rat_norm_b @bnd n v0 H) Q) : Tot (fun n => f_rat_norm n [v0] H) Q := Tot.fn (fun n => bd_bnd (fun bd => rat_norm_b bd n v0 H) (by kernel_rfl)) h
/-! zellige/whole.Neg -/
@[simp] noncomputable def whole_Neg_b (bd : B2) (n : Nat) (v0 : V) (H : Heap) : Option R :=
 (bd (boxA ty_api_Int v0) fun o1 =>
 (bd (ldN 2 (.ptr (some (H.n, 0))) ((H.push o1).push (.cells [(.bool false), (.slice ⟨none, 0, 0, false⟩)] ty_api_Int false))) fun t3_2 =>
 (bd (f_whole_neg n [t3_2] ((H.push o1).push (.cells [(.bool false), (.slice ⟨none, 0, 0, false⟩)] ty_api_Int false))) fun r3 =>
 (bd (stA 2 (.ptr (some ((H.push o1).n, 0))) r3.1 r3.2) fun H4 =>
 (bd (ldN 2 (.ptr (some ((H.push o1).n, 0))) H4) fun t5 =>
 (some (t5, H4)))))))
theorem whole_Neg_tot {v0 : V} {H : Heap} {Q : V → Heap → Prop} (h : Tot (fun n => whole_Neg_b @bnd n v0 H) Q) : Tot (fun n => f_whole_Neg n [v0] H) Q := Tot.fn (fun n => bd_bnd (fun bd => whole_Neg_b bd n v0 H) (by kernel_rfl)) h
end Go.AM
end

section
set_option linter.unusedVariables false
set_option linter.unusedSimpArgs false
/- What each Go function comes to on the machine: made by program (gen_seat.py), checked by the kernel. -/
set_option maxRecDepth 1000000
set_option linter.unusedVariables false
namespace Go.AM
/-! zellige/rat.lowest -/
@[simp] noncomputable def rat_lowest_b (bd : B2) (n : Nat) (v0 v1 : V) (H : Heap) : Option R :=
 (bd (boxA ty_api_Int v0) fun o1 =>
 (bd (ldN 2 (.ptr (some (H.n, 0))) ((H.push o1).push (.cells [(.bool false), (.slice ⟨none, 0, 0, false⟩), (.slice ⟨none, 0, 0, false⟩)] ty_api_Rat false))) fun t6_2 =>
 (bd (f_whole_Norm n [t6_2] ((H.push o1).push (.cells [(.bool false), (.slice ⟨none, 0, 0, false⟩), (.slice ⟨none, 0, 0, false⟩)] ty_api_Rat false))) fun r3 =>
 (bd (f_nat_Trim n [v1] r3.2) fun r4 =>
 (bd (stA 2 (.ptr (some (H.n, 0))) r3.1 r4.2) fun H5 =>
 (bd (lenSl r4.1) fun t11_6 =>
 (bd (arA .eql t11_6 (.int .i64 0)) fun t12_7 =>
 (bd (asB t12_7) fun b8 =>
 if b8 = true then
 (bd (bSl 1 ty_uint32 [(.int .u32 0)] 1 [(0, (.int .u32 1))]) fun o9 =>
 (bd (flA [(0, 2), (2, 1)] [(.bool false), (.slice ⟨none, 0, 0, false⟩), (.slice ⟨none, 0, 0, false⟩)] [(1, (.slice ⟨some (H5.n, 0), 1, 1, false⟩))]) fun t20_10 =>
 (bd (stA 3 (.ptr (some ((H.push o1).n, 0))) t20_10 (H5.push o9)) fun H11 =>
 (bd (ldN 3 (.ptr (some ((H.push o1).n, 0))) H11) fun t12 =>
 (some (t12, H11))))))
 else
 (bd (faA 1 (.ptr (some (H.n, 0)))) fun t14_13 =>
 (bd (ld1 t14_13 H5) fun t15_14 =>
 (bd (lenSl t15_14) fun t16_15 =>
 (bd (arA .eql t16_15 (.int .i64 0)) fun t17_16 =>
 (bd (asB t17_16) fun b17 =>
 if b17 = true then
 (bd (bSl 1 ty_uint32 [(.int .u32 0)] 1 [(0, (.int .u32 1))]) fun o18 =>
 (bd (flA [(0, 2), (2, 1)] [(.bool false), (.slice ⟨none, 0, 0, false⟩), (.slice ⟨none, 0, 0, false⟩)] [(1, (.slice ⟨some (H5.n, 0), 1, 1, false⟩))]) fun t20_19 =>
 (bd (stA 3 (.ptr (some ((H.push o1).n, 0))) t20_19 (H5.push o18)) fun H20 =>
 (bd (ldN 3 (.ptr (some ((H.push o1).n, 0))) H20) fun t21 =>
 (some (t21, H20))))))
 else
 (bd (faA 1 (.ptr (some (H.n, 0)))) fun t21_22 =>
 (bd (ld1 t21_22 H5) fun t22_23 =>
 (bd (f_nat_Gcd n [t22_23, r4.1] H5) fun r24 =>
 (bd (faA 1 (.ptr (some (H.n, 0)))) fun t26_25 =>
 (bd (ld1 t26_25 r24.2) fun t27_26 =>
 (bd (f_nat_DivMod n [t27_26, r24.1] r24.2) fun r27 =>
 (bd (extA r27.1 0) fun t30_28 =>
 (bd (extA r27.1 1) fun t31_29 =>
 (bd (extA r27.1 2) fun t32_30 =>
 (bd (faA 1 (.ptr (some (H.n, 0)))) fun t33_31 =>
 (bd (stA 1 t33_31 t30_28 r27.2) fun H32 =>
 (bd (f_nat_DivMod n [r4.1, r24.1] H32) fun r33 =>
 (bd (extA r33.1 0) fun t38_34 =>
 (bd (extA r33.1 1) fun t39_35 =>
 (bd (extA r33.1 2) fun t40_36 =>
 (bd (ldN 2 (.ptr (some (H.n, 0))) r33.2) fun t41_37 =>
 (bd (flA [(0, 2), (2, 1)] [(.bool false), (.slice ⟨none, 0, 0, false⟩), (.slice ⟨none, 0, 0, false⟩)] [(0, t41_37), (1, t38_34)]) fun t43_38 =>
 (bd (stA 3 (.ptr (some ((H.push o1).n, 0))) t43_38 r33.2) fun H39 =>
 (bd (ldN 3 (.ptr (some ((H.push o1).n, 0))) H39) fun t40 =>
 (some (t40, H39))))))))))))))))))))))))))))))))))
theorem rat_lowest_tot {v0 v1 : V} {H : Heap} {Q : V → Heap → Prop} (h : Tot (fun n => rat_lowest_b @bnd n v0 v1 H) Q) : Tot (fun n => f_rat_lowest n [v0, v1] H) Q := Tot.fn (fun n => bd_bnd (fun bd => rat_lowest_b bd n v0 v1 H) (by kernel_rfl)) h
/-! zellige/whole.Mul -/
@[simp] noncomputable def whole_Mul_b (bd : B2) (n : Nat) (v0 v1 : V) (H : Heap) : Option R :=
 (bd (boxA ty_api_Int v0) fun o1 =>
 (bd (boxA ty_api_Int v1) fun o2 =>
 (bd (faA 1 (.ptr (some (H.n, 0)))) fun t10_3 =>
 (bd (ld1 t10_3 ((((H.push o1).push o2).push (.cells [(.bool false), (.slice ⟨none, 0, 0, false⟩)] ty_api_Int false)).more 0)) fun t11_4 =>
 (bd (faA 1 (.ptr (some ((H.push o1).n, 0)))) fun t12_5 =>
 (bd (ld1 t12_5 ((((H.push o1).push o2).push (.cells [(.bool false), (.slice ⟨none, 0, 0, false⟩)] ty_api_Int false)).more 0)) fun t13_6 =>
 (bd (f_nat_Mul n [t11_4, t13_6] ((((H.push o1).push o2).push (.cells [(.bool false), (.slice ⟨none, 0, 0, false⟩)] ty_api_Int false)).more 0)) fun r7 =>
 (bd (faA 0 (.ptr (some (H.n, 0)))) fun t5_8 =>
 (bd (ld1 t5_8 r7.2) fun t6_9 =>
 (bd (chk (ld1 t5_8 ((((H.push o1).push o2).push (.cells [(.bool false), (.slice ⟨none, 0, 0, false⟩)] ty_api_Int false)).more 0)) t6_9) fun _ =>
 (bd (faA 0 (.ptr (some ((H.push o1).n, 0)))) fun t7_10 =>
 (bd (ld1 t7_10 r7.2) fun t8_11 =>
 (bd (chk (ld1 t7_10 ((((H.push o1).push o2).push (.cells [(.bool false), (.slice ⟨none, 0, 0, false⟩)] ty_api_Int false)).more 0)) t8_11) fun _ =>
 (bd (neqA P ty_bool t6_9 t8_11) fun t9_12 =>
 (bd (f_whole_norm n [t9_12, r7.1] r7.2) fun r13 =>
 (bd (stA 2 (.ptr (some (((H.push o1).push o2).n, 0))) r13.1 r13.2) fun H14 =>
 (bd (ldN 2 (.ptr (some (((H.push o1).push o2).n, 0))) H14) fun t15 =>
 (some (t15, H14)))))))))))))))))))
theorem whole_Mul_tot {v0 v1 : V} {H : Heap} {Q : V → Heap → Prop} (h : Tot (fun n => whole_Mul_b @bnd n v0 v1 H) Q) : Tot (fun n => f_whole_Mul n [v0, v1] H) Q := Tot.fn (fun n => bd_bnd (fun bd => whole_Mul_b bd n v0 v1 H) (by kernel_rfl)) h
/-! zellige/whole.norm -/
@[simp] noncomputable def whole_norm_b (bd : B2) (n : Nat) (v0 v1 : V) (H : Heap) : Option R :=
 (bd (f_nat_Trim n [v1] (H.push (.cells [(.bool false), (.slice ⟨none, 0, 0, false⟩)] ty_api_Int false))) fun r1 =>
 (bd (asB v0) fun b2 =>
 if b2 = true then
 (bd (lenSl r1.1) fun t10_3 =>
 (bd (arA .gtr t10_3 (.int .i64 0)) fun t11_4 =>
 (bd (flA [(0, 1), (1, 1)] [(.bool false), (.slice ⟨none, 0, 0, false⟩)] [(0, t11_4), (1, r1.1)]) fun t14_5 =>
 (bd (stA 2 (.ptr (some (H.n, 0))) t14_5 r1.2) fun H6 =>
 (bd (ldN 2 (.ptr (some (H.n, 0))) H6) fun t7 =>
 (some (t7, H6)))))))
 else
 (bd (flA [(0, 1), (1, 1)] [(.bool false), (.slice ⟨none, 0, 0, false⟩)] [(0, (.bool false)), (1, r1.1)]) fun t14_8 =>
 (bd (stA 2 (.ptr (some (H.n, 0))) t14_8 r1.2) fun H9 =>
 (bd (ldN 2 (.ptr (some (H.n, 0))) H9) fun t10 =>
 (some (t10, H9)))))))
theorem whole_norm_tot {v0 v1 : V} {H : Heap} {Q : V → Heap → Prop} (h : Tot (fun n => whole_norm_b @bnd n v0 v1 H) Q) : Tot (fun n => f_whole_norm n [v0, v1] H) Q := Tot.fn (fun n => bd_bnd (fun bd => whole_norm_b bd n v0 v1 H) (by kernel_rfl)) h
/-! zellige/nat.Of -/
@[simp] noncomputable def nat_Of_b (bd : B2) (n : Nat) (v0 : V) (H : Heap) : Option R :=
 (bd (cvInt .u32 v0) fun t4_1 =>
 (bd (shA .shr v0 (.int .u64 32)) fun t6_2 =>
 (bd (cvInt .u32 t6_2) fun t7_3 =>
 (bd (bSl 1 ty_uint32 [(.int .u32 0)] 2 [(0, t4_1), (1, t7_3)]) fun o4 =>
 (bd (f_nat_trim n [(.slice ⟨some (H.n, 0), 2, 1, false⟩)] (H.push o4)) fun r5 =>
 (bd (f_slices_Clone_api_Nat_uint32 n [r5.1] r5.2) fun r6 =>
 (some (r6.1, r6.2))))))))
theorem nat_Of_tot {v0 : V} {H : Heap} {Q : V → Heap → Prop} (h : Tot (fun n => nat_Of_b @bnd n v0 H) Q) : Tot (fun n => f_nat_Of n [v0] H) Q := Tot.fn (fun n => bd_bnd (fun bd => nat_Of_b bd n v0 H) (by kernel_rfl)) h
/-! zellige/whole.Add -/
@[simp] noncomputable def whole_Add_b (bd : B2) (n : Nat) (v0 v1 : V) (H : Heap) : Option R :=
 (bd (boxA ty_api_Int v0) fun o1 =>
 (bd (boxA ty_api_Int v1) fun o2 =>
 (bd (ldN 2 (.ptr (some (H.n, 0))) (((H.push o1).push o2).push (.cells [(.bool false), (.slice ⟨none, 0, 0, false⟩)] ty_api_Int false))) fun t5_3 =>
 (bd (ldN 2 (.ptr (some ((H.push o1).n, 0))) (((H.push o1).push o2).push (.cells [(.bool false), (.slice ⟨none, 0, 0, false⟩)] ty_api_Int false))) fun t6_4 =>
 (bd (f_whole_add n [t5_3, t6_4] (((H.push o1).push o2).push (.cells [(.bool false), (.slice ⟨none, 0, 0, false⟩)] ty_api_Int false))) fun r5 =>
 (bd (stA 2 (.ptr (some (((H.push o1).push o2).n, 0))) r5.1 r5.2) fun H6 =>
 (bd (ldN 2 (.ptr (some (((H.push o1).push o2).n, 0))) H6) fun t7 =>
 (some (t7, H6)))))))))
theorem whole_Add_tot {v0 v1 : V} {H : Heap} {Q : V → Heap → Prop} (h : Tot (fun n => whole_Add_b @bnd n v0 v1 H) Q) : Tot (fun n => f_whole_Add n [v0, v1] H) Q := Tot.fn (fun n => bd_bnd (fun bd => whole_Add_b bd n v0 v1 H) (by kernel_rfl)) h
/-! zellige/rat.plain -/
@[simp] noncomputable def rat_plain_b (bd : B2) (n : Nat) (v0 : V) (H : Heap) : Option R :=
 (bd (flA [(0, 1), (1, 1)] [(.bool false), (.slice ⟨none, 0, 0, false⟩)] [(1, v0)]) fun t4_1 =>
 (bd (stA 2 (.ptr (some (H.n, 0))) t4_1 (H.push (.cells [(.bool false), (.slice ⟨none, 0, 0, false⟩)] ty_api_Int false))) fun H2 =>
 (bd (ldN 2 (.ptr (some (H.n, 0))) H2) fun t3 =>
 (some (t3, H2)))))
theorem rat_plain_tot {v0 : V} {H : Heap} {Q : V → Heap → Prop} (h : Tot (fun n => rat_plain_b @bnd n v0 H) Q) : Tot (fun n => f_rat_plain n [v0] H) Q := Tot.fn (fun n => bd_bnd (fun bd => rat_plain_b bd n v0 H) (by kernel_rfl)) h
/-! zellige/whole.Floor -/
@[simp] noncomputable def whole_Floor_b (bd : B2) (n : Nat) (v0 v1 : V) (H : Heap) : Option R :=
 (bd (boxA ty_api_Int v0) fun o1 =>
 (bd (boxA ty_api_Int v1) fun o2 =>
 (bd (faA 1 (.ptr (some (H.n, 0)))) fun t13_3 =>
 (bd (ld1 t13_3 ((((H.push o1).push o2).push (.cells [(.bool false), (.slice ⟨none, 0, 0, false⟩)] ty_api_Int false)).push (.cells [(.bool false), (.slice ⟨none, 0, 0, false⟩)] ty_api_Int false))) fun t14_4 =>
 (bd (faA 1 (.ptr (some ((H.push o1).n, 0)))) fun t15_5 =>
 (bd (ld1 t15_5 ((((H.push o1).push o2).push (.cells [(.bool false), (.slice ⟨none, 0, 0, false⟩)] ty_api_Int false)).push (.cells [(.bool false), (.slice ⟨none, 0, 0, false⟩)] ty_api_Int false))) fun t16_6 =>
 (bd (f_nat_DivMod n [t14_4, t16_6] ((((H.push o1).push o2).push (.cells [(.bool false), (.slice ⟨none, 0, 0, false⟩)] ty_api_Int false)).push (.cells [(.bool false), (.slice ⟨none, 0, 0, false⟩)] ty_api_Int false))) fun r7 =>
 (bd (extA r7.1 0) fun t18_8 =>
 (bd (extA r7.1 1) fun t19_9 =>
 (bd (extA r7.1 2) fun t20_10 =>
 (bd (arA .neq t20_10 (.int .i64 0)) fun t22_11 =>
 (bd (asB t22_11) fun b12 =>
 if b12 = true then
 (bd (flA [(0, 1), (1, 1)] [(.bool false), (.slice ⟨none, 0, 0, false⟩)] []) fun t23_13 =>
 (bd (flA [(0, 1), (1, 1)] [(.bool false), (.slice ⟨none, 0, 0, false⟩)] []) fun t24_14 =>
 (bd (stA 2 (.ptr (some (((H.push o1).push o2).n, 0))) t23_13 r7.2) fun H15 =>
 (bd (stA 2 (.ptr (some ((((H.push o1).push o2).push (.cells [(.bool false), (.slice ⟨none, 0, 0, false⟩)] ty_api_Int false)).n, 0))) t24_14 H15) fun H16 =>
 (bd (ldN 2 (.ptr (some (((H.push o1).push o2).n, 0))) H16) fun t17 =>
 (bd (ldN 2 (.ptr (some ((((H.push o1).push o2).push (.cells [(.bool false), (.slice ⟨none, 0, 0, false⟩)] ty_api_Int false)).n, 0))) H16) fun t18 =>
 (some (.tuple [t17, t18, t20_10], H16))))))))
 else
 (bd (faA 0 (.ptr (some (H.n, 0)))) fun t26_19 =>
 (bd (ld1 t26_19 (r7.2.more 2)) fun t27_20 =>
 (bd (faA 0 (.ptr (some ((H.push o1).n, 0)))) fun t28_21 =>
 (bd (ld1 t28_21 (r7.2.more 2)) fun t29_22 =>
 (bd (neqA P ty_bool t27_20 t29_22) fun t30_23 =>
 (bd (f_whole_norm n [t30_23, t18_8] (r7.2.more 2)) fun r24 =>
 (bd (faA 0 (.ptr (some (H.n, 0)))) fun t33_25 =>
 (bd (ld1 t33_25 r24.2) fun t34_26 =>
 (bd (chk (ld1 t33_25 (r7.2.more 2)) t34_26) fun _ =>
 (bd (f_whole_norm n [t34_26, t19_9] r24.2) fun r27 =>
 (bd (stA 2 (.ptr (some ((r7.2.n + 0), 0))) r24.1 ((r27.2.set (r7.2.n + 0) (.cells [(.bool false), (.slice ⟨none, 0, 0, false⟩)] ty_api_Int false)).set (r7.2.n + 1) (.cells [(.bool false), (.slice ⟨none, 0, 0, false⟩)] ty_api_Int false))) fun H28 =>
 (bd (stA 2 (.ptr (some ((r7.2.n + 1), 0))) r27.1 H28) fun H29 =>
 (bd (faA 0 (.ptr (some (H.n, 0)))) fun t37_30 =>
 (bd (ld1 t37_30 H29) fun t38_31 =>
 (bd (faA 0 (.ptr (some ((H.push o1).n, 0)))) fun t39_32 =>
 (bd (ld1 t39_32 H29) fun t40_33 =>
 (bd (neqA P ty_bool t38_31 t40_33) fun t41_34 =>
 (bd (asB t41_34) fun b35 =>
 if b35 = true then
 (bd (faA 1 (.ptr (some ((r7.2.n + 1), 0)))) fun t43_36 =>
 (bd (ld1 t43_36 H29) fun t44_37 =>
 (bd (lenSl t44_37) fun t45_38 =>
 (bd (arA .gtr t45_38 (.int .i64 0)) fun t46_39 =>
 (bd (asB t46_39) fun b40 =>
 if b40 = true then
 (bd (bSl 1 ty_uint32 [(.int .u32 0)] 1 [(0, (.int .u32 1))]) fun o41 =>
 (bd (f_whole_norm n [(.bool true), (.slice ⟨some ((H29.n + 0), 0), 1, 1, false⟩)] ((H29.more 1).set (H29.n + 0) o41)) fun r42 =>
 (bd (ldN 2 (.ptr (some ((r7.2.n + 0), 0))) r42.2) fun t48_43 =>
 (bd (chk (ldN 2 (.ptr (some ((r7.2.n + 0), 0))) (H29.more 1)) t48_43) fun _ =>
 (bd (f_whole_add n [t48_43, r42.1] r42.2) fun r44 =>
 (bd (ldN 2 (.ptr (some ((r7.2.n + 1), 0))) r44.2) fun t52_45 =>
 (bd (chk (ldN 2 (.ptr (some ((r7.2.n + 1), 0))) r42.2) t52_45) fun _ =>
 (bd (chk (ldN 2 (.ptr (some ((r7.2.n + 1), 0))) (H29.more 1)) t52_45) fun _ =>
 (bd (ldN 2 (.ptr (some ((H.push o1).n, 0))) r44.2) fun t53_46 =>
 (bd (chk (ldN 2 (.ptr (some ((H.push o1).n, 0))) r42.2) t53_46) fun _ =>
 (bd (chk (ldN 2 (.ptr (some ((H.push o1).n, 0))) (H29.more 1)) t53_46) fun _ =>
 (bd (f_whole_add n [t52_45, t53_46] r44.2) fun r47 =>
 (bd (stA 2 (.ptr (some ((r7.2.n + 0), 0))) r44.1 r47.2) fun H48 =>
 (bd (stA 2 (.ptr (some ((r7.2.n + 1), 0))) r47.1 H48) fun H49 =>
 (bd (ldN 2 (.ptr (some ((r7.2.n + 0), 0))) (H49.more 0)) fun t55_50 =>
 (bd (stA 2 (.ptr (some (((H.push o1).push o2).n, 0))) t55_50 (H49.more 0)) fun H51 =>
 (bd (ldN 2 (.ptr (some ((r7.2.n + 1), 0))) H51) fun t56_52 =>
 (bd (chk (ldN 2 (.ptr (some ((r7.2.n + 1), 0))) (H49.more 0)) t56_52) fun _ =>
 (bd (stA 2 (.ptr (some ((((H.push o1).push o2).push (.cells [(.bool false), (.slice ⟨none, 0, 0, false⟩)] ty_api_Int false)).n, 0))) t56_52 H51) fun H53 =>
 (bd (ldN 2 (.ptr (some (((H.push o1).push o2).n, 0))) H53) fun t54 =>
 (bd (ldN 2 (.ptr (some ((((H.push o1).push o2).push (.cells [(.bool false), (.slice ⟨none, 0, 0, false⟩)] ty_api_Int false)).n, 0))) H53) fun t55 =>
 (some (.tuple [t54, t55, (.int .i64 0)], H53)))))))))))))))))))))))
 else
 (bd (ldN 2 (.ptr (some ((r7.2.n + 0), 0))) (H29.more 0)) fun t55_56 =>
 (bd (stA 2 (.ptr (some (((H.push o1).push o2).n, 0))) t55_56 (H29.more 0)) fun H57 =>
 (bd (ldN 2 (.ptr (some ((r7.2.n + 1), 0))) H57) fun t56_58 =>
 (bd (chk (ldN 2 (.ptr (some ((r7.2.n + 1), 0))) (H29.more 0)) t56_58) fun _ =>
 (bd (stA 2 (.ptr (some ((((H.push o1).push o2).push (.cells [(.bool false), (.slice ⟨none, 0, 0, false⟩)] ty_api_Int false)).n, 0))) t56_58 H57) fun H59 =>
 (bd (ldN 2 (.ptr (some (((H.push o1).push o2).n, 0))) H59) fun t60 =>
 (bd (ldN 2 (.ptr (some ((((H.push o1).push o2).push (.cells [(.bool false), (.slice ⟨none, 0, 0, false⟩)] ty_api_Int false)).n, 0))) H59) fun t61 =>
 (some (.tuple [t60, t61, (.int .i64 0)], H59))))))))))))))
 else
 (bd (ldN 2 (.ptr (some ((r7.2.n + 0), 0))) (H29.more 0)) fun t55_62 =>
 (bd (stA 2 (.ptr (some (((H.push o1).push o2).n, 0))) t55_62 (H29.more 0)) fun H63 =>
 (bd (ldN 2 (.ptr (some ((r7.2.n + 1), 0))) H63) fun t56_64 =>
 (bd (chk (ldN 2 (.ptr (some ((r7.2.n + 1), 0))) (H29.more 0)) t56_64) fun _ =>
 (bd (stA 2 (.ptr (some ((((H.push o1).push o2).push (.cells [(.bool false), (.slice ⟨none, 0, 0, false⟩)] ty_api_Int false)).n, 0))) t56_64 H63) fun H65 =>
 (bd (ldN 2 (.ptr (some (((H.push o1).push o2).n, 0))) H65) fun t66 =>
 (bd (ldN 2 (.ptr (some ((((H.push o1).push o2).push (.cells [(.bool false), (.slice ⟨none, 0, 0, false⟩)] ty_api_Int false)).n, 0))) H65) fun t67 =>
 (some (.tuple [t66, t67, (.int .i64 0)], H65)))))))))))))))))))))))))))))))))))))))
theorem whole_Floor_tot {v0 v1 : V} {H : Heap} {Q : V → Heap → Prop} (h : Tot (fun n => whole_Floor_b @bnd n v0 v1 H) Q) : Tot (fun n => f_whole_Floor n [v0, v1] H) Q := Tot.fn (fun n => bd_bnd (fun bd => whole_Floor_b bd n v0 v1 H) (by kernel_rfl)) h
/-! zellige/nat.Add -/
@[irreducible] noncomputable def nat_Add.p0 (n : Nat) (v0 v1 : V) (H : Heap) : Option R := E C n 55 [1, 1] [(0, v0), (1, v1)] H (kR C 55)
@[irreducible] noncomputable def nat_Add.l1 (n m0 : Nat) (v1 v5 v6 v20 v21 v22 : V) (H : Heap) : Option R := Lp C n 55 [1, 1, 1, 1, 0, 1, 0, 0] m0 [(1, v1), (5, v5), (6, v6), (20, v20), (21, v21), (22, v22)] H (kB 0 (kC C n 55 [1, 1, 1, 1, 1] (kR C 55)))
@[irreducible] noncomputable def nat_Add.p2 (n m0 : Nat) (v1 v5 v6 v20 v21 v22 : V) (H : Heap) : Option R := E C n 55 [1, 1, 1, 1, 0, 1, 0, 0, 1, 1, 0, 0, 1, 1, 1] [(1, v1), (5, v5), (6, v6), (20, v20), (21, v21), (22, v22)] H (kB 1 (kC C n 55 [1, 1, 1, 1, 0, 1, 0, 0, 1, 1, 1] (kL C n 55 [1, 1, 1, 1, 0, 1, 0, 0] m0 (kB 0 (kC C n 55 [1, 1, 1, 1, 1] (kR C 55))))))
@[irreducible] noncomputable def nat_Add.p3 (n : Nat) (v5 v6 : V) (H : Heap) : Option R := E C n 55 [1, 1, 1, 1, 1] [(5, v5), (6, v6)] H (kR C 55)
@[simp] noncomputable def nat_Add.p0_b (bd : B2) (n : Nat) (v0 v1 : V) (H : Heap) : Option R :=
 (bd (lenSl v0) fun t17_1 =>
 (bd (arA .add t17_1 (.int .i64 1)) fun t18_2 =>
 (bd (mkSl 1 4 ty_uint32 [(.int .u32 0)] (.int .i64 0) t18_2) fun o3 =>
 (bd (lenSl v0) fun t21_4 =>
 (nat_Add.l1 n n v1 (.slice ⟨some (H.n, 0), o3.2, 1, false⟩) (.int .u64 0) v0 t21_4 (.int .i64 0) (H.push o3.1))))))
theorem nat_Add.p0_tot {v0 v1 : V} {H : Heap} {Q : V → Heap → Prop} (h : Tot (fun n => nat_Add.p0_b @bnd n v0 v1 H) Q) : Tot (fun n => nat_Add.p0 n v0 v1 H) Q := Tot.eq (fun n => bd_bnd (fun bd => nat_Add.p0_b bd n v0 v1 H) (by kernel_rfl)) h
@[simp] noncomputable def nat_Add.l1_b (bd : B2) (n m0 : Nat) (v1 v5 v6 v20 v21 v22 : V) (H : Heap) : Option R :=
 (bd (arA .lss v22 v21) fun t23_1 =>
 (bd (asB t23_1) fun b2 =>
 if b2 = true then
 (bd (idxS 1 v20 v22) fun t25_3 =>
 (bd (ld1 t25_3 H) fun t26_4 =>
 (bd (cvInt .u64 t26_4) fun t29_5 =>
 (bd (arA .add v6 t29_5) fun t30_6 =>
 (bd (lenSl v1) fun t33_7 =>
 (bd (arA .lss v22 t33_7) fun t34_8 =>
 (bd (asB t34_8) fun b9 =>
 if b9 = true then
 (bd (idxS 1 v1 v22) fun t38_10 =>
 (bd (ld1 t38_10 H) fun t39_11 =>
 (bd (cvInt .u64 t39_11) fun t40_12 =>
 (bd (arA .add t30_6 t40_12) fun t41_13 =>
 (nat_Add.p2 n m0 v1 v5 t41_13 v20 v21 v22 H)))))
 else
 (nat_Add.p2 n m0 v1 v5 t30_6 v20 v21 v22 H))))))))
 else
 (nat_Add.p3 n v5 v6 H)))
theorem nat_Add.l1_tot {m0 : Nat → Nat} {v1 v5 v6 v20 v21 v22 : V} {H : Heap} {Q : V → Heap → Prop} (hb : Big m0) (h : ∀ m0', Big m0' → Tot (fun n => nat_Add.l1_b @bnd n (m0' n) v1 v5 v6 v20 v21 v22 H) Q) : Tot (fun n => nat_Add.l1 n (m0 n) v1 v5 v6 v20 v21 v22 H) Q :=
  Tot.loop (f := fun n k => nat_Add.l1 n k v1 v5 v6 v20 v21 v22 H) (g := fun n k => nat_Add.l1_b @bnd n k v1 v5 v6 v20 v21 v22 H) hb (fun n k => bd_bnd (fun bd => nat_Add.l1_b bd n k v1 v5 v6 v20 v21 v22 H) (by kernel_rfl)) h
@[simp] noncomputable def nat_Add.p2_b (bd : B2) (n m0 : Nat) (v1 v5 v6 v20 v21 v22 : V) (H : Heap) : Option R :=
 (bd (cvInt .u32 v6) fun t44_1 =>
 (bd (bSl 1 ty_uint32 [(.int .u32 0)] 1 [(0, t44_1)]) fun o2 =>
 (bd (appA 1 4 ty_uint32 v5 (.slice ⟨some (H.n, 0), 1, 1, false⟩) (H.push o2)) fun p3 =>
 (bd (shA .shr v6 (.int .u64 32)) fun t48_4 =>
 (bd (arA .add v22 (.int .i64 1)) fun t49_5 =>
 (nat_Add.l1 n m0 v1 p3.1 t48_4 v20 v21 t49_5 p3.2))))))
theorem nat_Add.p2_tot {m0 : Nat → Nat} {v1 v5 v6 v20 v21 v22 : V} {H : Heap} {Q : V → Heap → Prop} (h : Tot (fun n => nat_Add.p2_b @bnd n (m0 n) v1 v5 v6 v20 v21 v22 H) Q) : Tot (fun n => nat_Add.p2 n (m0 n) v1 v5 v6 v20 v21 v22 H) Q := Tot.eq (fun n => bd_bnd (fun bd => nat_Add.p2_b bd n (m0 n) v1 v5 v6 v20 v21 v22 H) (by kernel_rfl)) h
@[simp] noncomputable def nat_Add.p3_b (bd : B2) (n : Nat) (v5 v6 : V) (H : Heap) : Option R :=
 (bd (cvInt .u32 v6) fun t52_1 =>
 (bd (bSl 1 ty_uint32 [(.int .u32 0)] 1 [(0, t52_1)]) fun o2 =>
 (bd (appA 1 4 ty_uint32 v5 (.slice ⟨some (H.n, 0), 1, 1, false⟩) (H.push o2)) fun p3 =>
 (bd (f_nat_trim n [p3.1] p3.2) fun r4 =>
 (some (r4.1, r4.2))))))
theorem nat_Add.p3_tot {v5 v6 : V} {H : Heap} {Q : V → Heap → Prop} (h : Tot (fun n => nat_Add.p3_b @bnd n v5 v6 H) Q) : Tot (fun n => nat_Add.p3 n v5 v6 H) Q := Tot.eq (fun n => bd_bnd (fun bd => nat_Add.p3_b bd n v5 v6 H) (by kernel_rfl)) h
@[simp] noncomputable def nat_Add_b (bd : B2) (n : Nat) (v0 v1 : V) (H : Heap) : Option R :=
 (bd (lenSl v0) fun t10_1 =>
 (bd (lenSl v1) fun t12_2 =>
 (bd (arA .lss t10_1 t12_2) fun t13_3 =>
 (bd (asB t13_3) fun b4 =>
 if b4 = true then
 (nat_Add.p0 n v1 v0 H)
 else
 (nat_Add.p0 n v0 v1 H)))))
theorem nat_Add_tot {v0 v1 : V} {H : Heap} {Q : V → Heap → Prop} (h : Tot (fun n => nat_Add_b @bnd n v0 v1 H) Q) : Tot (fun n => f_nat_Add n [v0, v1] H) Q := Tot.fn (fun n => bd_bnd (fun bd => nat_Add_b bd n v0 v1 H) (by kernel_rfl)) h
/-! zellige/nat.Mul -/
@[irreducible] noncomputable def nat_Mul.l0 (n m0 : Nat) (v1 v5 v17 v18 v19 : V) (H : Heap) : Option R := Lp C n 56 [1, 1, 0, 1, 0, 0] m0 [(1, v1), (5, v5), (17, v17), (18, v18), (19, v19)] H (kB 0 (kC C n 56 [1, 1, 1] (kR C 56)))
@[irreducible] noncomputable def nat_Mul.l1 (n m0 m1 : Nat) (v1 v5 v6 v7 v8 v17 v18 v19 v24 v25 v26 : V) (H : Heap) : Option R := Lp C n 56 [1, 1, 0, 1, 0, 0, 1, 1, 0, 0, 1, 1, 0, 1, 0, 0] m1 [(1, v1), (5, v5), (6, v6), (7, v7), (8, v8), (17, v17), (18, v18), (19, v19), (24, v24), (25, v25), (26, v26)] H (kB 2 (kC C n 56 [1, 1, 0, 1, 0, 0, 1, 1, 0, 0, 1, 1, 1] (kB 1 (kC C n 56 [1, 1, 0, 1, 0, 0, 1, 1, 1] (kL C n 56 [1, 1, 0, 1, 0, 0] m0 (kB 0 (kC C n 56 [1, 1, 1] (kR C 56))))))))
@[irreducible] noncomputable def nat_Mul.p2 (n m0 : Nat) (v1 v5 v6 v8 v17 v18 v19 : V) (H : Heap) : Option R := E C n 56 [1, 1, 0, 1, 0, 0, 1, 1, 0, 0, 1, 1, 1] [(1, v1), (5, v5), (6, v6), (8, v8), (17, v17), (18, v18), (19, v19)] H (kB 1 (kC C n 56 [1, 1, 0, 1, 0, 0, 1, 1, 1] (kL C n 56 [1, 1, 0, 1, 0, 0] m0 (kB 0 (kC C n 56 [1, 1, 1] (kR C 56))))))
@[simp] noncomputable def nat_Mul.l0_b (bd : B2) (n m0 : Nat) (v1 v5 v17 v18 v19 : V) (H : Heap) : Option R :=
 (bd (arA .lss v19 v18) fun t20_1 =>
 (bd (asB t20_1) fun b2 =>
 if b2 = true then
 (bd (idxS 1 v17 v19) fun t22_3 =>
 (bd (ld1 t22_3 H) fun t23_4 =>
 (bd (lenSl v1) fun t25_5 =>
 (nat_Mul.l1 n m0 n v1 v5 v19 t23_4 (.int .u64 0) v17 v18 v19 v1 t25_5 (.int .i64 0) H))))
 else
 (bd (f_nat_trim n [v5] H) fun r6 =>
 (some (r6.1, r6.2)))))
theorem nat_Mul.l0_tot {m0 : Nat → Nat} {v1 v5 v17 v18 v19 : V} {H : Heap} {Q : V → Heap → Prop} (hb : Big m0) (h : ∀ m0', Big m0' → Tot (fun n => nat_Mul.l0_b @bnd n (m0' n) v1 v5 v17 v18 v19 H) Q) : Tot (fun n => nat_Mul.l0 n (m0 n) v1 v5 v17 v18 v19 H) Q :=
  Tot.loop (f := fun n k => nat_Mul.l0 n k v1 v5 v17 v18 v19 H) (g := fun n k => nat_Mul.l0_b @bnd n k v1 v5 v17 v18 v19 H) hb (fun n k => bd_bnd (fun bd => nat_Mul.l0_b bd n k v1 v5 v17 v18 v19 H) (by kernel_rfl)) h
@[simp] noncomputable def nat_Mul.l1_b (bd : B2) (n m0 m1 : Nat) (v1 v5 v6 v7 v8 v17 v18 v19 v24 v25 v26 : V) (H : Heap) : Option R :=
 (bd (arA .lss v26 v25) fun t27_1 =>
 (bd (asB t27_1) fun b2 =>
 if b2 = true then
 (bd (idxS 1 v24 v26) fun t29_3 =>
 (bd (ld1 t29_3 H) fun t30_4 =>
 (bd (arA .add v6 v26) fun t35_5 =>
 (bd (idxS 1 v5 t35_5) fun t36_6 =>
 (bd (ld1 t36_6 H) fun t37_7 =>
 (bd (cvInt .u64 t37_7) fun t38_8 =>
 (bd (cvInt .u64 v7) fun t40_9 =>
 (bd (cvInt .u64 t30_4) fun t42_10 =>
 (bd (arA .mul t40_9 t42_10) fun t43_11 =>
 (bd (arA .add t38_8 t43_11) fun t44_12 =>
 (bd (arA .add v8 t44_12) fun t45_13 =>
 (bd (arA .add v6 v26) fun t49_14 =>
 (bd (cvInt .u32 t45_13) fun t51_15 =>
 (bd (idxS 1 v5 t49_14) fun t52_16 =>
 (bd (stA 1 t52_16 t51_15 H) fun H17 =>
 (bd (shA .shr t45_13 (.int .u64 32)) fun t54_18 =>
 (bd (arA .add v26 (.int .i64 1)) fun t55_19 =>
 (nat_Mul.l1 n m0 m1 v1 v5 v6 v7 t54_18 v17 v18 v19 v24 v25 t55_19 H17))))))))))))))))))
 else
 (nat_Mul.p2 n m0 v1 v5 v6 v8 v17 v18 v19 H)))
theorem nat_Mul.l1_tot {m0 : Nat → Nat} {m1 : Nat → Nat} {v1 v5 v6 v7 v8 v17 v18 v19 v24 v25 v26 : V} {H : Heap} {Q : V → Heap → Prop} (hb : Big m1) (h : ∀ m1', Big m1' → Tot (fun n => nat_Mul.l1_b @bnd n (m0 n) (m1' n) v1 v5 v6 v7 v8 v17 v18 v19 v24 v25 v26 H) Q) : Tot (fun n => nat_Mul.l1 n (m0 n) (m1 n) v1 v5 v6 v7 v8 v17 v18 v19 v24 v25 v26 H) Q :=
  Tot.loop (f := fun n k => nat_Mul.l1 n (m0 n) k v1 v5 v6 v7 v8 v17 v18 v19 v24 v25 v26 H) (g := fun n k => nat_Mul.l1_b @bnd n (m0 n) k v1 v5 v6 v7 v8 v17 v18 v19 v24 v25 v26 H) hb (fun n k => bd_bnd (fun bd => nat_Mul.l1_b bd n (m0 n) k v1 v5 v6 v7 v8 v17 v18 v19 v24 v25 v26 H) (by kernel_rfl)) h
@[simp] noncomputable def nat_Mul.p2_b (bd : B2) (n m0 : Nat) (v1 v5 v6 v8 v17 v18 v19 : V) (H : Heap) : Option R :=
 (bd (lenSl v1) fun t59_1 =>
 (bd (arA .add v6 t59_1) fun t60_2 =>
 (bd (cvInt .u32 v8) fun t62_3 =>
 (bd (idxS 1 v5 t60_2) fun t63_4 =>
 (bd (stA 1 t63_4 t62_3 H) fun H5 =>
 (bd (arA .add v19 (.int .i64 1)) fun t64_6 =>
 (nat_Mul.l0 n m0 v1 v5 v17 v18 t64_6 H5)))))))
theorem nat_Mul.p2_tot {m0 : Nat → Nat} {v1 v5 v6 v8 v17 v18 v19 : V} {H : Heap} {Q : V → Heap → Prop} (h : Tot (fun n => nat_Mul.p2_b @bnd n (m0 n) v1 v5 v6 v8 v17 v18 v19 H) Q) : Tot (fun n => nat_Mul.p2 n (m0 n) v1 v5 v6 v8 v17 v18 v19 H) Q := Tot.eq (fun n => bd_bnd (fun bd => nat_Mul.p2_b bd n (m0 n) v1 v5 v6 v8 v17 v18 v19 H) (by kernel_rfl)) h
@[simp] noncomputable def nat_Mul_b (bd : B2) (n : Nat) (v0 v1 : V) (H : Heap) : Option R :=
 (bd (lenSl v0) fun t12_1 =>
 (bd (lenSl v1) fun t14_2 =>
 (bd (arA .add t12_1 t14_2) fun t15_3 =>
 (bd (mkSl 1 4 ty_uint32 [(.int .u32 0)] t15_3 t15_3) fun o4 =>
 (bd (lenSl v0) fun t18_5 =>
 (nat_Mul.l0 n n v1 (.slice ⟨some (H.n, 0), o4.2, 1, false⟩) v0 t18_5 (.int .i64 0) (H.push o4.1)))))))
theorem nat_Mul_tot {v0 v1 : V} {H : Heap} {Q : V → Heap → Prop} (h : Tot (fun n => nat_Mul_b @bnd n v0 v1 H) Q) : Tot (fun n => f_nat_Mul n [v0, v1] H) Q := Tot.fn (fun n => bd_bnd (fun bd => nat_Mul_b bd n v0 v1 H) (by kernel_rfl)) h
/-! zellige/nat.show -/
@[irreducible] noncomputable def nat_show.l0 (n m0 : Nat) (v0 v3 : V) (H : Heap) : Option R := Lp C n 57 [1, 1, 1, 0, 0, 0] m0 [(0, v0), (3, v3)] H (kB 0 (kC C n 57 [1, 1, 1, 1] (kR C 57)))
@[irreducible] noncomputable def nat_show.l1 (n m0 m1 : Nat) (v0 v3 v4 v15 : V) (H : Heap) : Option R := Lp C n 57 [1, 1, 1, 0, 0, 0, 1, 0, 1, 1, 1, 0, 0] m1 [(0, v0), (3, v3), (4, v4), (15, v15)] H (kB 2 (kB 1 (kL C n 57 [1, 1, 1, 0, 0, 0] m0 (kB 0 (kC C n 57 [1, 1, 1, 1] (kR C 57))))))
@[irreducible] noncomputable def nat_show.p2 (n : Nat) (v3 : V) (H : Heap) : Option R := E C n 57 [1, 1, 1, 1] [(3, v3)] H (kR C 57)
@[irreducible] noncomputable def nat_show.l3 (n m0 : Nat) (v3 : V) (H : Heap) : Option R := Lp C n 57 [1, 1, 1, 1, 0, 0, 0] m0 [(3, v3)] H (kB 4 (kC C n 57 [1, 1, 1, 1, 1] (kR C 57)))
@[irreducible] noncomputable def nat_show.p4 (n : Nat) (v3 : V) (H : Heap) : Option R := E C n 57 [1, 1, 1, 1, 1] [(3, v3)] H (kR C 57)
@[simp] noncomputable def nat_show.l0_b (bd : B2) (n m0 : Nat) (v0 v3 : V) (H : Heap) : Option R :=
 (bd (lenSl v0) fun t9_1 =>
 (bd (arA .gtr t9_1 (.int .i64 0)) fun t10_2 =>
 (bd (asB t10_2) fun b3 =>
 if b3 = true then
 (bd (f_nat_short n [v0, (.int .u32 1000000000)] H) fun r4 =>
 (bd (f_nat_trim n [v0] r4.2) fun r5 =>
 (nat_show.l1 n m0 n r5.1 v3 r4.1 (.int .i64 0) r5.2)))
 else
 (nat_show.p2 n v3 H))))
theorem nat_show.l0_tot {m0 : Nat → Nat} {v0 v3 : V} {H : Heap} {Q : V → Heap → Prop} (hb : Big m0) (h : ∀ m0', Big m0' → Tot (fun n => nat_show.l0_b @bnd n (m0' n) v0 v3 H) Q) : Tot (fun n => nat_show.l0 n (m0 n) v0 v3 H) Q :=
  Tot.loop (f := fun n k => nat_show.l0 n k v0 v3 H) (g := fun n k => nat_show.l0_b @bnd n k v0 v3 H) hb (fun n k => bd_bnd (fun bd => nat_show.l0_b bd n k v0 v3 H) (by kernel_rfl)) h
@[simp] noncomputable def nat_show.l1_b (bd : B2) (n m0 m1 : Nat) (v0 v3 v4 v15 : V) (H : Heap) : Option R :=
 (bd (arA .lss v15 (.int .i64 9)) fun t16_1 =>
 (bd (asB t16_1) fun b2 =>
 if b2 = true then
 (bd (arA .rem v4 (.int .u32 10)) fun t19_3 =>
 (bd (arA .add (.int .u32 48) t19_3) fun t20_4 =>
 (bd (cvInt .u8 t20_4) fun t21_5 =>
 (bd (bSl 1 ty_uint8 [(.int .u8 0)] 1 [(0, t21_5)]) fun o6 =>
 (bd (appA 1 1 ty_uint8 v3 (.slice ⟨some (H.n, 0), 1, 1, false⟩) (H.push o6)) fun p7 =>
 (bd (arA .quo v4 (.int .u32 10)) fun t25_8 =>
 (bd (arA .add v15 (.int .i64 1)) fun t26_9 =>
 (nat_show.l1 n m0 m1 v0 p7.1 t25_8 t26_9 p7.2))))))))
 else
 (nat_show.l0 n m0 v0 v3 H)))
theorem nat_show.l1_tot {m0 : Nat → Nat} {m1 : Nat → Nat} {v0 v3 v4 v15 : V} {H : Heap} {Q : V → Heap → Prop} (hb : Big m1) (h : ∀ m1', Big m1' → Tot (fun n => nat_show.l1_b @bnd n (m0 n) (m1' n) v0 v3 v4 v15 H) Q) : Tot (fun n => nat_show.l1 n (m0 n) (m1 n) v0 v3 v4 v15 H) Q :=
  Tot.loop (f := fun n k => nat_show.l1 n (m0 n) k v0 v3 v4 v15 H) (g := fun n k => nat_show.l1_b @bnd n (m0 n) k v0 v3 v4 v15 H) hb (fun n k => bd_bnd (fun bd => nat_show.l1_b bd n (m0 n) k v0 v3 v4 v15 H) (by kernel_rfl)) h
@[simp] noncomputable def nat_show.p2_b (bd : B2) (n : Nat) (v3 : V) (H : Heap) : Option R :=
 (nat_show.l3 n n v3 H)
theorem nat_show.p2_tot {v3 : V} {H : Heap} {Q : V → Heap → Prop} (h : Tot (fun n => nat_show.p2_b @bnd n v3 H) Q) : Tot (fun n => nat_show.p2 n v3 H) Q := Tot.eq (fun n => bd_bnd (fun bd => nat_show.p2_b bd n v3 H) (by kernel_rfl)) h
@[simp] noncomputable def nat_show.l3_b (bd : B2) (n m0 : Nat) (v3 : V) (H : Heap) : Option R :=
 (bd (lenSl v3) fun t28_1 =>
 (bd (arA .gtr t28_1 (.int .i64 0)) fun t29_2 =>
 (bd (asB t29_2) fun b3 =>
 if b3 = true then
 (bd (lenSl v3) fun t33_4 =>
 (bd (arA .sub t33_4 (.int .i64 1)) fun t34_5 =>
 (bd (idxS 1 v3 t34_5) fun t35_6 =>
 (bd (ld1 t35_6 H) fun t36_7 =>
 (bd (arA .eql t36_7 (.int .u8 48)) fun t37_8 =>
 (bd (asB t37_8) fun b9 =>
 if b9 = true then
 (bd (lenSl v3) fun t41_10 =>
 (bd (arA .sub t41_10 (.int .i64 1)) fun t42_11 =>
 (bd (slSl 1 v3 none (some t42_11)) fun t43_12 =>
 (nat_show.l3 n m0 t43_12 H))))
 else
 (nat_show.p4 n v3 H)))))))
 else
 (nat_show.p4 n v3 H))))
theorem nat_show.l3_tot {m0 : Nat → Nat} {v3 : V} {H : Heap} {Q : V → Heap → Prop} (hb : Big m0) (h : ∀ m0', Big m0' → Tot (fun n => nat_show.l3_b @bnd n (m0' n) v3 H) Q) : Tot (fun n => nat_show.l3 n (m0 n) v3 H) Q :=
  Tot.loop (f := fun n k => nat_show.l3 n k v3 H) (g := fun n k => nat_show.l3_b @bnd n k v3 H) hb (fun n k => bd_bnd (fun bd => nat_show.l3_b bd n k v3 H) (by kernel_rfl)) h
@[simp] noncomputable def nat_show.p4_b (bd : B2) (n : Nat) (v3 : V) (H : Heap) : Option R :=
 (bd (lenSl v3) fun t45_1 =>
 (bd (arA .eql t45_1 (.int .i64 0)) fun t46_2 =>
 (bd (asB t46_2) fun b3 =>
 if b3 = true then
 (some ((.str [48]), H))
 else
 (bd (f_slices_Reverse_byte_byte n [v3] H) fun r4 =>
 (bd (cvBytes v3 r4.2) fun t50_5 =>
 (some (t50_5, r4.2)))))))
theorem nat_show.p4_tot {v3 : V} {H : Heap} {Q : V → Heap → Prop} (h : Tot (fun n => nat_show.p4_b @bnd n v3 H) Q) : Tot (fun n => nat_show.p4 n v3 H) Q := Tot.eq (fun n => bd_bnd (fun bd => nat_show.p4_b bd n v3 H) (by kernel_rfl)) h
@[simp] noncomputable def nat_show_b (bd : B2) (n : Nat) (v0 : V) (H : Heap) : Option R :=
 (bd (f_nat_trim n [v0] H) fun r1 =>
 (bd (f_slices_Clone_api_Nat_uint32 n [r1.1] r1.2) fun r2 =>
 (nat_show.l0 n n r2.1 (.slice ⟨none, 0, 0, false⟩) r2.2)))
theorem nat_show_tot {v0 : V} {H : Heap} {Q : V → Heap → Prop} (h : Tot (fun n => nat_show_b @bnd n v0 H) Q) : Tot (fun n => f_nat_show n [v0] H) Q := Tot.fn (fun n => bd_bnd (fun bd => nat_show_b bd n v0 H) (by kernel_rfl)) h
/-! zellige/whole.sign -/
@[simp] noncomputable def whole_sign_b (bd : B2) (n : Nat) (v0 : V) (H : Heap) : Option R :=
 (bd (boxA ty_api_Int v0) fun o1 =>
 (bd (faA 1 (.ptr (some (H.n, 0)))) fun t4_2 =>
 (bd (ld1 t4_2 (H.push o1)) fun t5_3 =>
 (bd (f_nat_Bits n [t5_3] (H.push o1)) fun r4 =>
 (bd (arA .eql r4.1 (.int .i64 0)) fun t7_5 =>
 (bd (asB t7_5) fun b6 =>
 if b6 = true then
 (some ((.int .i64 0), r4.2))
 else
 (bd (faA 0 (.ptr (some (H.n, 0)))) fun t9_7 =>
 (bd (ld1 t9_7 r4.2) fun t10_8 =>
 (bd (asB t10_8) fun b9 =>
 if b9 = true then
 (some ((.int .i64 (-1)), r4.2))
 else
 (some ((.int .i64 1), r4.2)))))))))))
theorem whole_sign_tot {v0 : V} {H : Heap} {Q : V → Heap → Prop} (h : Tot (fun n => whole_sign_b @bnd n v0 H) Q) : Tot (fun n => f_whole_sign n [v0] H) Q := Tot.fn (fun n => bd_bnd (fun bd => whole_sign_b bd n v0 H) (by kernel_rfl)) h
/-! zellige/zelligeref05.Floor -/
@[simp] noncomputable def ref05_Floor_b (bd : B2) (n : Nat) (v0 : V) (H : Heap) : Option R :=
 (bd (boxA ty_ref05_Rat v0) fun o1 =>
 (bd (faA 0 (.ptr (some (H.n, 0)))) fun t6_2 =>
 (bd (ldN 2 t6_2 ((H.push o1).push (.cells [(.int .i64 0), (.slice ⟨none, 0, 0, false⟩)] ty_ref04_Int false))) fun t7_3 =>
 (bd (faA 2 (.ptr (some (H.n, 0)))) fun t8_4 =>
 (bd (ldN 2 t8_4 ((H.push o1).push (.cells [(.int .i64 0), (.slice ⟨none, 0, 0, false⟩)] ty_ref04_Int false))) fun t9_5 =>
 (bd (f_ref04_Floor n [t7_3, t9_5] ((H.push o1).push (.cells [(.int .i64 0), (.slice ⟨none, 0, 0, false⟩)] ty_ref04_Int false))) fun r6 =>
 (bd (extA r6.1 0) fun t11_7 =>
 (bd (extA r6.1 1) fun t12_8 =>
 (bd (stA 2 (.ptr (some (r6.2.n, 0))) t11_7 ((r6.2.push (.cells [(.int .i64 0), (.slice ⟨none, 0, 0, false⟩)] ty_ref04_Int false)).push (.cells [(.int .i64 0), (.slice ⟨none, 0, 0, false⟩)] ty_ref04_Int false))) fun H9 =>
 (bd (stA 2 (.ptr (some ((r6.2.push (.cells [(.int .i64 0), (.slice ⟨none, 0, 0, false⟩)] ty_ref04_Int false)).n, 0))) t12_8 H9) fun H10 =>
 (bd (ldN 2 (.ptr (some (r6.2.n, 0))) H10) fun t13_11 =>
 (bd (stA 2 (.ptr (some ((H.push o1).n, 0))) t13_11 H10) fun H12 =>
 (bd (ldN 2 (.ptr (some ((H.push o1).n, 0))) H12) fun t13 =>
 (some (t13, H12)))))))))))))))
theorem ref05_Floor_tot {v0 : V} {H : Heap} {Q : V → Heap → Prop} (h : Tot (fun n => ref05_Floor_b @bnd n v0 H) Q) : Tot (fun n => f_ref05_Floor n [v0] H) Q := Tot.fn (fun n => bd_bnd (fun bd => ref05_Floor_b bd n v0 H) (by kernel_rfl)) h
/-! zellige/whole.neg -/
@[simp] noncomputable def whole_neg_b (bd : B2) (n : Nat) (v0 : V) (H : Heap) : Option R :=
 (bd (boxA ty_api_Int v0) fun o1 =>
 (bd (faA 0 (.ptr (some (H.n, 0)))) fun t3_2 =>
 (bd (ld1 t3_2 ((H.push o1).push (.cells [(.bool false), (.slice ⟨none, 0, 0, false⟩)] ty_api_Int false))) fun t4_3 =>
 (bd (unA .not t4_3) fun t5_4 =>
 (bd (faA 1 (.ptr (some (H.n, 0)))) fun t6_5 =>
 (bd (ld1 t6_5 ((H.push o1).push (.cells [(.bool false), (.slice ⟨none, 0, 0, false⟩)] ty_api_Int false))) fun t7_6 =>
 (bd (f_whole_norm n [t5_4, t7_6] ((H.push o1).push (.cells [(.bool false), (.slice ⟨none, 0, 0, false⟩)] ty_api_Int false))) fun r7 =>
 (bd (stA 2 (.ptr (some ((H.push o1).n, 0))) r7.1 r7.2) fun H8 =>
 (bd (ldN 2 (.ptr (some ((H.push o1).n, 0))) H8) fun t9 =>
 (some (t9, H8)))))))))))
theorem whole_neg_tot {v0 : V} {H : Heap} {Q : V → Heap → Prop} (h : Tot (fun n => whole_neg_b @bnd n v0 H) Q) : Tot (fun n => f_whole_neg n [v0] H) Q := Tot.fn (fun n => bd_bnd (fun bd => whole_neg_b bd n v0 H) (by kernel_rfl)) h
/-! zellige/whole.Norm -/
@[simp] noncomputable def whole_Norm_b (bd : B2) (n : Nat) (v0 : V) (H : Heap) : Option R :=
 (bd (boxA ty_api_Int v0) fun o1 =>
 (bd (faA 0 (.ptr (some (H.n, 0)))) fun t3_2 =>
 (bd (ld1 t3_2 ((H.push o1).push (.cells [(.bool false), (.slice ⟨none, 0, 0, false⟩)] ty_api_Int false))) fun t4_3 =>
 (bd (faA 1 (.ptr (some (H.n, 0)))) fun t5_4 =>
 (bd (ld1 t5_4 ((H.push o1).push (.cells [(.bool false), (.slice ⟨none, 0, 0, false⟩)] ty_api_Int false))) fun t6_5 =>
 (bd (f_whole_norm n [t4_3, t6_5] ((H.push o1).push (.cells [(.bool false), (.slice ⟨none, 0, 0, false⟩)] ty_api_Int false))) fun r6 =>
 (bd (stA 2 (.ptr (some ((H.push o1).n, 0))) r6.1 r6.2) fun H7 =>
 (bd (ldN 2 (.ptr (some ((H.push o1).n, 0))) H7) fun t8 =>
 (some (t8, H7))))))))))
theorem whole_Norm_tot {v0 : V} {H : Heap} {Q : V → Heap → Prop} (h : Tot (fun n => whole_Norm_b @bnd n v0 H) Q) : Tot (fun n => f_whole_Norm n [v0] H) Q := Tot.fn (fun n => bd_bnd (fun bd => whole_Norm_b bd n v0 H) (by kernel_rfl)) h
/-! zellige/nat.Trim -/
@[simp] noncomputable def nat_Trim_b (bd : B2) (n : Nat) (v0 : V) (H : Heap) : Option R :=
 (bd (f_nat_trim n [v0] H) fun r1 =>
 (bd (f_slices_Clone_api_Nat_uint32 n [r1.1] r1.2) fun r2 =>
 (some (r2.1, r2.2))))
theorem nat_Trim_tot {v0 : V} {H : Heap} {Q : V → Heap → Prop} (h : Tot (fun n => nat_Trim_b @bnd n v0 H) Q) : Tot (fun n => f_nat_Trim n [v0] H) Q := Tot.fn (fun n => bd_bnd (fun bd => nat_Trim_b bd n v0 H) (by kernel_rfl)) h
/-! zellige/nat.Gcd -/
@[irreducible] noncomputable def nat_Gcd.l0 (n m0 : Nat) (v0 v1 : V) (H : Heap) : Option R := Lp C n 69 [1, 1, 0, 0, 0] m0 [(0, v0), (1, v1)] H (kB 0 (kC C n 69 [1, 1, 1] (kR C 69)))
@[simp] noncomputable def nat_Gcd.l0_b (bd : B2) (n m0 : Nat) (v0 v1 : V) (H : Heap) : Option R :=
 (bd (lenSl v1) fun t14_1 =>
 (bd (arA .gtr t14_1 (.int .i64 0)) fun t15_2 =>
 (bd (asB t15_2) fun b3 =>
 if b3 = true then
 (bd (f_nat_divmod n [v0, v1] H) fun r4 =>
 (bd (extA r4.1 0) fun t20_5 =>
 (bd (extA r4.1 1) fun t21_6 =>
 (nat_Gcd.l0 n m0 v1 t21_6 r4.2))))
 else
 (some (v0, H)))))
theorem nat_Gcd.l0_tot {m0 : Nat → Nat} {v0 v1 : V} {H : Heap} {Q : V → Heap → Prop} (hb : Big m0) (h : ∀ m0', Big m0' → Tot (fun n => nat_Gcd.l0_b @bnd n (m0' n) v0 v1 H) Q) : Tot (fun n => nat_Gcd.l0 n (m0 n) v0 v1 H) Q :=
  Tot.loop (f := fun n k => nat_Gcd.l0 n k v0 v1 H) (g := fun n k => nat_Gcd.l0_b @bnd n k v0 v1 H) hb (fun n k => bd_bnd (fun bd => nat_Gcd.l0_b bd n k v0 v1 H) (by kernel_rfl)) h
@[simp] noncomputable def nat_Gcd_b (bd : B2) (n : Nat) (v0 v1 : V) (H : Heap) : Option R :=
 (bd (f_nat_trim n [v0] H) fun r1 =>
 (bd (f_slices_Clone_api_Nat_uint32 n [r1.1] r1.2) fun r2 =>
 (bd (f_nat_trim n [v1] r2.2) fun r3 =>
 (bd (f_slices_Clone_api_Nat_uint32 n [r3.1] r3.2) fun r4 =>
 (nat_Gcd.l0 n n r2.1 r4.1 r4.2)))))
theorem nat_Gcd_tot {v0 v1 : V} {H : Heap} {Q : V → Heap → Prop} (h : Tot (fun n => nat_Gcd_b @bnd n v0 v1 H) Q) : Tot (fun n => f_nat_Gcd n [v0, v1] H) Q := Tot.fn (fun n => bd_bnd (fun bd => nat_Gcd_b bd n v0 v1 H) (by kernel_rfl)) h
/-! zellige/nat.DivMod -/
@[simp] noncomputable def nat_DivMod_b (bd : B2) (n : Nat) (v0 v1 : V) (H : Heap) : Option R :=
 (bd (f_nat_trim n [v0] H) fun r1 =>
 (bd (f_nat_trim n [v1] r1.2) fun r2 =>
 (bd (lenSl r2.1) fun t14_3 =>
 (bd (arA .eql t14_3 (.int .i64 0)) fun t15_4 =>
 (bd (asB t15_4) fun b5 =>
 if b5 = true then
 (some (.tuple [(.slice ⟨none, 0, 0, false⟩), (.slice ⟨none, 0, 0, false⟩), (.int .i64 3)], r2.2))
 else
 (bd (f_nat_divmod n [r1.1, r2.1] r2.2) fun r6 =>
 (bd (extA r6.1 0) fun t20_7 =>
 (bd (extA r6.1 1) fun t21_8 =>
 (some (.tuple [t20_7, t21_8, (.int .i64 0)], r6.2))))))))))
theorem nat_DivMod_tot {v0 v1 : V} {H : Heap} {Q : V → Heap → Prop} (h : Tot (fun n => nat_DivMod_b @bnd n v0 v1 H) Q) : Tot (fun n => f_nat_DivMod n [v0, v1] H) Q := Tot.fn (fun n => bd_bnd (fun bd => nat_DivMod_b bd n v0 v1 H) (by kernel_rfl)) h
/-! slices.Clone[zellige/api.Nat,uint32] -/
@[simp] noncomputable def slices_Clone_api_Nat_uint32_b (bd : B2) (n : Nat) (v0 : V) (H : Heap) : Option R :=
 (bd (eqlA P ty_api_Nat v0 (.slice ⟨none, 0, 0, false⟩)) fun t4_1 =>
 (bd (asB t4_1) fun b2 =>
 if b2 = true then
 (some ((.slice ⟨none, 0, 0, false⟩), H))
 else
 (bd (bSl 1 ty_uint32 [(.int .u32 0)] 0 []) fun o3 =>
 (bd (appA 1 4 ty_uint32 (.slice ⟨some (H.n, 0), 0, 1, false⟩) v0 (H.push o3)) fun p4 =>
 (some (p4.1, p4.2))))))
theorem slices_Clone_api_Nat_uint32_tot {v0 : V} {H : Heap} {Q : V → Heap → Prop} (h : Tot (fun n => slices_Clone_api_Nat_uint32_b @bnd n v0 H) Q) : Tot (fun n => f_slices_Clone_api_Nat_uint32 n [v0] H) Q := Tot.fn (fun n => bd_bnd (fun bd => slices_Clone_api_Nat_uint32_b bd n v0 H) (by kernel_rfl)) h
/-! zellige/nat.trim -/
@[irreducible] noncomputable def nat_trim.l0 (n m0 : Nat) (v0 : V) (H : Heap) : Option R := Lp C n 72 [1, 0, 0, 0] m0 [(0, v0)] H (kB 0 (kC C n 72 [1, 1] (kR C 72)))
@[simp] noncomputable def nat_trim.l0_b (bd : B2) (n m0 : Nat) (v0 : V) (H : Heap) : Option R :=
 (bd (lenSl v0) fun t4_1 =>
 (bd (arA .gtr t4_1 (.int .i64 0)) fun t5_2 =>
 (bd (asB t5_2) fun b3 =>
 if b3 = true then
 (bd (lenSl v0) fun t9_4 =>
 (bd (arA .sub t9_4 (.int .i64 1)) fun t10_5 =>
 (bd (idxS 1 v0 t10_5) fun t11_6 =>
 (bd (ld1 t11_6 H) fun t12_7 =>
 (bd (arA .eql t12_7 (.int .u32 0)) fun t13_8 =>
 (bd (asB t13_8) fun b9 =>
 if b9 = true then
 (bd (lenSl v0) fun t17_10 =>
 (bd (arA .sub t17_10 (.int .i64 1)) fun t18_11 =>
 (bd (slSl 1 v0 none (some t18_11)) fun t19_12 =>
 (nat_trim.l0 n m0 t19_12 H))))
 else
 (some (v0, H))))))))
 else
 (some (v0, H)))))
theorem nat_trim.l0_tot {m0 : Nat → Nat} {v0 : V} {H : Heap} {Q : V → Heap → Prop} (hb : Big m0) (h : ∀ m0', Big m0' → Tot (fun n => nat_trim.l0_b @bnd n (m0' n) v0 H) Q) : Tot (fun n => nat_trim.l0 n (m0 n) v0 H) Q :=
  Tot.loop (f := fun n k => nat_trim.l0 n k v0 H) (g := fun n k => nat_trim.l0_b @bnd n k v0 H) hb (fun n k => bd_bnd (fun bd => nat_trim.l0_b bd n k v0 H) (by kernel_rfl)) h
@[simp] noncomputable def nat_trim_b (bd : B2) (n : Nat) (v0 : V) (H : Heap) : Option R :=
 (nat_trim.l0 n n v0 H)
theorem nat_trim_tot {v0 : V} {H : Heap} {Q : V → Heap → Prop} (h : Tot (fun n => nat_trim_b @bnd n v0 H) Q) : Tot (fun n => f_nat_trim n [v0] H) Q := Tot.fn (fun n => bd_bnd (fun bd => nat_trim_b bd n v0 H) (by kernel_rfl)) h
/-! zellige/whole.add -/
@[simp] noncomputable def whole_add_b (bd : B2) (n : Nat) (v0 v1 : V) (H : Heap) : Option R :=
 (bd (boxA ty_api_Int v0) fun o1 =>
 (bd (boxA ty_api_Int v1) fun o2 =>
 (bd (faA 0 (.ptr (some (H.n, 0)))) fun t9_3 =>
 (bd (ld1 t9_3 (((H.push o1).push o2).push (.cells [(.bool false), (.slice ⟨none, 0, 0, false⟩)] ty_api_Int false))) fun t10_4 =>
 (bd (faA 0 (.ptr (some ((H.push o1).n, 0)))) fun t11_5 =>
 (bd (ld1 t11_5 (((H.push o1).push o2).push (.cells [(.bool false), (.slice ⟨none, 0, 0, false⟩)] ty_api_Int false))) fun t12_6 =>
 (bd (eqlA P ty_bool t10_4 t12_6) fun t13_7 =>
 (bd (asB t13_7) fun b8 =>
 if b8 = true then
 (bd (faA 1 (.ptr (some (H.n, 0)))) fun t16_9 =>
 (bd (ld1 t16_9 ((((H.push o1).push o2).push (.cells [(.bool false), (.slice ⟨none, 0, 0, false⟩)] ty_api_Int false)).more 0)) fun t17_10 =>
 (bd (faA 1 (.ptr (some ((H.push o1).n, 0)))) fun t18_11 =>
 (bd (ld1 t18_11 ((((H.push o1).push o2).push (.cells [(.bool false), (.slice ⟨none, 0, 0, false⟩)] ty_api_Int false)).more 0)) fun t19_12 =>
 (bd (f_nat_Add n [t17_10, t19_12] ((((H.push o1).push o2).push (.cells [(.bool false), (.slice ⟨none, 0, 0, false⟩)] ty_api_Int false)).more 0)) fun r13 =>
 (bd (faA 0 (.ptr (some (H.n, 0)))) fun t14_14 =>
 (bd (ld1 t14_14 r13.2) fun t15_15 =>
 (bd (chk (ld1 t14_14 ((((H.push o1).push o2).push (.cells [(.bool false), (.slice ⟨none, 0, 0, false⟩)] ty_api_Int false)).more 0)) t15_15) fun _ =>
 (bd (f_whole_norm n [t15_15, r13.1] r13.2) fun r16 =>
 (bd (stA 2 (.ptr (some (((H.push o1).push o2).n, 0))) r16.1 r16.2) fun H17 =>
 (bd (ldN 2 (.ptr (some (((H.push o1).push o2).n, 0))) H17) fun t18 =>
 (some (t18, H17)))))))))))))
 else
 (bd (faA 1 (.ptr (some (H.n, 0)))) fun t23_19 =>
 (bd (ld1 t23_19 (((H.push o1).push o2).push (.cells [(.bool false), (.slice ⟨none, 0, 0, false⟩)] ty_api_Int false))) fun t24_20 =>
 (bd (faA 1 (.ptr (some ((H.push o1).n, 0)))) fun t25_21 =>
 (bd (ld1 t25_21 (((H.push o1).push o2).push (.cells [(.bool false), (.slice ⟨none, 0, 0, false⟩)] ty_api_Int false))) fun t26_22 =>
 (bd (f_nat_Sub n [t24_20, t26_22] (((H.push o1).push o2).push (.cells [(.bool false), (.slice ⟨none, 0, 0, false⟩)] ty_api_Int false))) fun r23 =>
 (bd (extA r23.1 0) fun t28_24 =>
 (bd (extA r23.1 1) fun t29_25 =>
 (bd (asB t29_25) fun b26 =>
 if b26 = true then
 (bd (faA 0 (.ptr (some (H.n, 0)))) fun t31_27 =>
 (bd (ld1 t31_27 r23.2) fun t32_28 =>
 (bd (f_whole_norm n [t32_28, t28_24] r23.2) fun r29 =>
 (bd (stA 2 (.ptr (some (((H.push o1).push o2).n, 0))) r29.1 r29.2) fun H30 =>
 (bd (ldN 2 (.ptr (some (((H.push o1).push o2).n, 0))) H30) fun t31 =>
 (some (t31, H30)))))))
 else
 (bd (faA 1 (.ptr (some ((H.push o1).n, 0)))) fun t36_32 =>
 (bd (ld1 t36_32 r23.2) fun t37_33 =>
 (bd (faA 1 (.ptr (some (H.n, 0)))) fun t38_34 =>
 (bd (ld1 t38_34 r23.2) fun t39_35 =>
 (bd (f_nat_Sub n [t37_33, t39_35] r23.2) fun r36 =>
 (bd (extA r36.1 0) fun t41_37 =>
 (bd (extA r36.1 1) fun t42_38 =>
 (bd (faA 0 (.ptr (some ((H.push o1).n, 0)))) fun t43_39 =>
 (bd (ld1 t43_39 r36.2) fun t44_40 =>
 (bd (f_whole_norm n [t44_40, t41_37] r36.2) fun r41 =>
 (bd (stA 2 (.ptr (some (((H.push o1).push o2).n, 0))) r41.1 r41.2) fun H42 =>
 (bd (ldN 2 (.ptr (some (((H.push o1).push o2).n, 0))) H42) fun t43 =>
 (some (t43, H42))))))))))))))))))))))))))))))
theorem whole_add_tot {v0 v1 : V} {H : Heap} {Q : V → Heap → Prop} (h : Tot (fun n => whole_add_b @bnd n v0 v1 H) Q) : Tot (fun n => f_whole_add n [v0, v1] H) Q := Tot.fn (fun n => bd_bnd (fun bd => whole_add_b bd n v0 v1 H) (by kernel_rfl)) h
/-! zellige/nat.short -/
@[irreducible] noncomputable def nat_short.l0 (n m0 : Nat) (v0 v1 v5 v6 : V) (H : Heap) : Option R := Lp C n 74 [1, 1, 0, 1, 0, 0] m0 [(0, v0), (1, v1), (5, v5), (6, v6)] H (kB 0 (kC C n 74 [1, 1, 1] (kR C 74)))
@[simp] noncomputable def nat_short.l0_b (bd : B2) (n m0 : Nat) (v0 v1 v5 v6 : V) (H : Heap) : Option R :=
 (bd (arA .geq v6 (.int .i64 0)) fun t11_1 =>
 (bd (asB t11_1) fun b2 =>
 if b2 = true then
 (bd (shA .shl v5 (.int .u64 32)) fun t15_3 =>
 (bd (idxS 1 v0 v6) fun t18_4 =>
 (bd (ld1 t18_4 H) fun t19_5 =>
 (bd (cvInt .u64 t19_5) fun t20_6 =>
 (bd (arA .or t15_3 t20_6) fun t21_7 =>
 (bd (cvInt .u64 v1) fun t26_8 =>
 (bd (arA .quo t21_7 t26_8) fun t27_9 =>
 (bd (cvInt .u32 t27_9) fun t28_10 =>
 (bd (idxS 1 v0 v6) fun t29_11 =>
 (bd (stA 1 t29_11 t28_10 H) fun H12 =>
 (bd (cvInt .u64 v1) fun t32_13 =>
 (bd (arA .rem t21_7 t32_13) fun t33_14 =>
 (bd (arA .sub v6 (.int .i64 1)) fun t13_15 =>
 (nat_short.l0 n m0 v0 v1 t33_14 t13_15 H12))))))))))))))
 else
 (bd (cvInt .u32 v5) fun t35_16 =>
 (some (t35_16, H)))))
theorem nat_short.l0_tot {m0 : Nat → Nat} {v0 v1 v5 v6 : V} {H : Heap} {Q : V → Heap → Prop} (hb : Big m0) (h : ∀ m0', Big m0' → Tot (fun n => nat_short.l0_b @bnd n (m0' n) v0 v1 v5 v6 H) Q) : Tot (fun n => nat_short.l0 n (m0 n) v0 v1 v5 v6 H) Q :=
  Tot.loop (f := fun n k => nat_short.l0 n k v0 v1 v5 v6 H) (g := fun n k => nat_short.l0_b @bnd n k v0 v1 v5 v6 H) hb (fun n k => bd_bnd (fun bd => nat_short.l0_b bd n k v0 v1 v5 v6 H) (by kernel_rfl)) h
@[simp] noncomputable def nat_short_b (bd : B2) (n : Nat) (v0 v1 : V) (H : Heap) : Option R :=
 (bd (lenSl v0) fun t8_1 =>
 (bd (arA .sub t8_1 (.int .i64 1)) fun t9_2 =>
 (nat_short.l0 n n v0 v1 (.int .u64 0) t9_2 H)))
theorem nat_short_tot {v0 v1 : V} {H : Heap} {Q : V → Heap → Prop} (h : Tot (fun n => nat_short_b @bnd n v0 v1 H) Q) : Tot (fun n => f_nat_short n [v0, v1] H) Q := Tot.fn (fun n => bd_bnd (fun bd => nat_short_b bd n v0 v1 H) (by kernel_rfl)) h
/-! slices.Reverse[[]byte,byte] -/
@[irreducible] noncomputable def slices_Reverse_byte_byte.l0 (n m0 : Nat) (v0 v2 v3 : V) (H : Heap) : Option R := Lp C n 75 [1, 0, 0] m0 [(0, v0), (2, v2), (3, v3)] H (kB 0 (kR C 75))
@[simp] noncomputable def slices_Reverse_byte_byte.l0_b (bd : B2) (n m0 : Nat) (v0 v2 v3 : V) (H : Heap) : Option R :=
 (bd (arA .lss v2 v3) fun t9_1 =>
 (bd (asB t9_1) fun b2 =>
 if b2 = true then
 (bd (idxS 1 v0 v3) fun t20_3 =>
 (bd (ld1 t20_3 (H.more 0)) fun t21_4 =>
 (bd (idxS 1 v0 v2) fun t24_5 =>
 (bd (ld1 t24_5 (H.more 0)) fun t25_6 =>
 (bd (idxS 1 v0 v2) fun t26_7 =>
 (bd (stA 1 t26_7 t21_4 (H.more 0)) fun H8 =>
 (bd (idxS 1 v0 v3) fun t27_9 =>
 (bd (stA 1 t27_9 t25_6 H8) fun H10 =>
 (bd (arA .add v2 (.int .i64 1)) fun t11_11 =>
 (bd (arA .sub v3 (.int .i64 1)) fun t13_12 =>
 (slices_Reverse_byte_byte.l0 n m0 v0 t11_11 t13_12 H10)))))))))))
 else
 (some (.tuple [], H))))
theorem slices_Reverse_byte_byte.l0_tot {m0 : Nat → Nat} {v0 v2 v3 : V} {H : Heap} {Q : V → Heap → Prop} (hb : Big m0) (h : ∀ m0', Big m0' → Tot (fun n => slices_Reverse_byte_byte.l0_b @bnd n (m0' n) v0 v2 v3 H) Q) : Tot (fun n => slices_Reverse_byte_byte.l0 n (m0 n) v0 v2 v3 H) Q :=
  Tot.loop (f := fun n k => slices_Reverse_byte_byte.l0 n k v0 v2 v3 H) (g := fun n k => slices_Reverse_byte_byte.l0_b @bnd n k v0 v2 v3 H) hb (fun n k => bd_bnd (fun bd => slices_Reverse_byte_byte.l0_b bd n k v0 v2 v3 H) (by kernel_rfl)) h
@[simp] noncomputable def slices_Reverse_byte_byte_b (bd : B2) (n : Nat) (v0 : V) (H : Heap) : Option R :=
 (bd (lenSl v0) fun t5_1 =>
 (bd (arA .sub t5_1 (.int .i64 1)) fun t6_2 =>
 (slices_Reverse_byte_byte.l0 n n v0 (.int .i64 0) t6_2 H)))
theorem slices_Reverse_byte_byte_tot {v0 : V} {H : Heap} {Q : V → Heap → Prop} (h : Tot (fun n => slices_Reverse_byte_byte_b @bnd n v0 H) Q) : Tot (fun n => f_slices_Reverse_byte_byte n [v0] H) Q := Tot.fn (fun n => bd_bnd (fun bd => slices_Reverse_byte_byte_b bd n v0 H) (by kernel_rfl)) h
/-! zellige/nat.Bits -/
@[simp] noncomputable def nat_Bits_b (bd : B2) (n : Nat) (v0 : V) (H : Heap) : Option R :=
 (bd (f_nat_size n [v0] H) fun r1 =>
 (some (r1.1, r1.2)))
theorem nat_Bits_tot {v0 : V} {H : Heap} {Q : V → Heap → Prop} (h : Tot (fun n => nat_Bits_b @bnd n v0 H) Q) : Tot (fun n => f_nat_Bits n [v0] H) Q := Tot.fn (fun n => bd_bnd (fun bd => nat_Bits_b bd n v0 H) (by kernel_rfl)) h
/-! zellige/zelligeref04.Floor -/
@[irreducible] noncomputable def ref04_Floor.p0 (n : Nat) (v2 v3 v4 v5 v8 : V) (H : Heap) : Option R := E C n 82 [1, 1, 1, 1] [(2, v2), (3, v3), (4, v4), (5, v5), (8, v8)] H (kR C 82)
@[simp] noncomputable def ref04_Floor.p0_b (bd : B2) (n : Nat) (v2 v3 v4 v5 v8 : V) (H : Heap) : Option R :=
 (bd (ldN 2 v8 (H.more 0)) fun t40_1 =>
 (bd (ldN 2 v3 (H.more 0)) fun t41_2 =>
 (bd (f_ref04_Mul n [t40_1, t41_2] (H.more 0)) fun r3 =>
 (bd (ldN 2 v2 r3.2) fun t39_4 =>
 (bd (chk (ldN 2 v2 (H.more 0)) t39_4) fun _ =>
 (bd (f_ref04_Sub n [t39_4, r3.1] r3.2) fun r5 =>
 (bd (ldN 2 v8 r5.2) fun t38_6 =>
 (bd (chk (ldN 2 v8 r3.2) t38_6) fun _ =>
 (bd (chk (ldN 2 v8 (H.more 0)) t38_6) fun _ =>
 (bd (stA 2 v4 t38_6 r5.2) fun H7 =>
 (bd (stA 2 v5 r5.1 H7) fun H8 =>
 (bd (ldN 2 v4 H8) fun t9 =>
 (bd (ldN 2 v5 H8) fun t10 =>
 (some (.tuple [t9, t10], H8)))))))))))))))
theorem ref04_Floor.p0_tot {v2 v3 v4 v5 v8 : V} {H : Heap} {Q : V → Heap → Prop} (h : Tot (fun n => ref04_Floor.p0_b @bnd n v2 v3 v4 v5 v8 H) Q) : Tot (fun n => ref04_Floor.p0 n v2 v3 v4 v5 v8 H) Q := Tot.eq (fun n => bd_bnd (fun bd => ref04_Floor.p0_b bd n v2 v3 v4 v5 v8 H) (by kernel_rfl)) h
@[simp] noncomputable def ref04_Floor_b (bd : B2) (n : Nat) (v0 v1 : V) (H : Heap) : Option R :=
 (bd (boxA ty_ref04_Int v0) fun o1 =>
 (bd (boxA ty_ref04_Int v1) fun o2 =>
 (bd (faA 1 (.ptr (some (H.n, 0)))) fun t10_3 =>
 (bd (ld1 t10_3 ((((H.push o1).push o2).push (.cells [(.int .i64 0), (.slice ⟨none, 0, 0, false⟩)] ty_ref04_Int false)).push (.cells [(.int .i64 0), (.slice ⟨none, 0, 0, false⟩)] ty_ref04_Int false))) fun t11_4 =>
 (bd (faA 1 (.ptr (some ((H.push o1).n, 0)))) fun t12_5 =>
 (bd (ld1 t12_5 ((((H.push o1).push o2).push (.cells [(.int .i64 0), (.slice ⟨none, 0, 0, false⟩)] ty_ref04_Int false)).push (.cells [(.int .i64 0), (.slice ⟨none, 0, 0, false⟩)] ty_ref04_Int false))) fun t13_6 =>
 (bd (f_ref03_DivMod n [t11_4, t13_6] ((((H.push o1).push o2).push (.cells [(.int .i64 0), (.slice ⟨none, 0, 0, false⟩)] ty_ref04_Int false)).push (.cells [(.int .i64 0), (.slice ⟨none, 0, 0, false⟩)] ty_ref04_Int false))) fun r7 =>
 (bd (extA r7.1 0) fun t15_8 =>
 (bd (extA r7.1 1) fun t16_9 =>
 (bd (faA 0 (.ptr (some (H.n, 0)))) fun t17_10 =>
 (bd (ld1 t17_10 r7.2) fun t18_11 =>
 (bd (faA 0 (.ptr (some ((H.push o1).n, 0)))) fun t19_12 =>
 (bd (ld1 t19_12 r7.2) fun t20_13 =>
 (bd (arA .mul t18_11 t20_13) fun t21_14 =>
 (bd (f_ref04_make1 n [t21_14, t15_8] r7.2) fun r15 =>
 (bd (stA 2 (.ptr (some (r15.2.n, 0))) r15.1 (r15.2.push (.cells [(.int .i64 0), (.slice ⟨none, 0, 0, false⟩)] ty_ref04_Int false))) fun H16 =>
 (bd (faA 0 (.ptr (some (H.n, 0)))) fun t24_17 =>
 (bd (ld1 t24_17 H16) fun t25_18 =>
 (bd (faA 0 (.ptr (some ((H.push o1).n, 0)))) fun t26_19 =>
 (bd (ld1 t26_19 H16) fun t27_20 =>
 (bd (arA .mul t25_18 t27_20) fun t28_21 =>
 (bd (arA .lss t28_21 (.int .i64 0)) fun t29_22 =>
 (bd (asB t29_22) fun b23 =>
 if b23 = true then
 (bd (lenSl t16_9) fun t32_24 =>
 (bd (arA .gtr t32_24 (.int .i64 0)) fun t33_25 =>
 (bd (asB t33_25) fun b26 =>
 if b26 = true then
 (bd (f_ref04_Long n [(.int .i64 1)] (H16.more 0)) fun r27 =>
 (bd (ldN 2 (.ptr (some (r15.2.n, 0))) r27.2) fun t35_28 =>
 (bd (chk (ldN 2 (.ptr (some (r15.2.n, 0))) (H16.more 0)) t35_28) fun _ =>
 (bd (f_ref04_Sub n [t35_28, r27.1] r27.2) fun r29 =>
 (bd (stA 2 (.ptr (some (r15.2.n, 0))) r29.1 r29.2) fun H30 =>
 (ref04_Floor.p0 n (.ptr (some (H.n, 0))) (.ptr (some ((H.push o1).n, 0))) (.ptr (some (((H.push o1).push o2).n, 0))) (.ptr (some ((((H.push o1).push o2).push (.cells [(.int .i64 0), (.slice ⟨none, 0, 0, false⟩)] ty_ref04_Int false)).n, 0))) (.ptr (some (r15.2.n, 0))) H30))))))
 else
 (ref04_Floor.p0 n (.ptr (some (H.n, 0))) (.ptr (some ((H.push o1).n, 0))) (.ptr (some (((H.push o1).push o2).n, 0))) (.ptr (some ((((H.push o1).push o2).push (.cells [(.int .i64 0), (.slice ⟨none, 0, 0, false⟩)] ty_ref04_Int false)).n, 0))) (.ptr (some (r15.2.n, 0))) H16))))
 else
 (ref04_Floor.p0 n (.ptr (some (H.n, 0))) (.ptr (some ((H.push o1).n, 0))) (.ptr (some (((H.push o1).push o2).n, 0))) (.ptr (some ((((H.push o1).push o2).push (.cells [(.int .i64 0), (.slice ⟨none, 0, 0, false⟩)] ty_ref04_Int false)).n, 0))) (.ptr (some (r15.2.n, 0))) H16))))))))))))))))))))))))
theorem ref04_Floor_tot {v0 v1 : V} {H : Heap} {Q : V → Heap → Prop} (h : Tot (fun n => ref04_Floor_b @bnd n v0 v1 H) Q) : Tot (fun n => f_ref04_Floor n [v0, v1] H) Q := Tot.fn (fun n => bd_bnd (fun bd => ref04_Floor_b bd n v0 v1 H) (by kernel_rfl)) h
/-! zellige/nat.divmod -/
@[simp] noncomputable def nat_divmod_b (bd : B2) (n : Nat) (v0 v1 : V) (H : Heap) : Option R :=
 (bd (f_nat_cmp n [v0, v1] H) fun r1 =>
 (bd (arA .lss r1.1 (.int .i64 0)) fun t12_2 =>
 (bd (asB t12_2) fun b3 =>
 if b3 = true then
 (bd (f_slices_Clone_api_Nat_uint32 n [v0] r1.2) fun r4 =>
 (some (.tuple [(.slice ⟨none, 0, 0, false⟩), r4.1], r4.2)))
 else
 (bd (lenSl v1) fun t17_5 =>
 (bd (arA .eql t17_5 (.int .i64 1)) fun t18_6 =>
 (bd (asB t18_6) fun b7 =>
 if b7 = true then
 (bd (f_slices_Clone_api_Nat_uint32 n [v0] r1.2) fun r8 =>
 (bd (idxS 1 v1 (.int .i64 0)) fun t23_9 =>
 (bd (ld1 t23_9 r8.2) fun t24_10 =>
 (bd (f_nat_short n [r8.1, t24_10] r8.2) fun r11 =>
 (bd (f_nat_trim n [r8.1] r11.2) fun r12 =>
 (bd (bSl 1 ty_uint32 [(.int .u32 0)] 1 [(0, r11.1)]) fun o13 =>
 (bd (f_nat_trim n [(.slice ⟨some (r12.2.n, 0), 1, 1, false⟩)] (r12.2.push o13)) fun r14 =>
 (some (.tuple [r12.1, r14.1], r14.2)))))))))
 else
 (bd (f_nat_long n [v0, v1] r1.2) fun r15 =>
 (bd (extA r15.1 0) fun t34_16 =>
 (bd (extA r15.1 1) fun t35_17 =>
 (some (.tuple [t34_16, t35_17], r15.2)))))))))))
theorem nat_divmod_tot {v0 v1 : V} {H : Heap} {Q : V → Heap → Prop} (h : Tot (fun n => nat_divmod_b @bnd n v0 v1 H) Q) : Tot (fun n => f_nat_divmod n [v0, v1] H) Q := Tot.fn (fun n => bd_bnd (fun bd => nat_divmod_b bd n v0 v1 H) (by kernel_rfl)) h
/-! zellige/nat.Sub -/
@[simp] noncomputable def nat_Sub_b (bd : B2) (n : Nat) (v0 v1 : V) (H : Heap) : Option R :=
 (bd (f_nat_trim n [v1] H) fun r1 =>
 (bd (f_nat_cmp n [v0, r1.1] r1.2) fun r2 =>
 (bd (arA .lss r2.1 (.int .i64 0)) fun t11_3 =>
 (bd (asB t11_3) fun b4 =>
 if b4 = true then
 (some (.tuple [(.slice ⟨none, 0, 0, false⟩), (.bool false)], r2.2))
 else
 (bd (f_nat_sub n [v0, r1.1] r2.2) fun r5 =>
 (some (.tuple [r5.1, (.bool true)], r5.2)))))))
theorem nat_Sub_tot {v0 v1 : V} {H : Heap} {Q : V → Heap → Prop} (h : Tot (fun n => nat_Sub_b @bnd n v0 v1 H) Q) : Tot (fun n => f_nat_Sub n [v0, v1] H) Q := Tot.fn (fun n => bd_bnd (fun bd => nat_Sub_b bd n v0 v1 H) (by kernel_rfl)) h
/-! zellige/nat.size -/
@[simp] noncomputable def nat_size_b (bd : B2) (n : Nat) (v0 : V) (H : Heap) : Option R :=
 (bd (f_nat_trim n [v0] H) fun r1 =>
 (bd (lenSl r1.1) fun t6_2 =>
 (bd (arA .eql t6_2 (.int .i64 0)) fun t7_3 =>
 (bd (asB t7_3) fun b4 =>
 if b4 = true then
 (some ((.int .i64 0), r1.2))
 else
 (bd (lenSl r1.1) fun t9_5 =>
 (bd (arA .sub t9_5 (.int .i64 1)) fun t10_6 =>
 (bd (arA .mul (.int .i64 32) t10_6) fun t11_7 =>
 (bd (lenSl r1.1) fun t14_8 =>
 (bd (arA .sub t14_8 (.int .i64 1)) fun t15_9 =>
 (bd (idxS 1 r1.1 t15_9) fun t16_10 =>
 (bd (ld1 t16_10 r1.2) fun t17_11 =>
 (bd (f_math_bits_Len32 n [t17_11] r1.2) fun r12 =>
 (bd (arA .add t11_7 r12.1) fun t19_13 =>
 (some (t19_13, r12.2)))))))))))))))
theorem nat_size_tot {v0 : V} {H : Heap} {Q : V → Heap → Prop} (h : Tot (fun n => nat_size_b @bnd n v0 H) Q) : Tot (fun n => f_nat_size n [v0] H) Q := Tot.fn (fun n => bd_bnd (fun bd => nat_size_b bd n v0 H) (by kernel_rfl)) h
/-! zellige/nat.cmp -/
@[irreducible] noncomputable def nat_cmp.l0 (n m0 : Nat) (v0 v1 v5 : V) (H : Heap) : Option R := Lp C n 88 [1, 1, 1, 0, 1, 0, 0] m0 [(0, v0), (1, v1), (5, v5)] H (kB 0 (kC C n 88 [1, 1, 1, 1] (kR C 88)))
@[simp] noncomputable def nat_cmp.l0_b (bd : B2) (n m0 : Nat) (v0 v1 v5 : V) (H : Heap) : Option R :=
 (bd (arA .geq v5 (.int .i64 0)) fun t24_1 =>
 (bd (asB t24_1) fun b2 =>
 if b2 = true then
 (bd (idxS 1 v0 v5) fun t30_3 =>
 (bd (ld1 t30_3 (H.more 0)) fun t31_4 =>
 (bd (idxS 1 v1 v5) fun t34_5 =>
 (bd (ld1 t34_5 (H.more 0)) fun t35_6 =>
 (bd (arA .lss t31_4 t35_6) fun t36_7 =>
 (bd (asB t36_7) fun b8 =>
 if b8 = true then
 (some ((.int .i64 (-1)), (H.more 0)))
 else
 (bd (idxS 1 v0 v5) fun t40_9 =>
 (bd (ld1 t40_9 ((H.more 0).more 0)) fun t41_10 =>
 (bd (idxS 1 v1 v5) fun t44_11 =>
 (bd (ld1 t44_11 ((H.more 0).more 0)) fun t45_12 =>
 (bd (arA .gtr t41_10 t45_12) fun t46_13 =>
 (bd (asB t46_13) fun b14 =>
 if b14 = true then
 (some ((.int .i64 1), ((H.more 0).more 0)))
 else
 (bd (arA .sub v5 (.int .i64 1)) fun t26_15 =>
 (nat_cmp.l0 n m0 v0 v1 t26_15 ((H.more 0).more 0)))))))))))))))
 else
 (some ((.int .i64 0), H))))
theorem nat_cmp.l0_tot {m0 : Nat → Nat} {v0 v1 v5 : V} {H : Heap} {Q : V → Heap → Prop} (hb : Big m0) (h : ∀ m0', Big m0' → Tot (fun n => nat_cmp.l0_b @bnd n (m0' n) v0 v1 v5 H) Q) : Tot (fun n => nat_cmp.l0 n (m0 n) v0 v1 v5 H) Q :=
  Tot.loop (f := fun n k => nat_cmp.l0 n k v0 v1 v5 H) (g := fun n k => nat_cmp.l0_b @bnd n k v0 v1 v5 H) hb (fun n k => bd_bnd (fun bd => nat_cmp.l0_b bd n k v0 v1 v5 H) (by kernel_rfl)) h
@[simp] noncomputable def nat_cmp_b (bd : B2) (n : Nat) (v0 v1 : V) (H : Heap) : Option R :=
 (bd (f_nat_trim n [v0] H) fun r1 =>
 (bd (f_nat_trim n [v1] r1.2) fun r2 =>
 (bd (lenSl r1.1) fun t11_3 =>
 (bd (lenSl r2.1) fun t13_4 =>
 (bd (arA .neq t11_3 t13_4) fun t14_5 =>
 (bd (asB t14_5) fun b6 =>
 if b6 = true then
 (bd (lenSl r1.1) fun t16_7 =>
 (bd (lenSl r2.1) fun t18_8 =>
 (bd (arA .lss t16_7 t18_8) fun t19_9 =>
 (bd (asB t19_9) fun b10 =>
 if b10 = true then
 (some ((.int .i64 (-1)), r2.2))
 else
 (some ((.int .i64 1), r2.2))))))
 else
 (bd (lenSl r1.1) fun t21_11 =>
 (bd (arA .sub t21_11 (.int .i64 1)) fun t22_12 =>
 (nat_cmp.l0 n n r1.1 r2.1 t22_12 r2.2)))))))))
theorem nat_cmp_tot {v0 v1 : V} {H : Heap} {Q : V → Heap → Prop} (h : Tot (fun n => nat_cmp_b @bnd n v0 v1 H) Q) : Tot (fun n => f_nat_cmp n [v0, v1] H) Q := Tot.fn (fun n => bd_bnd (fun bd => nat_cmp_b bd n v0 v1 H) (by kernel_rfl)) h
end Go.AM
end

section
set_option linter.unusedVariables false
set_option linter.unusedSimpArgs false
/- What each Go function comes to on the machine: made by program (gen_seat.py), checked by the kernel. -/
set_option maxRecDepth 1000000
set_option linter.unusedVariables false
namespace Go.AM
/-! zellige/nat.long -/
@[irreducible] noncomputable def nat_long.l0 (n m0 : Nat) (v6 v7 v8 v9 v10 v11 v12 v13 : V) (H : Heap) : Option R := Lp C n 89 [1, 1, 1, 1, 1, 1, 0, 1, 0, 0] m0 [(6, v6), (7, v7), (8, v8), (9, v9), (10, v10), (11, v11), (12, v12), (13, v13)] H (kB 0 (kC C n 89 [1, 1, 1, 1, 1, 1, 1] (kR C 89)))
@[irreducible] noncomputable def nat_long.p1 (n : Nat) (v6 v7 v10 : V) (H : Heap) : Option R := E C n 89 [1, 1, 1, 1, 1, 1, 1] [(6, v6), (7, v7), (10, v10)] H (kR C 89)
@[irreducible] noncomputable def nat_long.l2 (n m0 : Nat) (v6 v10 v16 v17 v18 : V) (H : Heap) : Option R := Lp C n 89 [1, 1, 1, 1, 1, 1, 1, 1, 1, 0, 1, 0, 0] m0 [(6, v6), (10, v10), (16, v16), (17, v17), (18, v18)] H (kB 2 (kC C n 89 [1, 1, 1, 1, 1, 1, 1, 1, 1, 1] (kR C 89)))
@[irreducible] noncomputable def nat_long.p3 (n : Nat) (v10 v16 : V) (H : Heap) : Option R := E C n 89 [1, 1, 1, 1, 1, 1, 1, 1, 1, 1] [(10, v10), (16, v16)] H (kR C 89)
@[simp] noncomputable def nat_long.l0_b (bd : B2) (n m0 : Nat) (v6 v7 v8 v9 v10 v11 v12 v13 : V) (H : Heap) : Option R :=
 (bd (arA .geq v13 (.int .i64 0)) fun t56_1 =>
 (bd (asB t56_1) fun b2 =>
 if b2 = true then
 (bd (arA .add v13 v9) fun t63_3 =>
 (bd (arA .add t63_3 (.int .i64 1)) fun t64_4 =>
 (bd (slSl 1 v7 (some v13) (some t64_4)) fun t65_5 =>
 (bd (f_nat_guess n [t65_5, v11, v12] H) fun r6 =>
 (bd (f_nat_off n [t65_5, v8, r6.1] r6.2) fun r7 =>
 (bd (asB r7.1) fun b8 =>
 if b8 = true then
 (bd (arA .sub r6.1 (.int .u64 1)) fun t75_9 =>
 (bd (f_nat_back n [t65_5, v8] r7.2) fun r10 =>
 (bd (cvInt .u32 t75_9) fun t82_11 =>
 (bd (idxS 1 v10 v13) fun t83_12 =>
 (bd (stA 1 t83_12 t82_11 r10.2) fun H13 =>
 (bd (arA .sub v13 (.int .i64 1)) fun t58_14 =>
 (nat_long.l0 n m0 v6 v7 v8 v9 v10 v11 v12 t58_14 H13)))))))
 else
 (bd (cvInt .u32 r6.1) fun t82_15 =>
 (bd (idxS 1 v10 v13) fun t83_16 =>
 (bd (stA 1 t83_16 t82_15 r7.2) fun H17 =>
 (bd (arA .sub v13 (.int .i64 1)) fun t58_18 =>
 (nat_long.l0 n m0 v6 v7 v8 v9 v10 v11 v12 t58_18 H17)))))))))))
 else
 (nat_long.p1 n v6 v7 v10 H)))
theorem nat_long.l0_tot {m0 : Nat → Nat} {v6 v7 v8 v9 v10 v11 v12 v13 : V} {H : Heap} {Q : V → Heap → Prop} (hb : Big m0) (h : ∀ m0', Big m0' → Tot (fun n => nat_long.l0_b @bnd n (m0' n) v6 v7 v8 v9 v10 v11 v12 v13 H) Q) : Tot (fun n => nat_long.l0 n (m0 n) v6 v7 v8 v9 v10 v11 v12 v13 H) Q :=
  Tot.loop (f := fun n k => nat_long.l0 n k v6 v7 v8 v9 v10 v11 v12 v13 H) (g := fun n k => nat_long.l0_b @bnd n k v6 v7 v8 v9 v10 v11 v12 v13 H) hb (fun n k => bd_bnd (fun bd => nat_long.l0_b bd n k v6 v7 v8 v9 v10 v11 v12 v13 H) (by kernel_rfl)) h
@[simp] noncomputable def nat_long.p1_b (bd : B2) (n : Nat) (v6 v7 v10 : V) (H : Heap) : Option R :=
 (bd (f_nat_trim n [v7] H) fun r1 =>
 (bd (lenSl r1.1) fun t87_2 =>
 (bd (arA .sub t87_2 (.int .i64 1)) fun t88_3 =>
 (nat_long.l2 n n v6 v10 r1.1 (.int .u64 0) t88_3 r1.2))))
theorem nat_long.p1_tot {v6 v7 v10 : V} {H : Heap} {Q : V → Heap → Prop} (h : Tot (fun n => nat_long.p1_b @bnd n v6 v7 v10 H) Q) : Tot (fun n => nat_long.p1 n v6 v7 v10 H) Q := Tot.eq (fun n => bd_bnd (fun bd => nat_long.p1_b bd n v6 v7 v10 H) (by kernel_rfl)) h
@[simp] noncomputable def nat_long.l2_b (bd : B2) (n m0 : Nat) (v6 v10 v16 v17 v18 : V) (H : Heap) : Option R :=
 (bd (arA .geq v18 (.int .i64 0)) fun t90_1 =>
 (bd (asB t90_1) fun b2 =>
 if b2 = true then
 (bd (shA .shl v17 (.int .u64 32)) fun t94_3 =>
 (bd (idxS 1 v16 v18) fun t97_4 =>
 (bd (ld1 t97_4 H) fun t98_5 =>
 (bd (cvInt .u64 t98_5) fun t99_6 =>
 (bd (arA .or t94_3 t99_6) fun t100_7 =>
 (bd (shA .shr t100_7 v6) fun t105_8 =>
 (bd (cvInt .u32 t105_8) fun t106_9 =>
 (bd (idxS 1 v16 v18) fun t107_10 =>
 (bd (stA 1 t107_10 t106_9 H) fun H11 =>
 (bd (arA .sub v18 (.int .i64 1)) fun t92_12 =>
 (nat_long.l2 n m0 v6 v10 v16 t100_7 t92_12 H11)))))))))))
 else
 (nat_long.p3 n v10 v16 H)))
theorem nat_long.l2_tot {m0 : Nat → Nat} {v6 v10 v16 v17 v18 : V} {H : Heap} {Q : V → Heap → Prop} (hb : Big m0) (h : ∀ m0', Big m0' → Tot (fun n => nat_long.l2_b @bnd n (m0' n) v6 v10 v16 v17 v18 H) Q) : Tot (fun n => nat_long.l2 n (m0 n) v6 v10 v16 v17 v18 H) Q :=
  Tot.loop (f := fun n k => nat_long.l2 n k v6 v10 v16 v17 v18 H) (g := fun n k => nat_long.l2_b @bnd n k v6 v10 v16 v17 v18 H) hb (fun n k => bd_bnd (fun bd => nat_long.l2_b bd n k v6 v10 v16 v17 v18 H) (by kernel_rfl)) h
@[simp] noncomputable def nat_long.p3_b (bd : B2) (n : Nat) (v10 v16 : V) (H : Heap) : Option R :=
 (bd (f_nat_trim n [v10] H) fun r1 =>
 (bd (f_nat_trim n [v16] r1.2) fun r2 =>
 (some (.tuple [r1.1, r2.1], r2.2))))
theorem nat_long.p3_tot {v10 v16 : V} {H : Heap} {Q : V → Heap → Prop} (h : Tot (fun n => nat_long.p3_b @bnd n v10 v16 H) Q) : Tot (fun n => nat_long.p3 n v10 v16 H) Q := Tot.eq (fun n => bd_bnd (fun bd => nat_long.p3_b bd n v10 v16 H) (by kernel_rfl)) h
@[simp] noncomputable def nat_long_b (bd : B2) (n : Nat) (v0 v1 : V) (H : Heap) : Option R :=
 (bd (lenSl v1) fun t21_1 =>
 (bd (arA .sub t21_1 (.int .i64 1)) fun t22_2 =>
 (bd (idxS 1 v1 t22_2) fun t23_3 =>
 (bd (ld1 t23_3 H) fun t24_4 =>
 (bd (f_math_bits_LeadingZeros32 n [t24_4] H) fun r5 =>
 (bd (f_nat_shift n [v0, r5.1] r5.2) fun r6 =>
 (bd (f_nat_shift n [v1, r5.1] r6.2) fun r7 =>
 (bd (f_nat_trim n [r7.1] r7.2) fun r8 =>
 (bd (lenSl r8.1) fun t34_9 =>
 (bd (lenSl r6.1) fun t36_10 =>
 (bd (arA .sub t36_10 t34_9) fun t38_11 =>
 (bd (mkSl 1 4 ty_uint32 [(.int .u32 0)] t38_11 t38_11) fun o12 =>
 (bd (arA .sub t34_9 (.int .i64 1)) fun t42_13 =>
 (bd (idxS 1 r8.1 t42_13) fun t43_14 =>
 (bd (ld1 t43_14 ((r8.2.push o12.1).more 0)) fun t44_15 =>
 (bd (cvInt .u64 t44_15) fun t45_16 =>
 (bd (arA .sub t34_9 (.int .i64 2)) fun t48_17 =>
 (bd (idxS 1 r8.1 t48_17) fun t49_18 =>
 (bd (ld1 t49_18 ((r8.2.push o12.1).more 0)) fun t50_19 =>
 (bd (cvInt .u64 t50_19) fun t51_20 =>
 (bd (lenSl (.slice ⟨some (r8.2.n, 0), o12.2, 1, false⟩)) fun t53_21 =>
 (bd (arA .sub t53_21 (.int .i64 1)) fun t54_22 =>
 (nat_long.l0 n n r5.1 r6.1 r8.1 t34_9 (.slice ⟨some (r8.2.n, 0), o12.2, 1, false⟩) t45_16 t51_20 t54_22 ((r8.2.push o12.1).more 0))))))))))))))))))))))))
theorem nat_long_tot {v0 v1 : V} {H : Heap} {Q : V → Heap → Prop} (h : Tot (fun n => nat_long_b @bnd n v0 v1 H) Q) : Tot (fun n => f_nat_long n [v0, v1] H) Q := Tot.fn (fun n => bd_bnd (fun bd => nat_long_b bd n v0 v1 H) (by kernel_rfl)) h
/-! zellige/nat.sub -/
@[irreducible] noncomputable def nat_sub.l0 (n m0 : Nat) (v1 v5 v6 v13 v14 v15 : V) (H : Heap) : Option R := Lp C n 90 [1, 1, 1, 0, 1, 0, 0] m0 [(1, v1), (5, v5), (6, v6), (13, v13), (14, v14), (15, v15)] H (kB 0 (kC C n 90 [1, 1, 1, 1] (kR C 90)))
@[irreducible] noncomputable def nat_sub.p1 (n m0 : Nat) (v1 v5 v9 v13 v14 v15 : V) (H : Heap) : Option R := E C n 90 [1, 1, 1, 0, 1, 0, 0, 1, 1, 0, 0, 1, 1, 1] [(1, v1), (5, v5), (9, v9), (13, v13), (14, v14), (15, v15)] H (kB 1 (kC C n 90 [1, 1, 1, 0, 1, 0, 0, 1, 1, 1] (kL C n 90 [1, 1, 1, 0, 1, 0, 0] m0 (kB 0 (kC C n 90 [1, 1, 1, 1] (kR C 90))))))
@[simp] noncomputable def nat_sub.l0_b (bd : B2) (n m0 : Nat) (v1 v5 v6 v13 v14 v15 : V) (H : Heap) : Option R :=
 (bd (arA .lss v15 v14) fun t16_1 =>
 (bd (asB t16_1) fun b2 =>
 if b2 = true then
 (bd (idxS 1 v13 v15) fun t18_3 =>
 (bd (ld1 t18_3 H) fun t19_4 =>
 (bd (cvInt .u64 t19_4) fun t21_5 =>
 (bd (arA .sub t21_5 v6) fun t23_6 =>
 (bd (lenSl v1) fun t26_7 =>
 (bd (arA .lss v15 t26_7) fun t27_8 =>
 (bd (asB t27_8) fun b9 =>
 if b9 = true then
 (bd (idxS 1 v1 v15) fun t31_10 =>
 (bd (ld1 t31_10 H) fun t32_11 =>
 (bd (cvInt .u64 t32_11) fun t33_12 =>
 (bd (arA .sub t23_6 t33_12) fun t34_13 =>
 (nat_sub.p1 n m0 v1 v5 t34_13 v13 v14 v15 H)))))
 else
 (nat_sub.p1 n m0 v1 v5 t23_6 v13 v14 v15 H))))))))
 else
 (bd (f_nat_trim n [v5] H) fun r14 =>
 (some (r14.1, r14.2)))))
theorem nat_sub.l0_tot {m0 : Nat → Nat} {v1 v5 v6 v13 v14 v15 : V} {H : Heap} {Q : V → Heap → Prop} (hb : Big m0) (h : ∀ m0', Big m0' → Tot (fun n => nat_sub.l0_b @bnd n (m0' n) v1 v5 v6 v13 v14 v15 H) Q) : Tot (fun n => nat_sub.l0 n (m0 n) v1 v5 v6 v13 v14 v15 H) Q :=
  Tot.loop (f := fun n k => nat_sub.l0 n k v1 v5 v6 v13 v14 v15 H) (g := fun n k => nat_sub.l0_b @bnd n k v1 v5 v6 v13 v14 v15 H) hb (fun n k => bd_bnd (fun bd => nat_sub.l0_b bd n k v1 v5 v6 v13 v14 v15 H) (by kernel_rfl)) h
@[simp] noncomputable def nat_sub.p1_b (bd : B2) (n m0 : Nat) (v1 v5 v9 v13 v14 v15 : V) (H : Heap) : Option R :=
 (bd (cvInt .u32 v9) fun t37_1 =>
 (bd (bSl 1 ty_uint32 [(.int .u32 0)] 1 [(0, t37_1)]) fun o2 =>
 (bd (appA 1 4 ty_uint32 v5 (.slice ⟨some (H.n, 0), 1, 1, false⟩) (H.push o2)) fun p3 =>
 (bd (shA .shr v9 (.int .u64 63)) fun t41_4 =>
 (bd (arA .add v15 (.int .i64 1)) fun t42_5 =>
 (nat_sub.l0 n m0 v1 p3.1 t41_4 v13 v14 t42_5 p3.2))))))
theorem nat_sub.p1_tot {m0 : Nat → Nat} {v1 v5 v9 v13 v14 v15 : V} {H : Heap} {Q : V → Heap → Prop} (h : Tot (fun n => nat_sub.p1_b @bnd n (m0 n) v1 v5 v9 v13 v14 v15 H) Q) : Tot (fun n => nat_sub.p1 n (m0 n) v1 v5 v9 v13 v14 v15 H) Q := Tot.eq (fun n => bd_bnd (fun bd => nat_sub.p1_b bd n (m0 n) v1 v5 v9 v13 v14 v15 H) (by kernel_rfl)) h
@[simp] noncomputable def nat_sub_b (bd : B2) (n : Nat) (v0 v1 : V) (H : Heap) : Option R :=
 (bd (lenSl v0) fun t11_1 =>
 (bd (mkSl 1 4 ty_uint32 [(.int .u32 0)] (.int .i64 0) t11_1) fun o2 =>
 (bd (lenSl v0) fun t14_3 =>
 (nat_sub.l0 n n v1 (.slice ⟨some (H.n, 0), o2.2, 1, false⟩) (.int .u64 0) v0 t14_3 (.int .i64 0) (H.push o2.1)))))
theorem nat_sub_tot {v0 v1 : V} {H : Heap} {Q : V → Heap → Prop} (h : Tot (fun n => nat_sub_b @bnd n v0 v1 H) Q) : Tot (fun n => f_nat_sub n [v0, v1] H) Q := Tot.fn (fun n => bd_bnd (fun bd => nat_sub_b bd n v0 v1 H) (by kernel_rfl)) h
/-! math/bits.Len32 -/
@[irreducible] noncomputable def math_bits_Len32.p0 (n : Nat) (v0 v2 : V) (H : Heap) : Option R := E C n 91 [1, 1] [(0, v0), (2, v2)] H (kR C 91)
@[irreducible] noncomputable def math_bits_Len32.p1 (n : Nat) (v0 v2 : V) (H : Heap) : Option R := E C n 91 [1, 1, 1] [(0, v0), (2, v2)] H (kR C 91)
@[simp] noncomputable def math_bits_Len32.p0_b (bd : B2) (n : Nat) (v0 v2 : V) (H : Heap) : Option R :=
 (bd (arA .geq v0 (.int .u32 256)) fun t8_1 =>
 (bd (asB t8_1) fun b2 =>
 if b2 = true then
 (bd (shA .shr v0 (.int .u64 8)) fun t10_3 =>
 (bd (arA .add v2 (.int .i64 8)) fun t12_4 =>
 (math_bits_Len32.p1 n t10_3 t12_4 H)))
 else
 (math_bits_Len32.p1 n v0 v2 H)))
theorem math_bits_Len32.p0_tot {v0 v2 : V} {H : Heap} {Q : V → Heap → Prop} (h : Tot (fun n => math_bits_Len32.p0_b @bnd n v0 v2 H) Q) : Tot (fun n => math_bits_Len32.p0 n v0 v2 H) Q := Tot.eq (fun n => bd_bnd (fun bd => math_bits_Len32.p0_b bd n v0 v2 H) (by kernel_rfl)) h
@[simp] noncomputable def math_bits_Len32.p1_b (bd : B2) (n : Nat) (v0 v2 : V) (H : Heap) : Option R :=
 (bd (cvInt .u8 v0) fun t15_1 =>
 (bd (ixStr (.str [0, 1, 2, 2, 3, 3, 3, 3, 4, 4, 4, 4, 4, 4, 4, 4, 5, 5, 5, 5, 5, 5, 5, 5, 5, 5, 5, 5, 5, 5, 5, 5, 6, 6, 6, 6, 6, 6, 6, 6, 6, 6, 6, 6, 6, 6, 6, 6, 6, 6, 6, 6, 6, 6, 6, 6, 6, 6, 6, 6, 6, 6, 6, 6, 7, 7, 7, 7, 7, 7, 7, 7, 7, 7, 7, 7, 7, 7, 7, 7, 7, 7, 7, 7, 7, 7, 7, 7, 7, 7, 7, 7, 7, 7, 7, 7, 7, 7, 7, 7, 7, 7, 7, 7, 7, 7, 7, 7, 7, 7, 7, 7, 7, 7, 7, 7, 7, 7, 7, 7, 7, 7, 7, 7, 7, 7, 7, 7, 8, 8, 8, 8, 8, 8, 8, 8, 8, 8, 8, 8, 8, 8, 8, 8, 8, 8, 8, 8, 8, 8, 8, 8, 8, 8, 8, 8, 8, 8, 8, 8, 8, 8, 8, 8, 8, 8, 8, 8, 8, 8, 8, 8, 8, 8, 8, 8, 8, 8, 8, 8, 8, 8, 8, 8, 8, 8, 8, 8, 8, 8, 8, 8, 8, 8, 8, 8, 8, 8, 8, 8, 8, 8, 8, 8, 8, 8, 8, 8, 8, 8, 8, 8, 8, 8, 8, 8, 8, 8, 8, 8, 8, 8, 8, 8, 8, 8, 8, 8, 8, 8, 8, 8, 8, 8, 8, 8, 8, 8, 8, 8, 8, 8, 8, 8, 8, 8, 8, 8, 8, 8, 8, 8, 8, 8, 8, 8]) t15_1) fun t16_2 =>
 (bd (cvInt .i64 t16_2) fun t17_3 =>
 (bd (arA .add v2 t17_3) fun t18_4 =>
 (some (t18_4, H))))))
theorem math_bits_Len32.p1_tot {v0 v2 : V} {H : Heap} {Q : V → Heap → Prop} (h : Tot (fun n => math_bits_Len32.p1_b @bnd n v0 v2 H) Q) : Tot (fun n => math_bits_Len32.p1 n v0 v2 H) Q := Tot.eq (fun n => bd_bnd (fun bd => math_bits_Len32.p1_b bd n v0 v2 H) (by kernel_rfl)) h
@[simp] noncomputable def math_bits_Len32_b (bd : B2) (n : Nat) (v0 : V) (H : Heap) : Option R :=
 (bd (arA .geq v0 (.int .u32 65536)) fun t4_1 =>
 (bd (asB t4_1) fun b2 =>
 if b2 = true then
 (bd (shA .shr v0 (.int .u64 16)) fun t6_3 =>
 (math_bits_Len32.p0 n t6_3 (.int .i64 16) H))
 else
 (math_bits_Len32.p0 n v0 (.int .i64 0) H)))
theorem math_bits_Len32_tot {v0 : V} {H : Heap} {Q : V → Heap → Prop} (h : Tot (fun n => math_bits_Len32_b @bnd n v0 H) Q) : Tot (fun n => f_math_bits_Len32 n [v0] H) Q := Tot.fn (fun n => bd_bnd (fun bd => math_bits_Len32_b bd n v0 H) (by kernel_rfl)) h
/-! math/bits.LeadingZeros32 -/
@[simp] noncomputable def math_bits_LeadingZeros32_b (bd : B2) (n : Nat) (v0 : V) (H : Heap) : Option R :=
 (bd (f_math_bits_Len32 n [v0] H) fun r1 =>
 (bd (arA .sub (.int .i64 32) r1.1) fun t5_2 =>
 (some (t5_2, r1.2))))
theorem math_bits_LeadingZeros32_tot {v0 : V} {H : Heap} {Q : V → Heap → Prop} (h : Tot (fun n => math_bits_LeadingZeros32_b @bnd n v0 H) Q) : Tot (fun n => f_math_bits_LeadingZeros32 n [v0] H) Q := Tot.fn (fun n => bd_bnd (fun bd => math_bits_LeadingZeros32_b bd n v0 H) (by kernel_rfl)) h
/-! zellige/nat.shift -/
@[irreducible] noncomputable def nat_shift.l0 (n m0 : Nat) (v1 v5 v6 v13 v14 v15 : V) (H : Heap) : Option R := Lp C n 93 [1, 1, 1, 0, 1, 0, 0] m0 [(1, v1), (5, v5), (6, v6), (13, v13), (14, v14), (15, v15)] H (kB 0 (kC C n 93 [1, 1, 1, 1] (kR C 93)))
@[irreducible] noncomputable def nat_shift.p1 (n : Nat) (v5 v6 : V) (H : Heap) : Option R := E C n 93 [1, 1, 1, 1] [(5, v5), (6, v6)] H (kR C 93)
@[simp] noncomputable def nat_shift.l0_b (bd : B2) (n m0 : Nat) (v1 v5 v6 v13 v14 v15 : V) (H : Heap) : Option R :=
 (bd (arA .lss v15 v14) fun t16_1 =>
 (bd (asB t16_1) fun b2 =>
 if b2 = true then
 (bd (idxS 1 v13 v15) fun t17_3 =>
 (bd (ld1 t17_3 H) fun t18_4 =>
 (bd (cvInt .u64 t18_4) fun t21_5 =>
 (bd (shA .shl t21_5 v1) fun t23_6 =>
 (bd (arA .or v6 t23_6) fun t24_7 =>
 (bd (cvInt .u32 t24_7) fun t27_8 =>
 (bd (bSl 1 ty_uint32 [(.int .u32 0)] 1 [(0, t27_8)]) fun o9 =>
 (bd (appA 1 4 ty_uint32 v5 (.slice ⟨some (H.n, 0), 1, 1, false⟩) (H.push o9)) fun p10 =>
 (bd (shA .shr t24_7 (.int .u64 32)) fun t31_11 =>
 (bd (arA .add v15 (.int .i64 1)) fun t32_12 =>
 (nat_shift.l0 n m0 v1 p10.1 t31_11 v13 v14 t32_12 p10.2)))))))))))
 else
 (nat_shift.p1 n v5 v6 H)))
theorem nat_shift.l0_tot {m0 : Nat → Nat} {v1 v5 v6 v13 v14 v15 : V} {H : Heap} {Q : V → Heap → Prop} (hb : Big m0) (h : ∀ m0', Big m0' → Tot (fun n => nat_shift.l0_b @bnd n (m0' n) v1 v5 v6 v13 v14 v15 H) Q) : Tot (fun n => nat_shift.l0 n (m0 n) v1 v5 v6 v13 v14 v15 H) Q :=
  Tot.loop (f := fun n k => nat_shift.l0 n k v1 v5 v6 v13 v14 v15 H) (g := fun n k => nat_shift.l0_b @bnd n k v1 v5 v6 v13 v14 v15 H) hb (fun n k => bd_bnd (fun bd => nat_shift.l0_b bd n k v1 v5 v6 v13 v14 v15 H) (by kernel_rfl)) h
@[simp] noncomputable def nat_shift.p1_b (bd : B2) (n : Nat) (v5 v6 : V) (H : Heap) : Option R :=
 (bd (cvInt .u32 v6) fun t35_1 =>
 (bd (bSl 1 ty_uint32 [(.int .u32 0)] 1 [(0, t35_1)]) fun o2 =>
 (bd (appA 1 4 ty_uint32 v5 (.slice ⟨some (H.n, 0), 1, 1, false⟩) (H.push o2)) fun p3 =>
 (some (p3.1, p3.2)))))
theorem nat_shift.p1_tot {v5 v6 : V} {H : Heap} {Q : V → Heap → Prop} (h : Tot (fun n => nat_shift.p1_b @bnd n v5 v6 H) Q) : Tot (fun n => nat_shift.p1 n v5 v6 H) Q := Tot.eq (fun n => bd_bnd (fun bd => nat_shift.p1_b bd n v5 v6 H) (by kernel_rfl)) h
@[simp] noncomputable def nat_shift_b (bd : B2) (n : Nat) (v0 v1 : V) (H : Heap) : Option R :=
 (bd (lenSl v0) fun t10_1 =>
 (bd (arA .add t10_1 (.int .i64 1)) fun t11_2 =>
 (bd (mkSl 1 4 ty_uint32 [(.int .u32 0)] (.int .i64 0) t11_2) fun o3 =>
 (bd (lenSl v0) fun t14_4 =>
 (nat_shift.l0 n n v1 (.slice ⟨some (H.n, 0), o3.2, 1, false⟩) (.int .u64 0) v0 t14_4 (.int .i64 0) (H.push o3.1))))))
theorem nat_shift_tot {v0 v1 : V} {H : Heap} {Q : V → Heap → Prop} (h : Tot (fun n => nat_shift_b @bnd n v0 v1 H) Q) : Tot (fun n => f_nat_shift n [v0, v1] H) Q := Tot.fn (fun n => bd_bnd (fun bd => nat_shift_b bd n v0 v1 H) (by kernel_rfl)) h
/-! zellige/nat.guess -/
@[irreducible] noncomputable def nat_guess.l0 (n m0 : Nat) (v0 v1 v2 v7 v9 v10 : V) (H : Heap) : Option R := Lp C n 94 [1, 1, 1, 1, 0, 0, 0] m0 [(0, v0), (1, v1), (2, v2), (7, v7), (9, v9), (10, v10)] H (kB 0 (kC C n 94 [1, 1, 1, 1, 1] (kR C 94)))
@[simp] noncomputable def nat_guess.l0_b (bd : B2) (n m0 : Nat) (v0 v1 v2 v7 v9 v10 : V) (H : Heap) : Option R :=
 (bd (arA .geq v9 (.int .u64 4294967296)) fun t34_1 =>
 (bd (asB t34_1) fun b2 =>
 if b2 = true then
 (bd (arA .sub v9 (.int .u64 1)) fun t51_3 =>
 (bd (arA .add v10 v1) fun t54_4 =>
 (bd (arA .geq t54_4 (.int .u64 4294967296)) fun t56_5 =>
 (bd (asB t56_5) fun b6 =>
 if b6 = true then
 (some (t51_3, H))
 else
 (nat_guess.l0 n m0 v0 v1 v2 v7 t51_3 t54_4 H)))))
 else
 (bd (arA .mul v9 v2) fun t38_7 =>
 (bd (shA .shl v10 (.int .u64 32)) fun t40_8 =>
 (bd (arA .sub v7 (.int .i64 2)) fun t43_9 =>
 (bd (idxS 1 v0 t43_9) fun t44_10 =>
 (bd (ld1 t44_10 H) fun t45_11 =>
 (bd (cvInt .u64 t45_11) fun t46_12 =>
 (bd (arA .or t40_8 t46_12) fun t47_13 =>
 (bd (arA .gtr t38_7 t47_13) fun t48_14 =>
 (bd (asB t48_14) fun b15 =>
 if b15 = true then
 (bd (arA .sub v9 (.int .u64 1)) fun t51_16 =>
 (bd (arA .add v10 v1) fun t54_17 =>
 (bd (arA .geq t54_17 (.int .u64 4294967296)) fun t56_18 =>
 (bd (asB t56_18) fun b19 =>
 if b19 = true then
 (some (t51_16, H))
 else
 (nat_guess.l0 n m0 v0 v1 v2 v7 t51_16 t54_17 H)))))
 else
 (some (v9, H)))))))))))))
theorem nat_guess.l0_tot {m0 : Nat → Nat} {v0 v1 v2 v7 v9 v10 : V} {H : Heap} {Q : V → Heap → Prop} (hb : Big m0) (h : ∀ m0', Big m0' → Tot (fun n => nat_guess.l0_b @bnd n (m0' n) v0 v1 v2 v7 v9 v10 H) Q) : Tot (fun n => nat_guess.l0 n (m0 n) v0 v1 v2 v7 v9 v10 H) Q :=
  Tot.loop (f := fun n k => nat_guess.l0 n k v0 v1 v2 v7 v9 v10 H) (g := fun n k => nat_guess.l0_b @bnd n k v0 v1 v2 v7 v9 v10 H) hb (fun n k => bd_bnd (fun bd => nat_guess.l0_b bd n k v0 v1 v2 v7 v9 v10 H) (by kernel_rfl)) h
@[simp] noncomputable def nat_guess_b (bd : B2) (n : Nat) (v0 v1 v2 : V) (H : Heap) : Option R :=
 (bd (lenSl v0) fun t12_1 =>
 (bd (arA .sub t12_1 (.int .i64 1)) fun t13_2 =>
 (bd (idxS 1 v0 t13_2) fun t16_3 =>
 (bd (ld1 t16_3 (H.more 0)) fun t17_4 =>
 (bd (cvInt .u64 t17_4) fun t18_5 =>
 (bd (shA .shl t18_5 (.int .u64 32)) fun t19_6 =>
 (bd (arA .sub t13_2 (.int .i64 1)) fun t22_7 =>
 (bd (idxS 1 v0 t22_7) fun t23_8 =>
 (bd (ld1 t23_8 (H.more 0)) fun t24_9 =>
 (bd (cvInt .u64 t24_9) fun t25_10 =>
 (bd (arA .or t19_6 t25_10) fun t26_11 =>
 (bd (arA .quo t26_11 v1) fun t29_12 =>
 (bd (arA .rem t26_11 v1) fun t32_13 =>
 (nat_guess.l0 n n v0 v1 v2 t13_2 t29_12 t32_13 ((H.more 0).more 0)))))))))))))))
theorem nat_guess_tot {v0 v1 v2 : V} {H : Heap} {Q : V → Heap → Prop} (h : Tot (fun n => nat_guess_b @bnd n v0 v1 v2 H) Q) : Tot (fun n => f_nat_guess n [v0, v1, v2] H) Q := Tot.fn (fun n => bd_bnd (fun bd => nat_guess_b bd n v0 v1 v2 H) (by kernel_rfl)) h
/-! zellige/nat.off -/
@[irreducible] noncomputable def nat_off.l0 (n m0 : Nat) (v0 v1 v2 v7 v8 v12 v13 : V) (H : Heap) : Option R := Lp C n 95 [1, 1, 0, 1, 0, 0] m0 [(0, v0), (1, v1), (2, v2), (7, v7), (8, v8), (12, v12), (13, v13)] H (kB 0 (kC C n 95 [1, 1, 1] (kR C 95)))
@[irreducible] noncomputable def nat_off.p1 (n m0 : Nat) (v0 v1 v2 v7 v8 v9 v12 v13 : V) (H : Heap) : Option R := E C n 95 [1, 1, 0, 1, 0, 0, 1, 1, 0, 0, 1, 1] [(0, v0), (1, v1), (2, v2), (7, v7), (8, v8), (9, v9), (12, v12), (13, v13)] H (kB 1 (kC C n 95 [1, 1, 0, 1, 0, 0, 1, 1, 1] (kL C n 95 [1, 1, 0, 1, 0, 0] m0 (kB 0 (kC C n 95 [1, 1, 1] (kR C 95))))))
@[simp] noncomputable def nat_off.l0_b (bd : B2) (n m0 : Nat) (v0 v1 v2 v7 v8 v12 v13 : V) (H : Heap) : Option R :=
 (bd (arA .lss v13 v12) fun t14_1 =>
 (bd (asB t14_1) fun b2 =>
 if b2 = true then
 (bd (lenSl v1) fun t18_3 =>
 (bd (arA .lss v13 t18_3) fun t19_4 =>
 (bd (asB t19_4) fun b5 =>
 if b5 = true then
 (bd (idxS 1 v1 v13) fun t24_6 =>
 (bd (ld1 t24_6 H) fun t25_7 =>
 (bd (cvInt .u64 t25_7) fun t26_8 =>
 (bd (arA .mul v2 t26_8) fun t27_9 =>
 (bd (arA .add v7 t27_9) fun t28_10 =>
 (nat_off.p1 n m0 v0 v1 v2 t28_10 v8 v13 v12 v13 H))))))
 else
 (nat_off.p1 n m0 v0 v1 v2 v7 v8 v13 v12 v13 H))))
 else
 (bd (arA .neq v8 (.int .u64 0)) fun t51_11 =>
 (some (t51_11, H)))))
theorem nat_off.l0_tot {m0 : Nat → Nat} {v0 v1 v2 v7 v8 v12 v13 : V} {H : Heap} {Q : V → Heap → Prop} (hb : Big m0) (h : ∀ m0', Big m0' → Tot (fun n => nat_off.l0_b @bnd n (m0' n) v0 v1 v2 v7 v8 v12 v13 H) Q) : Tot (fun n => nat_off.l0 n (m0 n) v0 v1 v2 v7 v8 v12 v13 H) Q :=
  Tot.loop (f := fun n k => nat_off.l0 n k v0 v1 v2 v7 v8 v12 v13 H) (g := fun n k => nat_off.l0_b @bnd n k v0 v1 v2 v7 v8 v12 v13 H) hb (fun n k => bd_bnd (fun bd => nat_off.l0_b bd n k v0 v1 v2 v7 v8 v12 v13 H) (by kernel_rfl)) h
@[simp] noncomputable def nat_off.p1_b (bd : B2) (n m0 : Nat) (v0 v1 v2 v7 v8 v9 v12 v13 : V) (H : Heap) : Option R :=
 (bd (idxS 1 v0 v9) fun t31_1 =>
 (bd (ld1 t31_1 H) fun t32_2 =>
 (bd (cvInt .u64 t32_2) fun t33_3 =>
 (bd (cvInt .u32 v7) fun t35_4 =>
 (bd (cvInt .u64 t35_4) fun t36_5 =>
 (bd (arA .sub t33_3 t36_5) fun t37_6 =>
 (bd (arA .sub t37_6 v8) fun t39_7 =>
 (bd (cvInt .u32 t39_7) fun t43_8 =>
 (bd (idxS 1 v0 v9) fun t44_9 =>
 (bd (stA 1 t44_9 t43_8 H) fun H10 =>
 (bd (shA .shr t39_7 (.int .u64 63)) fun t46_11 =>
 (bd (shA .shr v7 (.int .u64 32)) fun t48_12 =>
 (bd (arA .add v13 (.int .i64 1)) fun t49_13 =>
 (nat_off.l0 n m0 v0 v1 v2 t48_12 t46_11 v12 t49_13 H10))))))))))))))
theorem nat_off.p1_tot {m0 : Nat → Nat} {v0 v1 v2 v7 v8 v9 v12 v13 : V} {H : Heap} {Q : V → Heap → Prop} (h : Tot (fun n => nat_off.p1_b @bnd n (m0 n) v0 v1 v2 v7 v8 v9 v12 v13 H) Q) : Tot (fun n => nat_off.p1 n (m0 n) v0 v1 v2 v7 v8 v9 v12 v13 H) Q := Tot.eq (fun n => bd_bnd (fun bd => nat_off.p1_b bd n (m0 n) v0 v1 v2 v7 v8 v9 v12 v13 H) (by kernel_rfl)) h
@[simp] noncomputable def nat_off_b (bd : B2) (n : Nat) (v0 v1 v2 : V) (H : Heap) : Option R :=
 (bd (lenSl v0) fun t12_1 =>
 (nat_off.l0 n n v0 v1 v2 (.int .u64 0) (.int .u64 0) t12_1 (.int .i64 0) H))
theorem nat_off_tot {v0 v1 v2 : V} {H : Heap} {Q : V → Heap → Prop} (h : Tot (fun n => nat_off_b @bnd n v0 v1 v2 H) Q) : Tot (fun n => f_nat_off n [v0, v1, v2] H) Q := Tot.fn (fun n => bd_bnd (fun bd => nat_off_b bd n v0 v1 v2 H) (by kernel_rfl)) h
/-! zellige/nat.back -/
@[irreducible] noncomputable def nat_back.l0 (n m0 : Nat) (v0 v1 v4 v7 v8 : V) (H : Heap) : Option R := Lp C n 96 [1, 1, 0, 0] m0 [(0, v0), (1, v1), (4, v4), (7, v7), (8, v8)] H (kB 0 (kR C 96))
@[irreducible] noncomputable def nat_back.p1 (n m0 : Nat) (v0 v1 v4 v5 v7 v8 : V) (H : Heap) : Option R := E C n 96 [1, 1, 0, 0, 1, 1, 0, 0, 1, 1, 1] [(0, v0), (1, v1), (4, v4), (5, v5), (7, v7), (8, v8)] H (kB 1 (kC C n 96 [1, 1, 0, 0, 1, 1, 1] (kL C n 96 [1, 1, 0, 0] m0 (kB 0 (kR C 96)))))
@[simp] noncomputable def nat_back.l0_b (bd : B2) (n m0 : Nat) (v0 v1 v4 v7 v8 : V) (H : Heap) : Option R :=
 (bd (arA .lss v8 v7) fun t9_1 =>
 (bd (asB t9_1) fun b2 =>
 if b2 = true then
 (bd (idxS 1 v0 v8) fun t14_3 =>
 (bd (ld1 t14_3 H) fun t15_4 =>
 (bd (cvInt .u64 t15_4) fun t16_5 =>
 (bd (arA .add v4 t16_5) fun t17_6 =>
 (bd (lenSl v1) fun t20_7 =>
 (bd (arA .lss v8 t20_7) fun t21_8 =>
 (bd (asB t21_8) fun b9 =>
 if b9 = true then
 (bd (idxS 1 v1 v8) fun t25_10 =>
 (bd (ld1 t25_10 H) fun t26_11 =>
 (bd (cvInt .u64 t26_11) fun t27_12 =>
 (bd (arA .add t17_6 t27_12) fun t28_13 =>
 (nat_back.p1 n m0 v0 v1 t28_13 v8 v7 v8 H)))))
 else
 (nat_back.p1 n m0 v0 v1 t17_6 v8 v7 v8 H))))))))
 else
 (some (.tuple [], H))))
theorem nat_back.l0_tot {m0 : Nat → Nat} {v0 v1 v4 v7 v8 : V} {H : Heap} {Q : V → Heap → Prop} (hb : Big m0) (h : ∀ m0', Big m0' → Tot (fun n => nat_back.l0_b @bnd n (m0' n) v0 v1 v4 v7 v8 H) Q) : Tot (fun n => nat_back.l0 n (m0 n) v0 v1 v4 v7 v8 H) Q :=
  Tot.loop (f := fun n k => nat_back.l0 n k v0 v1 v4 v7 v8 H) (g := fun n k => nat_back.l0_b @bnd n k v0 v1 v4 v7 v8 H) hb (fun n k => bd_bnd (fun bd => nat_back.l0_b bd n k v0 v1 v4 v7 v8 H) (by kernel_rfl)) h
@[simp] noncomputable def nat_back.p1_b (bd : B2) (n m0 : Nat) (v0 v1 v4 v5 v7 v8 : V) (H : Heap) : Option R :=
 (bd (cvInt .u32 v4) fun t32_1 =>
 (bd (idxS 1 v0 v5) fun t33_2 =>
 (bd (stA 1 t33_2 t32_1 H) fun H3 =>
 (bd (shA .shr v4 (.int .u64 32)) fun t35_4 =>
 (bd (arA .add v8 (.int .i64 1)) fun t36_5 =>
 (nat_back.l0 n m0 v0 v1 t35_4 v7 t36_5 H3))))))
theorem nat_back.p1_tot {m0 : Nat → Nat} {v0 v1 v4 v5 v7 v8 : V} {H : Heap} {Q : V → Heap → Prop} (h : Tot (fun n => nat_back.p1_b @bnd n (m0 n) v0 v1 v4 v5 v7 v8 H) Q) : Tot (fun n => nat_back.p1 n (m0 n) v0 v1 v4 v5 v7 v8 H) Q := Tot.eq (fun n => bd_bnd (fun bd => nat_back.p1_b bd n (m0 n) v0 v1 v4 v5 v7 v8 H) (by kernel_rfl)) h
@[simp] noncomputable def nat_back_b (bd : B2) (n : Nat) (v0 v1 : V) (H : Heap) : Option R :=
 (bd (lenSl v0) fun t7_1 =>
 (nat_back.l0 n n v0 v1 (.int .u64 0) t7_1 (.int .i64 0) H))
theorem nat_back_tot {v0 v1 : V} {H : Heap} {Q : V → Heap → Prop} (h : Tot (fun n => nat_back_b @bnd n v0 v1 H) Q) : Tot (fun n => f_nat_back n [v0, v1] H) Q := Tot.fn (fun n => bd_bnd (fun bd => nat_back_b bd n v0 v1 H) (by kernel_rfl)) h
end Go.AM
end

section
set_option linter.unusedVariables false
set_option linter.unusedSimpArgs false
/- What the numbers' functions of package nat give: trim, cmp, Add. -/
set_option linter.unusedSimpArgs false
set_option linter.unusedVariables false
namespace Go.AM

theorem nat_trim_spec {H : Heap} {s : Sl} {l : List Nat} (h : Row H .u32 s l) (hm : l.length < 2147483648) :
    Tot (fun n => f_nat_trim n [.slice s] H) fun v H' => H' = H ∧ ∃ s', v = .slice s' ∧ Row H .u32 s' (trimZ l) ∧ (∀ i, s'.has i → s.has i) ∧ s'.ad = s.ad ∧ (s.esz = 1 → s'.esz = 1) := by
  refine Tot.of fun Q hQ => ?_
  refine nat_trim_tot ?_
  simp only [nat_trim_b]
  suffices key : ∀ (j : Nat) (s' : Sl) (l' : List Nat), Row H .u32 s' l' → l'.length = j → j < 2147483648 → (s'.ad = s.ad ∧ (s.esz = 1 → s'.esz = 1)) → trimZ l' = trimZ l → ∀ m, Big m → Tot (fun n => nat_trim.l0 n (m n) (.slice s') H) Q by
    exact key _ s l h rfl hm ⟨rfl, fun x => x⟩ rfl _ Big.id
  intro j
  induction j with
  | zero =>
    intro s l h hl hm hs ht m hb
    have := List.eq_nil_of_length_eq_zero hl
    subst this
    refine nat_trim.l0_tot hb fun m' hb' => ?_
    simp [h.lenSl]
    exact Tot.ret (hQ _ _ ⟨rfl, _, rfl, by rw [← ht]; exact h, fun i ⟨o, ho⟩ => ⟨o, by rw [← hs.1]; exact ho⟩, hs⟩)
  | succ j ih =>
    intro s l h hl hm hs ht m hb
    rcases snoc_cases l with rfl | ⟨l', x, rfl⟩
    · simp at hl
    · have hl' : l'.length = j := by simpa using hl
      refine nat_trim.l0_tot hb fun m' hb' => ?_
      have hg := h.get (i := j) (by omega)
      have hx : nth (l' ++ [x]) j = x := by rw [← hl']; exact nth_app_len
      rw [hx] at hg
      simp (disch := first | omega | (simp only [hn_push, hn_set, hn_more] <;> omega) | (simp <;> omega) | fail) [h.lenSl, h.idx, hl, hg]
      refine Tot.ite (fun hx0 => ?_) (fun hx0 => ?_)
      · have hx0' : x = 0 := by omega
        subst hx0'
        simp (disch := first | omega | (simp only [hn_push, hn_set, hn_more] <;> omega) | (simp <;> omega) | fail) [h.slice (lo := none) (a := 0) (b := j) rfl]
        have he : ((l' ++ [0]).drop 0).take (j - 0) = l' := by simp [← hl']
        have h2 := h.sub (lo := 0) (hi := j) (by omega) (by omega)
        rw [he] at h2
        exact ih _ _ h2 hl' (by omega) ⟨by rw [← hs.1]; simp [subS], fun _ => rfl⟩ (by rw [← ht, trimZ_zero]) _ hb'
      · rw [trimZ_last (by omega)] at ht
        exact Tot.ret (hQ _ _ ⟨rfl, _, rfl, by rw [← ht]; exact h, fun i ⟨o, ho⟩ => ⟨o, by rw [← hs.1]; exact ho⟩, hs⟩)

/-- How two numbers stand to one another. -/
def cmpN (x y : Nat) : Int := if x < y then -1 else if y < x then 1 else 0

theorem nat_cmp_spec {H : Heap} {s t : Sl} {l l' : List Nat} (h : Row H .u32 s l) (h' : Row H .u32 t l') (hm : l.length < 2000000000) (hm' : l'.length < 2000000000) (hL : Lim 4294967296 l) (hL' : Lim 4294967296 l') :
    Tot (fun n => f_nat_cmp n [.slice s, .slice t] H) fun v H' => H' = H ∧ v = .int .i64 (cmpN (val 4294967296 l) (val 4294967296 l')) := by
  refine Tot.of fun Q hQ => ?_
  refine nat_cmp_tot ?_
  simp only [nat_cmp_b]
  refine Tot.bind (nat_trim_spec h (by omega)) ?_
  rintro v H ⟨rfl, s1, rfl, r1, -⟩
  refine Tot.bind (nat_trim_spec h' (by omega)) ?_
  rintro v H ⟨rfl, t1, rfl, r2, -⟩
  have e1 := trimZ_dig (b := 4294967296) (by decide) hL
  have e2 := trimZ_dig (b := 4294967296) (by decide) hL'
  have k1 := trimZ_len_le _ (l := l) rfl
  have k2 := trimZ_len_le _ (l := l') rfl
  rw [e1] at r1 k1; rw [e2] at r2 k2
  generalize val 4294967296 l = x at *
  generalize val 4294967296 l' = y at *
  clear e1 e2
  simp (disch := first | omega | (simp only [hn_push, hn_set, hn_more] <;> omega) | (simp <;> omega) | fail) [r1.lenSl, r2.lenSl]
  refine Tot.ite (fun hne => ?_) (fun hne => ?_)
  rotate_left
  · refine Tot.ite (fun hlt => ?_) (fun hlt => ?_)
    · exact Tot.ret (hQ _ _ ⟨rfl, by rw [cmpN, if_pos (lt_of_len (b := 4294967296) (by decide) (by omega))]⟩)
    · have := lt_of_len (b := 4294967296) (x := y) (y := x) (by decide) (by omega)
      exact Tot.ret (hQ _ _ ⟨rfl, by rw [cmpN, if_neg (by omega), if_pos this]⟩)
  · have hle : (dig 4294967296 x).length = (dig 4294967296 y).length := by omega
    have q1 := dig_lim (b := 4294967296) (by decide) x
    have q2 := dig_lim (b := 4294967296) (by decide) y
    have vx := val_dig (b := 4294967296) (by decide) x
    have vy := val_dig (b := 4294967296) (by decide) y
    generalize dig 4294967296 x = a at *
    generalize dig 4294967296 y = b at *
    suffices key : ∀ (j : Nat), j ≤ a.length → (a.drop j = b.drop j) → ∀ (i : Int), i = (j : Int) - 1 → ∀ m, Big m → Tot (fun n => nat_cmp.l0 n (m n) (.slice s1) (.slice t1) (.int .i64 i) H) Q by
      exact key a.length (Nat.le_refl _) (by rw [List.drop_length, hle, List.drop_length]) _ rfl _ Big.id
    intro j
    induction j with
    | zero =>
      intro hj hd i hi m hb
      refine nat_cmp.l0_tot hb fun m' hb' => ?_
      subst hi
      simp
      have : x = y := by rw [← vx, ← vy]; simpa using congrArg (val 4294967296) hd
      exact Tot.ret (hQ _ _ ⟨rfl, by simp [cmpN, this]⟩)
    | succ j ih =>
      intro hj hd i hi m hb
      refine nat_cmp.l0_tot hb fun m' hb' => ?_
      have : i = (j : Int) := by omega
      subst this
      simp (disch := first | omega | (simp only [hn_push, hn_set, hn_more] <;> omega) | (simp <;> omega) | fail) [r1.idx, r2.idx, r1.get, r2.get, hle ▸ hj]
      have g1 := take_succ_nth (l := a) (i := j) (by omega)
      have g2 := take_succ_nth (l := b) (i := j) (by omega)
      have p1 := val_take_drop (b := 4294967296) (n := j + 1) (l := a) (by omega)
      have p2 := val_take_drop (b := 4294967296) (n := j + 1) (l := b) (by omega)
      rw [hd] at p1
      refine Tot.ite (fun hlt => ?_) (fun hlt => ?_)
      · have := val_lt_of_top (b := 4294967296) (l := a.take j) (l' := b.take j) (x := nth a j) (y := nth b j) q1.take (by simp; omega) (by omega)
        rw [← g1, ← g2] at this
        exact Tot.ret (hQ _ _ ⟨rfl, by rw [cmpN, if_pos (by omega)]⟩)
      · refine Tot.ite (fun hgt => ?_) (fun hgt => ?_)
        · have := val_lt_of_top (b := 4294967296) (l := b.take j) (l' := a.take j) (x := nth b j) (y := nth a j) q2.take (by simp; omega) (by omega)
          rw [← g1, ← g2] at this
          exact Tot.ret (hQ _ _ ⟨rfl, by rw [cmpN, if_neg (by omega), if_pos (by omega)]⟩)
        · refine ih (by omega) ?_ _ rfl _ hb'
          rw [drop_eq_nth_cons (l := a) (by omega), drop_eq_nth_cons (l := b) (by omega), hd]
          congr 1; omega
end Go.AM
end

section
set_option linter.unusedVariables false
set_option linter.unusedSimpArgs false
/- What the numbers' functions of package nat give: Clone, Trim, Of, Add, Sub, Mul. -/
set_option linter.unusedSimpArgs false
set_option linter.unusedVariables false
set_option maxRecDepth 100000
namespace Go.AM

theorem clone_spec {H : Heap} {s : Sl} {l : List Nat} (h : Row H .u32 s l) (hm : l.length < 2000000000) :
    Tot (fun n => f_slices_Clone_api_Nat_uint32 n [.slice s] H) fun v H' => Ext0 H H' ∧ ∃ s', v = .slice s' ∧ Own H' .u32 ty_uint32 s' l ∧ ∀ i, s'.has i → H.n ≤ i := by
  refine Tot.of fun Q hQ => ?_
  refine slices_Clone_api_Nat_uint32_tot ?_
  simp (disch := first | omega | (simp only [hn_push, hn_set, hn_more] <;> omega) | (simp <;> omega) | fail) []
  refine Tot.ite (fun hn => ?_) (fun hn => ?_)
  · have : l = [] := by
      rcases Decidable.em (l = []) with h1 | h1
      · exact h1
      · obtain ⟨b, o, cs, e, ro, a1, _⟩ := h.mem h1
        simp [a1] at hn
    subst this
    exact Tot.ret (hQ _ _ ⟨Ch.refl, _, rfl, .inl ⟨rfl, rfl⟩, fun i hi => (has_none.1 hi).elim⟩)
  · have hb : bSl 1 ty_uint32 [.int .u32 0] 0 [] = some (.cells (nums .u32 []) ty_uint32 false) := by simp [bSl, rowA, fillA, V.one]
    rw [hb]
    simp only [bnd_some]
    have h1 : Row (H.push (.cells (nums .u32 []) ty_uint32 false)) .u32 s l := h.ext Ch.push
    obtain ⟨s', H', a1, a2, a3, a4⟩ := appA_own (by_ := 4) (Own.new (H := H) (k := .u32) (e := ty_uint32) (l := [])) h1.src (by simp; omega) (by decide)
    simp only [List.length_nil] at a1
    rw [a1]
    simp only [bnd_some]
    refine Tot.ret (hQ _ _ ⟨?_, s', rfl, by simpa using a2, ?_⟩)
    · exact (Ch.push (X := fun _ => False)).trans a3 fun i hi hx => by rw [has_mk] at hx; omega
    · intro i hi
      rcases a4 i hi with h | h
      · rw [has_mk] at h; omega
      · simp at h; omega

theorem nat_Trim_spec {H : Heap} {s : Sl} {l : List Nat} (h : Row H .u32 s l) (hm : l.length < 2000000000) (hL : Lim 4294967296 l) :
    Tot (fun n => f_nat_Trim n [.slice s] H) fun v H' => Ext0 H H' ∧ ∃ s', v = .slice s' ∧ Own H' .u32 ty_uint32 s' (dig 4294967296 (val 4294967296 l)) ∧ ∀ i, s'.has i → H.n ≤ i := by
  refine Tot.of fun Q hQ => ?_
  refine nat_Trim_tot ?_
  simp only [nat_Trim_b]
  refine Tot.bind (nat_trim_spec h (by omega)) ?_
  rintro v H ⟨rfl, s1, rfl, r1, -⟩
  have k1 := trimZ_len_le _ (l := l) rfl
  rw [trimZ_dig (b := 4294967296) (by decide) hL] at r1 k1
  refine Tot.bind (clone_spec r1 (by omega)) ?_
  rintro v H' ⟨c, s2, rfl, o, h3⟩
  exact Tot.ret (hQ _ _ ⟨c, s2, rfl, o, h3⟩)

/-- Two words. -/
theorem dig_two {x : Nat} : val 4294967296 [x % 4294967296, x / 4294967296] = x := by
  simp only [val]; have := Nat.mod_add_div x 4294967296; omega

theorem nat_Of_spec {H : Heap} {x : Nat} {xi : Int} (hx : xi = (x : Int)) (hm : x < 18446744073709551616) :
    Tot (fun n => f_nat_Of n [.int .u64 xi] H) fun v H' => Ext0 H H' ∧ ∃ s', v = .slice s' ∧ Own H' .u32 ty_uint32 s' (dig 4294967296 x) ∧ ∀ i, s'.has i → H.n ≤ i := by
  subst hx
  refine Tot.of fun Q hQ => ?_
  refine nat_Of_tot ?_
  simp (disch := first | omega | (simp only [hn_push, hn_set, hn_more] <;> omega) | (simp <;> omega) | fail) []
  have hb : bSl 1 ty_uint32 [.int .u32 0] 2 [(0, .int .u32 (IntKind.u32.wrap x)), (1, .int .u32 ((x : Int) / 4294967296))] = some (.cells (nums .u32 [x % 4294967296, x / 4294967296]) ty_uint32 false) := by
    simp [bSl, rowA, fillA, V.one, V.cells, lset, wrap_u32m]
  rw [hb]
  simp only [bnd_some]
  have hr := (Own.new (H := H) (k := .u32) (e := ty_uint32) (l := [x % 4294967296, x / 4294967296])).row
  have hL : Lim 4294967296 [x % 4294967296, x / 4294967296] := by
    intro y hy; simp at hy; rcases hy with rfl | rfl <;> omega
  refine Tot.bind (nat_trim_spec hr (by simp)) ?_
  rintro v _ ⟨rfl, s1, rfl, r1, -⟩
  rw [trimZ_dig (b := 4294967296) (by decide) hL, dig_two] at r1
  have k1 := trimZ_len_le _ (l := [x % 4294967296, x / 4294967296]) rfl
  rw [trimZ_dig (b := 4294967296) (by decide) hL, dig_two] at k1
  refine Tot.bind (clone_spec r1 (by simp at k1; omega)) ?_
  rintro v H' ⟨c, s2, rfl, o, h3⟩
  exact Tot.ret (hQ _ _ ⟨Ch.push.t c, s2, rfl, o, fun i hi => by have := h3 i hi; simp at this; omega⟩)

/-- Add's loop, its invariant. -/
theorem add_inv {b p S : Nat} {d a a' l' : List Nat} {c x y A B : Nat} (h : val b d + b ^ d.length * (c + (x + b * A) + (y + b * B)) = S) :
    val b (d ++ [(c + x + y) % b]) + b ^ (d ++ [(c + x + y) % b]).length * ((c + x + y) / b + A + B) = S := by
  rw [val_snoc, List.length_append, List.length_singleton, Nat.pow_succ]
  have := carry b (b ^ d.length) (c + x + y) (A + B)
  rw [← Nat.add_assoc] at this
  generalize b ^ d.length = q at *
  have e : q * (c + x + y + b * (A + B)) = q * (c + (x + b * A) + (y + b * B)) := by congr 1; grind
  omega

theorem val_drop_nth {b i : Nat} {l : List Nat} (h : i < l.length) : val b (l.drop i) = nth l i + b * val b (l.drop (i + 1)) := by rw [drop_eq_nth_cons h]; rfl
theorem val_drop_out {b i : Nat} {l : List Nat} (h : l.length ≤ i) : val b (l.drop i) = 0 := by rw [List.drop_of_length_le h]; rfl

theorem nat_Add_spec {H : Heap} {s t : Sl} {l l' : List Nat} (h : Row H .u32 s l) (h' : Row H .u32 t l') (hm : l.length < 2000000000) (hm' : l'.length < 2000000000) (hL : Lim 4294967296 l) (hL' : Lim 4294967296 l') :
    Tot (fun n => f_nat_Add n [.slice s, .slice t] H) fun v H' => Ext0 H H' ∧ ∃ s', v = .slice s' ∧ Row H' .u32 s' (dig 4294967296 (val 4294967296 l + val 4294967296 l')) ∧ Fr H.n s' := by
  refine Tot.of fun Q hQ => ?_
  refine nat_Add_tot ?_
  simp (disch := first | omega | (simp only [hn_push, hn_set, hn_more] <;> omega) | (simp <;> omega) | fail) [h.lenSl, h'.lenSl]
  have key : ∀ (s t : Sl) (l l' : List Nat) (S : Nat), Row H .u32 s l → Row H .u32 t l' → l.length < 2000000000 → l'.length ≤ l.length → Lim 4294967296 l → Lim 4294967296 l' → val 4294967296 l + val 4294967296 l' = S →
      (∀ v H', (Ext0 H H' ∧ ∃ s', v = .slice s' ∧ Row H' .u32 s' (dig 4294967296 S) ∧ Fr H.n s') → Q v H') → Tot (fun n => nat_Add.p0 n (.slice s) (.slice t) H) Q := by
    clear hQ h h' hm hm' hL hL' s t l l'
    intro s t l l' S h h' hm hle hL hL' hS hQ
    refine nat_Add.p0_tot ?_
    simp (disch := first | omega | (simp only [hn_push, hn_set, hn_more] <;> omega) | (simp <;> omega) | fail) [h.lenSl]
    suffices lp : ∀ (j i : Nat) (ii ci : Int) (H' : Heap) (so : Sl) (d : List Nat) (c : Nat), i + j = l.length → ii = (i : Int) → ci = (c : Int) → Ext0 H H' → Own H' .u32 ty_uint32 so d → (∀ i, so.has i → H.n ≤ i) → d.length = i → Lim 4294967296 d → c ≤ 1 →
        val 4294967296 d + 4294967296 ^ d.length * (c + val 4294967296 (l.drop i) + val 4294967296 (l'.drop i)) = S → ∀ m, Big m → Tot (fun n => nat_Add.l1 n (m n) (.slice t) (.slice so) (.int .u64 ci) (.slice s) (.int .i64 l.length) (.int .i64 ii) H') Q by
      refine lp l.length 0 _ _ _ _ [] 0 (by omega) rfl rfl Ch.push (Own.new (l := [])) (fun i hi => by rw [has_mk] at hi; omega) rfl Lim.nil (by omega) (by simpa [val] using hS) _ Big.id
    intro j
    induction j with
    | zero =>
      intro i ii ci H' so d c hi hii hci c0 o f hd hLd hc hv m hb
      subst hii hci
      refine nat_Add.l1_tot hb fun m' hb' => ?_
      simp (disch := first | omega | (simp only [hn_push, hn_set, hn_more] <;> omega) | (simp <;> omega) | fail) []
      refine Tot.no (by omega) ?_
      refine nat_Add.p3_tot ?_
      simp (disch := first | omega | (simp only [hn_push, hn_set, hn_more] <;> omega) | (simp <;> omega) | fail) []
      refine Tot.app1 o (x := c) (by omega) (by omega) (by decide) (by rfl) ?_
      intro s' H2 o2 c2 f2
      rw [val_drop_out (l := l) (by omega), val_drop_out (l := l') (by omega)] at hv
      have hv2 : val 4294967296 (d ++ [c]) = S := by rw [val_snoc]; simpa using hv
      refine Tot.bind (nat_trim_spec o2.row (by simp; omega)) ?_
      rintro v _ ⟨rfl, s3, rfl, r3, f3, -⟩
      rw [trimZ_dig (b := 4294967296) (by decide) (Lim.app.2 ⟨hLd, Lim.one.2 (by omega)⟩), hv2] at r3
      exact Tot.ret (hQ _ _ ⟨c0.trans c2 fun i hi hx => by have := f i hx; omega, _, rfl, r3, fun i hi => by rcases f2 i (f3 i hi) with h | h; exact f i h; have := c0.n; omega⟩)
    | succ j ih =>
      intro i ii ci H' so d c hi hii hci c0 o f hd hLd hc hv m hb
      subst hii hci
      refine nat_Add.l1_tot hb fun m' hb' => ?_
      have r := h.ext c0
      have r' := h'.ext c0
      have hx := hL.nth (i := i) (by decide)
      have hy := hL'.nth (i := i) (by decide)
      rw [val_drop_nth (l := l) (by omega)] at hv
      have step : ∀ (y : Nat) (w : Int), y < 4294967296 → w = ((c + nth l i + y : Nat) : Int) → val 4294967296 d + 4294967296 ^ d.length * (c + (nth l i + 4294967296 * val 4294967296 (l.drop (i + 1))) + (y + 4294967296 * val 4294967296 (l'.drop (i + 1)))) = S →
          Tot (fun n => nat_Add.p2 n (m' n) (.slice t) (.slice so) (.int .u64 w) (.slice s) (.int .i64 l.length) (.int .i64 i) H') Q := by
        intro y w hy hw hv
        subst hw
        refine nat_Add.p2_tot ?_
        simp (disch := first | omega | (simp only [hn_push, hn_set, hn_more] <;> omega) | (simp <;> omega) | fail) []
        refine Tot.app1 o (x := (c + nth l i + y) % 4294967296) (by omega) (by rw [wrap_u32m]; omega) (by decide) (by rfl) ?_
        intro s' H2 o2 c2 f2
        simp (disch := first | omega | (simp only [hn_push, hn_set, hn_more] <;> omega) | (simp <;> omega) | fail) []
        exact ih (i + 1) _ _ H2 s' _ ((c + nth l i + y) / 4294967296) (by omega) (by omega) (by omega) (c0.trans c2 fun i hi hx => by have := f i hx; omega) o2
          (fun i hi => by rcases f2 i hi with h | h; exact f i h; have := c0.n; omega) (by simp; omega) (Lim.app.2 ⟨hLd, Lim.one.2 (Nat.mod_lt _ (by decide))⟩) (by omega) (add_inv (a := []) (a' := []) (l' := []) (p := 0) hv) _ hb'
      simp (disch := first | omega | (simp only [hn_push, hn_set, hn_more] <;> omega) | (simp <;> omega) | fail) [r.idx, r.get, r'.lenSl]
      refine Tot.yes (by omega) ?_
      refine Tot.ite (fun hlt => ?_) (fun hlt => ?_)
      · simp (disch := first | omega | (simp only [hn_push, hn_set, hn_more] <;> omega) | (simp <;> omega) | fail) [r'.idx, r'.get]
        refine step (nth l' i) _ hy (by omega) ?_
        rw [val_drop_nth (l := l') (by omega)] at hv
        exact hv
      · refine step 0 _ (by decide) (by omega) ?_
        rw [val_drop_out (l := l') (by omega)] at hv
        rw [val_drop_out (l := l') (by omega)]
        simpa using hv
  refine Tot.ite (fun hlt => ?_) (fun hlt => ?_)
  · exact key t s l' l _ h' h hm' (by omega) hL' hL (Nat.add_comm _ _) hQ
  · exact key s t l l' _ h h' hm (by omega) hL hL' rfl hQ

theorem sub_inv {b p L L' D x y z c c' A B : Nat} (h : D + p * (x + b * A) + L' = L + p * (y + b * B + c)) (hz : x + b * c' = z + c + y) :
    D + p * z + p * b * A + L' = L + p * b * (B + c') := by
  have h2 : p * (x + b * c') = p * (z + c + y) := by rw [hz]
  grind

theorem nat_sub_spec {H : Heap} {s t : Sl} {l l' : List Nat} (h : Row H .u32 s l) (h' : Row H .u32 t l') (hm : l.length < 2000000000) (hle : l'.length ≤ l.length) (hL : Lim 4294967296 l) (hL' : Lim 4294967296 l') (hv : val 4294967296 l' ≤ val 4294967296 l) :
    Tot (fun n => f_nat_sub n [.slice s, .slice t] H) fun v H' => Ext0 H H' ∧ ∃ s', v = .slice s' ∧ Row H' .u32 s' (dig 4294967296 (val 4294967296 l - val 4294967296 l')) ∧ Fr H.n s' := by
  refine Tot.of fun Q hQ => ?_
  refine nat_sub_tot ?_
  simp (disch := first | omega | (simp only [hn_push, hn_set, hn_more] <;> omega) | (simp <;> omega) | fail) [h.lenSl]
  suffices lp : ∀ (j i : Nat) (ii ci : Int) (H' : Heap) (so : Sl) (d : List Nat) (c : Nat), i + j = l.length → ii = (i : Int) → ci = (c : Int) → Ext0 H H' → Own H' .u32 ty_uint32 so d → (∀ i, so.has i → H.n ≤ i) → d.length = i → Lim 4294967296 d → c ≤ 1 →
      val 4294967296 d + 4294967296 ^ d.length * val 4294967296 (l.drop i) + val 4294967296 l' = val 4294967296 l + 4294967296 ^ d.length * (val 4294967296 (l'.drop i) + c) → ∀ m, Big m → Tot (fun n => nat_sub.l0 n (m n) (.slice t) (.slice so) (.int .u64 ci) (.slice s) (.int .i64 l.length) (.int .i64 ii) H') Q by
    refine lp l.length 0 _ _ _ _ [] 0 (by omega) rfl rfl Ch.push (Own.new (l := [])) (fun i hi => by rw [has_mk] at hi; omega) rfl Lim.nil (by omega) (by simp [val]) _ Big.id
  intro j
  induction j with
  | zero =>
    intro i ii ci H' so d c hi hii hci c0 o f hd hLd hc hv m hb
    subst hii hci
    refine nat_sub.l0_tot hb fun m' hb' => ?_
    simp (disch := first | omega | (simp only [hn_push, hn_set, hn_more] <;> omega) | (simp <;> omega) | fail) []
    refine Tot.no (by omega) ?_
    rw [val_drop_out (l := l) (by omega), val_drop_out (l := l') (by omega)] at hv
    have hlt := val_lt hLd
    have hc0 : c = 0 := by
      rcases Nat.lt_or_ge 0 c with h1 | h1
      · have : c = 1 := by omega
        subst this
        simp at hv
        omega
      · omega
    subst hc0
    simp at hv
    refine Tot.bind (nat_trim_spec o.row (by omega)) ?_
    rintro v _ ⟨rfl, s3, rfl, r3, f3, -⟩
    rw [trimZ_dig (b := 4294967296) (by decide) hLd, show val 4294967296 d = val 4294967296 l - val 4294967296 l' by omega] at r3
    exact Tot.ret (hQ _ _ ⟨c0, _, rfl, r3, fun i hi => f i (f3 i hi)⟩)
  | succ j ih =>
    intro i ii ci H' so d c hi hii hci c0 o f hd hLd hc hv m hb
    subst hii hci
    refine nat_sub.l0_tot hb fun m' hb' => ?_
    have r := h.ext c0
    have r' := h'.ext c0
    have hx := hL.nth (i := i) (by decide)
    have hy := hL'.nth (i := i) (by decide)
    rw [val_drop_nth (l := l) (by omega)] at hv
    have step : ∀ (y : Nat) (w : Int), y < 4294967296 → w = ((nth l i : Int) - c - y) % 18446744073709551616 → val 4294967296 d + 4294967296 ^ d.length * (nth l i + 4294967296 * val 4294967296 (l.drop (i + 1))) + val 4294967296 l' = val 4294967296 l + 4294967296 ^ d.length * (y + 4294967296 * val 4294967296 (l'.drop (i + 1)) + c) →
        Tot (fun n => nat_sub.p1 n (m' n) (.slice t) (.slice so) (.int .u64 w) (.slice s) (.int .i64 l.length) (.int .i64 i) H') Q := by
      intro y w hy hw hv
      subst hw
      refine nat_sub.p1_tot ?_
      simp (disch := first | omega | (simp only [hn_push, hn_set, hn_more] <;> omega) | (simp <;> omega) | fail) []
      refine Tot.app1 o (x := (nth l i + 4294967296 - c - y) % 4294967296) (by omega) (by rw [wrap_u32m]; omega) (by decide) (by rfl) ?_
      intro s' H2 o2 c2 f2
      simp (disch := first | omega | (simp only [hn_push, hn_set, hn_more] <;> omega) | (simp <;> omega) | fail) []
      have hz : nth l i + 4294967296 * (if nth l i < c + y then 1 else 0) = (nth l i + 4294967296 - c - y) % 4294967296 + c + y := by split <;> omega
      refine ih (i + 1) _ _ H2 s' _ (if nth l i < c + y then 1 else 0) (by omega) (by omega) (by split <;> omega) (c0.trans c2 fun i hi hx => by have := f i hx; omega) o2
        (fun i hi => by rcases f2 i hi with h | h; exact f i h; have := c0.n; omega) (by simp; omega) (Lim.app.2 ⟨hLd, Lim.one.2 (Nat.mod_lt _ (by decide))⟩) (by split <;> omega) ?_ _ hb'
      rw [val_snoc, List.length_append, List.length_singleton, Nat.pow_succ]
      exact sub_inv hv hz
    simp (disch := first | omega | (simp only [hn_push, hn_set, hn_more] <;> omega) | (simp <;> omega) | fail) [r.idx, r.get, r'.lenSl]
    refine Tot.yes (by omega) ?_
    refine Tot.ite (fun hlt => ?_) (fun hlt => ?_)
    · simp (disch := first | omega | (simp only [hn_push, hn_set, hn_more] <;> omega) | (simp <;> omega) | fail) [r'.idx, r'.get]
      refine step (nth l' i) _ hy (by simp only [wrap_u64m]; omega) ?_
      rw [val_drop_nth (l := l') (by omega)] at hv
      exact hv
    · refine step 0 _ (by decide) (by simp only [wrap_u64m]; omega) ?_
      rw [val_drop_out (l := l') (by omega)] at hv
      rw [val_drop_out (l := l') (by omega)]
      simpa using hv

theorem nat_Sub_spec {H : Heap} {s t : Sl} {l l' : List Nat} (h : Row H .u32 s l) (h' : Row H .u32 t l') (hm : l.length < 2000000000) (hm' : l'.length < 2000000000) (hL : Lim 4294967296 l) (hL' : Lim 4294967296 l') :
    Tot (fun n => f_nat_Sub n [.slice s, .slice t] H) fun v H' => Ext0 H H' ∧ ∃ s', v = .tuple [.slice s', .bool (decide (val 4294967296 l' ≤ val 4294967296 l))] ∧ Row H' .u32 s' (dig 4294967296 (val 4294967296 l - val 4294967296 l')) ∧ Fr H.n s' := by
  refine Tot.of fun Q hQ => ?_
  refine nat_Sub_tot ?_
  simp only [nat_Sub_b]
  refine Tot.bind (nat_trim_spec h' (by omega)) ?_
  rintro v H ⟨rfl, t1, rfl, r1, -⟩
  have k1 := trimZ_len_le _ (l := l') rfl
  have e1 := trimZ_dig (b := 4294967296) (by decide) hL'
  rw [e1] at r1 k1
  have hd := val_dig (b := 4294967296) (by decide) (val 4294967296 l')
  have hLd := dig_lim (b := 4294967296) (by decide) (val 4294967296 l')
  refine Tot.bind (nat_cmp_spec h r1 hm (by omega) hL hLd) ?_
  rintro v H ⟨rfl, rfl⟩
  rw [hd]
  simp (disch := first | omega | (simp only [hn_push, hn_set, hn_more] <;> omega) | (simp <;> omega) | fail) [cmpN]
  by_cases hlt : val 4294967296 l < val 4294967296 l'
  · simp only [if_pos hlt]
    simp (disch := first | omega | (simp only [hn_push, hn_set, hn_more] <;> omega) | (simp <;> omega) | fail) []
    exact Tot.ret (hQ _ _ ⟨Ch.refl, _, by rw [decide_eq_false (by omega)], by rw [show val 4294967296 l - val 4294967296 l' = 0 by omega, dig_zero]; exact Row.nil, Fr.nil⟩)
  · simp only [if_neg hlt]
    refine Tot.no (by split <;> omega) ?_
    refine Tot.bind (nat_sub_spec h r1 hm ?_ hL hLd (by rw [hd]; omega)) ?_
    · apply dig_len_le (by decide)
      have := val_lt hL
      omega
    rintro v H' ⟨c, s', rfl, r2, f2⟩
    rw [hd] at r2
    exact Tot.ret (hQ _ _ ⟨c, s', by rw [decide_eq_true (by omega)], r2, f2⟩)

theorem nth_set {l : List Nat} {i j x : Nat} (hi : i < l.length) : nth (l.set i x) j = if j = i then x else nth l j := by
  simp only [nth, List.getD_eq_getElem?_getD, List.getElem?_set]
  by_cases h : i = j
  · subst h; simp [hi]
  · rw [if_neg h, if_neg (Ne.symm h)]
theorem val_set {b : Nat} : ∀ {l : List Nat} {i x : Nat}, i < l.length → val b (l.set i x) + b ^ i * nth l i = val b l + b ^ i * x
  | [], i, x, h => by simp at h
  | y :: l, 0, x, h => by simp [val, nth]; omega
  | y :: l, i + 1, x, h => by
    have := val_set (b := b) (l := l) (i := i) (x := x) (by simpa using h)
    have e : nth (y :: l) (i + 1) = nth l i := by simp [nth]
    simp only [List.set_cons_succ, val, e, Nat.pow_succ]
    have : b * (val b (l.set i x) + b ^ i * nth l i) = b * (val b l + b ^ i * x) := by rw [this]
    grind
theorem mul_inv {b O O' p o x y c V R : Nat} (h1 : O' + p * o = O + p * ((c + (o + x * y)) % b)) (h2 : O + p * c = V + R) : O' + p * b * ((c + (o + x * y)) / b) = V + (R + p * (x * y)) := by
  have := carry b p (c + (o + x * y)) 0
  grind

theorem nat_Mul_spec {H : Heap} {s t : Sl} {l l' : List Nat} (h : Row H .u32 s l) (h' : Row H .u32 t l') (hm : l.length + l'.length < 2000000000) (hL : Lim 4294967296 l) (hL' : Lim 4294967296 l') :
    Tot (fun n => f_nat_Mul n [.slice s, .slice t] H) fun v H' => Ext0 H H' ∧ ∃ s', v = .slice s' ∧ Row H' .u32 s' (dig 4294967296 (val 4294967296 l * val 4294967296 l')) ∧ Fr H.n s' := by
  refine Tot.of fun Q hQ => ?_
  refine nat_Mul_tot ?_
  have e0 : ((l.length : Int) + l'.length).toNat = l.length + l'.length := by omega
  simp (disch := first | omega | (simp only [hn_push, hn_set, hn_more] <;> omega) | (simp <;> omega) | fail) [h.lenSl, h'.lenSl, e0]
  have lp : ∀ (j i : Nat) (ii : Int) (H' : Heap) (o : List Nat) (so : Sl), i + j = l.length → ii = (i : Int) → Ext0 H H' → Mut H' .u32 ty_uint32 H.n [] o [] so → o.length = l.length + l'.length → Lim 4294967296 o →
      (∀ k, i + l'.length ≤ k → nth o k = 0) → val 4294967296 o = val 4294967296 (l.take i) * val 4294967296 l' → ∀ m, Big m → Tot (fun n => nat_Mul.l0 n (m n) (.slice t) (.slice so) (.slice s) (.int .i64 l.length) (.int .i64 ii) H') Q := by
    intro j
    induction j with
    | zero =>
      intro i ii H' o so hi hii c0 mo ho hLo h0 hv m hb
      subst hii
      refine nat_Mul.l0_tot hb fun m' hb' => ?_
      simp (disch := first | omega | (simp only [hn_push, hn_set, hn_more] <;> omega) | (simp <;> omega) | fail) []
      refine Tot.no (by omega) ?_
      refine Tot.bind (nat_trim_spec mo.row (by omega)) ?_
      rintro v _ ⟨rfl, s3, rfl, r3, f3, -⟩
      rw [trimZ_dig (b := 4294967296) (by decide) hLo, hv, List.take_of_length_le (by omega)] at r3
      exact Tot.ret (hQ _ _ ⟨c0, _, rfl, r3, fun i hi => by have := mo.has.1 (f3 i hi); omega⟩)
    | succ j ih =>
      intro i ii H' o so hi hii c0 mo ho hLo h0 hv m hb
      subst hii
      refine nat_Mul.l0_tot hb fun m' hb' => ?_
      have r := h.ext c0
      have r' := h'.ext c0
      have hx := hL.nth (i := i) (by decide)
      simp (disch := first | omega | (simp only [hn_push, hn_set, hn_more] <;> omega) | (simp <;> omega) | fail) [r.idx, r.get, r'.lenSl]
      refine Tot.yes (by omega) ?_
      suffices lp2 : ∀ (j2 k : Nat) (kk ci : Int) (H' : Heap) (o2 : List Nat) (c : Nat), k + j2 = l'.length → kk = (k : Int) → ci = (c : Int) → Ext0 H H' → Mut H' .u32 ty_uint32 H.n [] o2 [] so → o2.length = l.length + l'.length → Lim 4294967296 o2 → c < 4294967296 →
          (∀ k, i + l'.length ≤ k → nth o2 k = 0) → val 4294967296 o2 + 4294967296 ^ (i + k) * c = val 4294967296 o + 4294967296 ^ i * (nth l i * val 4294967296 (l'.take k)) → ∀ m1, Big m1 →
          Tot (fun n => nat_Mul.l1 n (m' n) (m1 n) (.slice t) (.slice so) (.int .i64 i) (.int .u32 (nth l i : Nat)) (.int .u64 ci) (.slice s) (.int .i64 l.length) (.int .i64 i) (.slice t) (.int .i64 l'.length) (.int .i64 kk) H') Q by
        exact lp2 l'.length 0 _ _ _ o 0 (by omega) rfl rfl c0 mo ho hLo (by decide) h0 (by simp [val]) _ Big.id
      intro j2
      induction j2 with
      | zero =>
        intro k kk ci H' o2 c hk hkk hci c1 mo2 ho2 hLo2 hc h02 hv2 m1 hb1
        subst hkk hci
        refine nat_Mul.l1_tot hb1 fun m1' hb1' => ?_
        simp (disch := first | omega | (simp only [hn_push, hn_set, hn_more] <;> omega) | (simp <;> omega) | fail) []
        refine Tot.no (by omega) ?_
        refine nat_Mul.p2_tot ?_
        simp (disch := first | omega | (simp only [hn_push, hn_set, hn_more] <;> omega) | (simp <;> omega) | fail) [(h'.ext c1).lenSl, mo2.row.idxN (i := i + l'.length) (by omega)]
        refine Tot.st mo2 (x := c) (by omega) (by omega) ?_
        intro H3 mo3 c3
        have hkl : k = l'.length := by omega
        subst hkl
        refine ih (i + 1) _ H3 _ so (by omega) (by omega) (c1.trans c3 fun i hi hx => by subst hx; omega) mo3 (by simpa using ho2) (hLo2.set hc) ?_ ?_ _ hb'
        · intro k hk
          rw [nth_set (by omega), if_neg (by omega)]
          exact h02 k (by omega)
        · have e1 := val_set (b := 4294967296) (l := o2) (i := i + l'.length) (x := c) (by omega)
          rw [h02 _ (Nat.le_refl _)] at e1
          rw [List.take_of_length_le (Nat.le_refl _)] at hv2
          rw [take_succ_nth (by omega), val_snoc, Nat.add_mul, ← hv]
          have e2 : (l.take i).length = i := by simp; omega
          rw [e2]
          have e3 : 4294967296 ^ i * nth l i * val 4294967296 l' = 4294967296 ^ i * (nth l i * val 4294967296 l') := Nat.mul_assoc _ _ _
          omega
      | succ j2 ih2 =>
        intro k kk ci H' o2 c hk hkk hci c1 mo2 ho2 hLo2 hc h02 hv2 m1 hb1
        subst hkk hci
        refine nat_Mul.l1_tot hb1 fun m1' hb1' => ?_
        have r' := h'.ext c1
        have hy := hL'.nth (i := k) (by decide)
        have hw := hLo2.nth (i := i + k) (by decide)
        have hxy : nth l i * nth l' k ≤ 4294967295 * 4294967295 := Nat.mul_le_mul (by omega) (by omega)
        simp (disch := first | omega | (simp only [hn_push, hn_set, hn_more] <;> omega) | (simp <;> omega) | fail) [r'.idx, r'.get, mo2.row.idxN (i := i + k) (by omega), mo2.row.get]
        refine Tot.yes (by omega) ?_
        refine Tot.st mo2 (x := (c + (nth o2 (i + k) + nth l i * nth l' k)) % 4294967296) (by omega) (by rw [wrap_u32m]; omega) ?_
        intro H3 mo3 c3
        refine ih2 (k + 1) _ _ H3 _ ((c + (nth o2 (i + k) + nth l i * nth l' k)) / 4294967296) (by omega) (by omega) (by omega) (c1.trans c3 fun i hi hx => by subst hx; omega) mo3 (by simpa using ho2) (hLo2.set (Nat.mod_lt _ (by decide))) (by omega) ?_ ?_ _ hb1'
        · intro q hq
          rw [nth_set (by omega), if_neg (by omega)]
          exact h02 q hq
        · have e1 := val_set (b := 4294967296) (l := o2) (i := i + k) (x := (c + (nth o2 (i + k) + nth l i * nth l' k)) % 4294967296) (by omega)
          have e2 := mul_inv e1 hv2
          have e4 : (l'.take k).length = k := by simp; omega
          rw [take_succ_nth (by omega), val_snoc, show i + (k + 1) = i + k + 1 from rfl, Nat.pow_succ, e2, e4, Nat.pow_add]
          grind
  exact lp l.length 0 _ _ (List.replicate (l.length + l'.length) 0) _ (by omega) rfl Ch.push Mut.make (by simp) (by intro x hx; simp at hx; omega) (by intro k _; simp [nth, List.getD_eq_getElem?_getD, List.getElem?_replicate]; split <;> rfl) (by simp [val_zero, val]) _ Big.id
end Go.AM
end

section
set_option linter.unusedVariables false
set_option linter.unusedSimpArgs false
/- Numbers: how many bits; long division: plain mathematics. -/
namespace Go.AM

/-- How many bits a number needs. -/
def blen (x : Nat) : Nat := (dig 2 x).length
theorem blen_lt (x : Nat) : x < 2 ^ blen x := dig_len_lt (by decide)
theorem blen_le {x n : Nat} (h : x < 2 ^ n) : blen x ≤ n := dig_len_le (by decide) h
theorem blen_zero : blen 0 = 0 := by simp [blen, dig_zero]
theorem le_of_blen {x : Nat} (h : x ≠ 0) : 2 ^ (blen x - 1) ≤ x := by
  apply Nat.le_of_not_lt
  intro hlt
  have := blen_le hlt
  have h0 : blen x ≠ 0 := by
    intro e
    have := blen_lt x
    rw [e] at this; omega
  omega
theorem blen_eq {x n : Nat} (h1 : x < 2 ^ n) (h2 : n = 0 ∨ 2 ^ (n - 1) ≤ x) : blen x = n := by
  have h3 := blen_le h1
  rcases h2 with h2 | h2
  · omega
  · have h4 := blen_lt x
    rcases Nat.lt_or_ge (blen x) n with h5 | h5
    · have h6 : 2 ^ blen x ≤ 2 ^ (n - 1) := Nat.pow_le_pow_right (by decide) (by omega)
      omega
    · omega
theorem blen_div {x k : Nat} (h : 2 ^ k ≤ x) : blen x = k + blen (x / 2 ^ k) := by
  have hp : 0 < 2 ^ k := Nat.two_pow_pos k
  have hne : x / 2 ^ k ≠ 0 := by
    intro e
    have := (Nat.div_eq_zero_iff_lt hp).1 e
    omega
  have h1 := blen_lt (x / 2 ^ k)
  have h2 := le_of_blen hne
  generalize hn : blen (x / 2 ^ k) = n at *
  have hn0 : n ≠ 0 := by
    intro e; subst e; simp at h1; omega
  apply blen_eq
  · rw [Nat.pow_add, Nat.mul_comm]
    exact (Nat.div_lt_iff_lt_mul hp).1 h1
  · right
    rw [show k + n - 1 = k + (n - 1) by omega, Nat.pow_add, Nat.mul_comm]
    exact (Nat.le_div_iff_mul_le hp).1 h2

/-! Long division -/
/-- Of the words of three and two the quotient, at most W - 1. -/
def Guess (W U3 V2 q : Nat) : Prop := q < W ∧ q * V2 ≤ U3 ∧ ∀ t, t < W → t * V2 ≤ U3 → t ≤ q

theorem guess_lo {W U3 V2 q p U V u' v' : Nat} (hg : Guess W U3 V2 q) (hp : 0 < p) (hV : V = p * V2 + v') (hU : U = p * U3 + u') (hu' : u' < p) (hUV : U < W * V) : U / V ≤ q := by
  have hV0 : 0 < V := by
    rcases Nat.eq_zero_or_pos V with h | h
    · rw [h] at hUV; simp at hUV
    · exact h
  apply hg.2.2
  · exact (Nat.div_lt_iff_lt_mul hV0).2 hUV
  · have h1 : U / V * V ≤ U := Nat.div_mul_le_self _ _
    generalize U / V = t at *
    apply Nat.le_of_lt_succ
    apply Nat.lt_of_mul_lt_mul_left (a := p)
    have h2 : t * V = p * (t * V2) + t * v' := by rw [hV]; grind
    have h3 : p * (U3 + 1) = p * U3 + p := by grind
    show p * (t * V2) < p * (U3 + 1)
    omega
theorem guess_hi {W U3 V2 q p U V u' v' : Nat} (hg : Guess W U3 V2 q) (hV : V = p * V2 + v') (hU : U = p * U3 + u') (hv' : v' < p) (hpV : W * p ≤ V) (hV0 : 0 < V) : q ≤ U / V + 1 := by
  obtain ⟨h1, h2, _⟩ := hg
  have h3 : p * (q * V2) ≤ p * U3 := Nat.mul_le_mul_left _ h2
  have h4 : q * v' ≤ W * p := Nat.mul_le_mul (by omega) (by omega)
  have h5 : q * V = p * (q * V2) + q * v' := by rw [hV]; grind
  rcases Nat.eq_zero_or_pos q with h | h
  · rw [h]; exact Nat.zero_le _
  · obtain ⟨r, rfl⟩ : ∃ r, q = r + 1 := ⟨q - 1, by omega⟩
    have h6 : (r + 1) * V = r * V + V := Nat.succ_mul _ _
    have h7 : r * V ≤ U := by omega
    have := (Nat.le_div_iff_mul_le hV0).2 h7
    omega

/-- Two numbers of words are the same where all is. -/
theorem nth_take {l : List Nat} {i n : Nat} (h : i < n) : nth (l.take n) i = nth l i := by
  simp [nth, List.getD_eq_getElem?_getD, List.getElem?_take, h]
theorem nth_drop {l : List Nat} {i n : Nat} : nth (l.drop n) i = nth l (n + i) := by
  simp [nth, List.getD_eq_getElem?_getD]
theorem take_set_le {l : List Nat} {i n x : Nat} (h : n ≤ i) : (l.set i x).take n = l.take n := by
  rw [List.take_set_of_le h]
theorem drop_set_lt {l : List Nat} {i n x : Nat} (h : i < n) : (l.set i x).drop n = l.drop n := by
  rw [List.drop_set_of_lt h]
theorem nth_set' {l : List Nat} {i x : Nat} (hi : i < l.length) : nth (l.set i x) i = x := by
  simp [nth, List.getD_eq_getElem?_getD, List.getElem?_set, hi]
theorem drop_set_eq {l : List Nat} {i x : Nat} (h : i < l.length) : (l.set i x).drop i = x :: l.drop (i + 1) := by
  rw [drop_eq_nth_cons (by simpa using h), nth_set' h, drop_set_lt (by omega)]
/-- What is divided by one word. -/
theorem short_step {by_ r x Q V W : Nat} (h : V = Q * by_ + r) : x + W * V = ((r * W + x) / by_ + W * Q) * by_ + (r * W + x) % by_ := by
  have := Nat.div_add_mod (r * W + x) by_
  generalize (r * W + x) / by_ = a at *
  generalize (r * W + x) % by_ = c at *
  subst h
  grind
theorem val_inj_div {V q r x : Nat} (h : V = q * x + r) (hr : r < x) : q = V / x ∧ r = V % x := by
  have hx : 0 < x := by omega
  constructor
  · rw [h, Nat.add_comm, Nat.add_mul_div_right _ _ hx, Nat.div_eq_of_lt hr, Nat.zero_add]
  · rw [h, Nat.add_comm, Nat.add_mul_mod_self_right, Nat.mod_eq_of_lt hr]
end Go.AM
end

section
set_option linter.unusedVariables false
set_option linter.unusedSimpArgs false
/- What the numbers' functions of package nat give: bits, short division. -/
set_option linter.unusedSimpArgs false
set_option linter.unusedVariables false
namespace Go.AM

theorem sh_l {q : IntKind} {a b : Int} (hb : 0 ≤ b ∧ b ≤ 63) : shA .shl (.int .u64 a) (.int q b) = some (.int .u64 (IntKind.u64.wrap (a * 2 ^ b.toNat))) := by
  simp only [shA, shiftA]
  rw [if_neg (by omega), show min b.toNat IntKind.u64.bits = b.toNat by simp only [IntKind.bits]; omega]
theorem sh_r {q : IntKind} {a b : Int} (hb : 0 ≤ a ∧ 0 ≤ b ∧ b ≤ 63) : shA .shr (.int .u64 a) (.int q b) = some (.int .u64 (a / 2 ^ b.toNat)) := by
  simp only [shA, shiftA]
  rw [if_neg (by omega), show min b.toNat IntKind.u64.bits = b.toNat by simp only [IntKind.bits]; omega, Int.fdiv_eq_ediv_of_nonneg _ (by exact Int.pow_nonneg (by decide))]
theorem sh_l32 {q : IntKind} {a : Int} : shA .shl (.int .u64 a) (.int q 32) = some (.int .u64 (IntKind.u64.wrap (a * 4294967296))) := sh_l (by omega)
theorem sh_r32 {q : IntKind} {a b : Int} (hb : 0 ≤ a ∧ 0 ≤ b ∧ b ≤ 31) : shA .shr (.int .u32 a) (.int q b) = some (.int .u32 (a / 2 ^ b.toNat)) := by
  simp only [shA, shiftA]
  rw [if_neg (by omega), show min b.toNat IntKind.u32.bits = b.toNat by simp only [IntKind.bits]; omega, Int.fdiv_eq_ediv_of_nonneg _ (by exact Int.pow_nonneg (by decide))]

/-- or, of numbers whose bits don't meet. -/
theorem or_apart {a b i c : Nat} {x y : Int} (hx : x = (a : Int)) (hy : y = (b : Int)) (ha : a = 2 ^ i * c) (hb : b < 2 ^ i) (hm : a + b < 18446744073709551616) : arA .or (.int .u64 x) (.int .u64 y) = some (.int .u64 ((a + b : Nat) : Int)) := by
  subst hx hy
  simp only [arA, if_true, intA]
  congr 2
  have h1 : (BitVec.ofInt IntKind.u64.bits (a : Int) ||| BitVec.ofInt IntKind.u64.bits (b : Int)).toNat = a + b := by
    rw [BitVec.toNat_or, BitVec.toNat_ofInt, BitVec.toNat_ofInt]
    simp only [IntKind.bits]
    rw [show ((a : Int) % ((2 ^ 64 : Nat) : Int)).toNat = a by omega, show ((b : Int) % ((2 ^ 64 : Nat) : Int)).toNat = b by omega]
    rw [ha]; exact (Nat.two_pow_add_eq_or_of_lt hb c).symm
  rw [h1, wrap_u64 (by omega)]
theorem or32 {a b : Nat} (h : a < 4294967296 ∧ b < 4294967296) : arA .or (.int .u64 ((a : Int) * 4294967296)) (.int .u64 (b : Int)) = some (.int .u64 ((a : Int) * 4294967296 + b)) := by
  have := or_apart (a := a * 4294967296) (b := b) (i := 32) (c := a) (x := (a : Int) * 4294967296) (y := b) (by simp) rfl (Nat.mul_comm _ _) (Nat.lt_of_lt_of_le h.2 (by decide)) (by omega)
  rw [this]; simp
theorem or_comm {x y : Int} : arA .or (.int .u64 x) (.int .u64 y) = arA .or (.int .u64 y) (.int .u64 x) := by
  simp only [arA, if_true, intA, BitVec.or_comm]

set_option maxRecDepth 20000 in
/-- bits' table. -/
theorem len8 {y : Nat} (h : y < 256) : ixStr (.str [0, 1, 2, 2, 3, 3, 3, 3, 4, 4, 4, 4, 4, 4, 4, 4, 5, 5, 5, 5, 5, 5, 5, 5, 5, 5, 5, 5, 5, 5, 5, 5, 6, 6, 6, 6, 6, 6, 6, 6, 6, 6, 6, 6, 6, 6, 6, 6, 6, 6, 6, 6, 6, 6, 6, 6, 6, 6, 6, 6, 6, 6, 6, 6, 7, 7, 7, 7, 7, 7, 7, 7, 7, 7, 7, 7, 7, 7, 7, 7, 7, 7, 7, 7, 7, 7, 7, 7, 7, 7, 7, 7, 7, 7, 7, 7, 7, 7, 7, 7, 7, 7, 7, 7, 7, 7, 7, 7, 7, 7, 7, 7, 7, 7, 7, 7, 7, 7, 7, 7, 7, 7, 7, 7, 7, 7, 7, 7, 8, 8, 8, 8, 8, 8, 8, 8, 8, 8, 8, 8, 8, 8, 8, 8, 8, 8, 8, 8, 8, 8, 8, 8, 8, 8, 8, 8, 8, 8, 8, 8, 8, 8, 8, 8, 8, 8, 8, 8, 8, 8, 8, 8, 8, 8, 8, 8, 8, 8, 8, 8, 8, 8, 8, 8, 8, 8, 8, 8, 8, 8, 8, 8, 8, 8, 8, 8, 8, 8, 8, 8, 8, 8, 8, 8, 8, 8, 8, 8, 8, 8, 8, 8, 8, 8, 8, 8, 8, 8, 8, 8, 8, 8, 8, 8, 8, 8, 8, 8, 8, 8, 8, 8, 8, 8, 8, 8, 8, 8, 8, 8, 8, 8, 8, 8, 8, 8, 8, 8, 8, 8, 8, 8, 8, 8, 8, 8]) (.int .u8 (y : Int)) = some (.int .u8 (blen y : Int)) := by
  have key : ∀ i : Fin 256, ∃ b : UInt8, ([0, 1, 2, 2, 3, 3, 3, 3, 4, 4, 4, 4, 4, 4, 4, 4, 5, 5, 5, 5, 5, 5, 5, 5, 5, 5, 5, 5, 5, 5, 5, 5, 6, 6, 6, 6, 6, 6, 6, 6, 6, 6, 6, 6, 6, 6, 6, 6, 6, 6, 6, 6, 6, 6, 6, 6, 6, 6, 6, 6, 6, 6, 6, 6, 7, 7, 7, 7, 7, 7, 7, 7, 7, 7, 7, 7, 7, 7, 7, 7, 7, 7, 7, 7, 7, 7, 7, 7, 7, 7, 7, 7, 7, 7, 7, 7, 7, 7, 7, 7, 7, 7, 7, 7, 7, 7, 7, 7, 7, 7, 7, 7, 7, 7, 7, 7, 7, 7, 7, 7, 7, 7, 7, 7, 7, 7, 7, 7, 8, 8, 8, 8, 8, 8, 8, 8, 8, 8, 8, 8, 8, 8, 8, 8, 8, 8, 8, 8, 8, 8, 8, 8, 8, 8, 8, 8, 8, 8, 8, 8, 8, 8, 8, 8, 8, 8, 8, 8, 8, 8, 8, 8, 8, 8, 8, 8, 8, 8, 8, 8, 8, 8, 8, 8, 8, 8, 8, 8, 8, 8, 8, 8, 8, 8, 8, 8, 8, 8, 8, 8, 8, 8, 8, 8, 8, 8, 8, 8, 8, 8, 8, 8, 8, 8, 8, 8, 8, 8, 8, 8, 8, 8, 8, 8, 8, 8, 8, 8, 8, 8, 8, 8, 8, 8, 8, 8, 8, 8, 8, 8, 8, 8, 8, 8, 8, 8, 8, 8, 8, 8, 8, 8, 8, 8, 8, 8] : List UInt8)[i.val]? = some b ∧ i.val < 2 ^ b.toNat ∧ (b.toNat = 0 ∨ 2 ^ (b.toNat - 1) ≤ i.val) := by decide +kernel
  obtain ⟨b, h1, h2, h3⟩ := key ⟨y, h⟩
  simp only at h1 h2 h3
  have h0 : (0 : Int) ≤ (y : Int) := by omega
  simp only [ixStr, if_pos h0, Int.toNat_natCast, h1, blen_eq h2 h3]

set_option maxRecDepth 20000 in
theorem Len32_spec {H : Heap} {x : Nat} {xi : Int} (hx : xi = (x : Int)) (hm : x < 4294967296) :
    Tot (fun n => f_math_bits_Len32 n [.int .u32 xi] H) fun v H' => H' = H ∧ v = .int .i64 (blen x) := by
  subst hx
  refine Tot.of fun Q hQ => ?_
  refine math_bits_Len32_tot ?_
  have p1 : ∀ (y k : Nat) (yi ki : Int), yi = (y : Int) → ki = (k : Int) → y < 256 → k ≤ 24 → k + blen y = blen x → Tot (fun n => math_bits_Len32.p1 n (.int .u32 yi) (.int .i64 ki) H) Q := by
    intro y k yi ki hy hk h1 h2 h3
    subst hy hk
    refine math_bits_Len32.p1_tot ?_
    have h4 : blen y ≤ 8 := blen_le (by omega)
    simp (disch := first | omega | (simp only [hn_push, hn_set, hn_more] <;> omega) | (simp <;> omega) | fail) [len8 h1]
    exact Tot.ret (hQ _ _ ⟨rfl, by rw [← h3]; simp⟩)
  have p0 : ∀ (y k : Nat) (yi ki : Int), yi = (y : Int) → ki = (k : Int) → y < 65536 → k ≤ 16 → k + blen y = blen x → Tot (fun n => math_bits_Len32.p0 n (.int .u32 yi) (.int .i64 ki) H) Q := by
    intro y k yi ki hy hk h1 h2 h3
    subst hy hk
    refine math_bits_Len32.p0_tot ?_
    simp (disch := first | omega | (simp only [hn_push, hn_set, hn_more] <;> omega) | (simp <;> omega) | fail) [sh_r32]
    refine Tot.ite (fun h => ?_) (fun h => ?_)
    · exact p1 (y / 256) (k + 8) _ _ (by omega) (by omega) (by omega) (by omega) (by have := blen_div (x := y) (k := 8) (by omega); simp at this; omega)
    · exact p1 y k _ _ rfl rfl (by omega) (by omega) h3
  simp (disch := first | omega | (simp only [hn_push, hn_set, hn_more] <;> omega) | (simp <;> omega) | fail) [sh_r32]
  refine Tot.ite (fun h => ?_) (fun h => ?_)
  · exact p0 (x / 65536) 16 _ _ (by omega) (by omega) (by omega) (by omega) (by have := blen_div (x := x) (k := 16) (by omega); simp at this; omega)
  · exact p0 x 0 _ _ rfl rfl (by omega) (by omega) (by omega)

theorem Lz32_spec {H : Heap} {x : Nat} {xi : Int} (hx : xi = (x : Int)) (hm : x < 4294967296) :
    Tot (fun n => f_math_bits_LeadingZeros32 n [.int .u32 xi] H) fun v H' => H' = H ∧ v = .int .i64 ((32 - blen x : Nat) : Int) := by
  refine Tot.of fun Q hQ => ?_
  refine math_bits_LeadingZeros32_tot ?_
  simp only [math_bits_LeadingZeros32_b]
  refine Tot.bind (Len32_spec hx hm) ?_
  rintro v H ⟨rfl, rfl⟩
  have : blen x ≤ 32 := blen_le (by omega)
  simp (disch := first | omega | (simp only [hn_push, hn_set, hn_more] <;> omega) | (simp <;> omega) | fail) []
  exact Tot.ret (hQ _ _ ⟨rfl, by congr 1; omega⟩)

/-- How many words. -/
theorem nat_size_spec {H : Heap} {s : Sl} {l : List Nat} (h : Row H .u32 s l) (hm : l.length < 2000000000) (hL : Lim 4294967296 l) :
    Tot (fun n => f_nat_size n [.slice s] H) fun v H' => H' = H ∧ ∃ k : Nat, v = .int .i64 (k : Int) ∧ (k = 0 ↔ val 4294967296 l = 0) := by
  refine Tot.of fun Q hQ => ?_
  refine nat_size_tot ?_
  simp only [nat_size_b]
  refine Tot.bind (nat_trim_spec h (by omega)) ?_
  rintro v H ⟨rfl, s1, rfl, r1, -⟩
  have k1 := trimZ_len_le _ (l := l) rfl
  rw [trimZ_dig (b := 4294967296) (by decide) hL] at r1 k1
  have hLd := dig_lim (b := 4294967296) (by decide) (val 4294967296 l)
  have hT := dig_trimmed (b := 4294967296) (by decide) (val 4294967296 l)
  have hn := dig_eq_nil (b := 4294967296) (x := val 4294967296 l) (by decide)
  generalize dig 4294967296 (val 4294967296 l) = d at *
  simp (disch := first | omega | (simp only [hn_push, hn_set, hn_more] <;> omega) | (simp <;> omega) | fail) [r1.lenSl]
  refine Tot.ite (fun h0 => ?_) (fun h0 => ?_)
  · exact Tot.ret (hQ _ _ ⟨rfl, 0, rfl, by simp [← hn, h0]⟩)
  · rcases snoc_cases d with rfl | ⟨d', x, rfl⟩
    · simp at h0
    have hx := hT.last
    have hl : (d' ++ [x]).length = d'.length + 1 := by simp
    have hg := r1.get (i := d'.length) (by omega)
    rw [nth_app_len] at hg
    have hxm : x < 4294967296 := Lim.one.1 (Lim.app.1 hLd).2
    simp (disch := first | omega | (simp only [hn_push, hn_set, hn_more] <;> omega) | (simp <;> omega) | fail) [r1.idxN (i := d'.length) (by omega), hg]
    refine Tot.bind (Len32_spec rfl hxm) ?_
    rintro v H ⟨rfl, rfl⟩
    have hb : blen x ≤ 32 := blen_le (by omega)
    have hb0 : blen x ≠ 0 := by
      intro e
      have := blen_lt x
      rw [e] at this; omega
    simp (disch := first | omega | (simp only [hn_push, hn_set, hn_more] <;> omega) | (simp <;> omega) | fail) []
    refine Tot.ret (hQ _ _ ⟨rfl, 32 * d'.length + blen x, by congr 1, ?_⟩)
    have : val 4294967296 l ≠ 0 := fun e => by have := hn.2 e; simp at this
    constructor
    · intro e; omega
    · intro e; exact (this e).elim

theorem nat_Bits_spec {H : Heap} {s : Sl} {l : List Nat} (h : Row H .u32 s l) (hm : l.length < 2000000000) (hL : Lim 4294967296 l) :
    Tot (fun n => f_nat_Bits n [.slice s] H) fun v H' => H' = H ∧ ∃ k : Nat, v = .int .i64 (k : Int) ∧ (k = 0 ↔ val 4294967296 l = 0) := by
  refine Tot.of fun Q hQ => ?_
  refine nat_Bits_tot ?_
  simp only [nat_Bits_b]
  refine Tot.bind (nat_size_spec h hm hL) ?_
  rintro v H ⟨rfl, k, rfl, hk⟩
  exact Tot.ret (hQ _ _ ⟨rfl, k, rfl, hk⟩)

/-- Division by one word, in place. -/
theorem nat_short_spec {H : Heap} {s : Sl} {l : List Nat} {b by_ : Nat} {q : List Nat} {bi : Int} (h : Mut H .u32 ty_uint32 b [] l q s) (hm : l.length < 2000000000) (hL : Lim 4294967296 l) (hbi : bi = (by_ : Int)) (hb0 : 0 < by_) (hb : by_ < 4294967296) :
    Tot (fun n => f_nat_short n [.slice s, .int .u32 bi] H) fun v H' => Ch (· = b) H H' ∧ v = .int .u32 ((val 4294967296 l % by_ : Nat) : Int) ∧ ∃ l', Mut H' .u32 ty_uint32 b [] l' q s ∧ l'.length = l.length ∧ Lim 4294967296 l' ∧ val 4294967296 l' = val 4294967296 l / by_ := by
  subst hbi
  refine Tot.of fun Q hQ => ?_
  refine nat_short_tot ?_
  simp (disch := first | omega | (simp only [hn_push, hn_set, hn_more] <;> omega) | (simp <;> omega) | fail) [h.row.lenSl]
  suffices lp : ∀ (j : Nat) (ii ri : Int) (H' : Heap) (o : List Nat) (r : Nat), ii = (j : Int) - 1 → ri = (r : Int) → j ≤ l.length → Ch (· = b) H H' → Mut H' .u32 ty_uint32 b [] o q s → o.length = l.length → Lim 4294967296 o → r < by_ → o.take j = l.take j →
      val 4294967296 (l.drop j) = val 4294967296 (o.drop j) * by_ + r → ∀ m, Big m → Tot (fun n => nat_short.l0 n (m n) (.slice s) (.int .u32 by_) (.int .u64 ri) (.int .i64 ii) H') Q by
    exact lp l.length _ _ _ l 0 rfl rfl (Nat.le_refl _) Ch.refl h rfl hL hb0 rfl (by rw [List.drop_length]; simp [val]) _ Big.id
  intro j
  induction j with
  | zero =>
    intro ii ri H' o r hii hri hj c mo ho hLo hr ht hv m hb
    subst hii hri
    refine nat_short.l0_tot hb fun m' hb' => ?_
    simp (disch := first | omega | (simp only [hn_push, hn_set, hn_more] <;> omega) | (simp <;> omega) | fail) []
    simp only [List.drop_zero] at hv
    have h2 := val_inj_div hv hr
    exact Tot.ret (hQ _ _ ⟨c, by rw [h2.2], o, mo, ho, hLo, by rw [h2.1]⟩)
  | succ j ih =>
    intro ii ri H' o r hii hri hj c mo ho hLo hr ht hv m hb
    have : ii = (j : Int) := by omega
    subst this hri
    refine nat_short.l0_tot hb fun m' hb' => ?_
    have hx := hLo.nth (i := j) (by decide)
    have hxe : nth o j = nth l j := by rw [← nth_take (l := o) (n := j + 1) (by omega), ht, nth_take (by omega)]
    simp (disch := first | omega | (simp only [hn_push, hn_set, hn_more] <;> omega) | (simp <;> omega) | fail) [mo.row.idxN (i := j) (by omega), mo.row.get, sh_l32, or_apart (a := r * 4294967296) (b := nth o j) (i := 32) (c := r)]
    have hq : (r * 4294967296 + nth o j) / by_ < 4294967296 := by
      apply (Nat.div_lt_iff_lt_mul hb0).2
      have : (r + 1) * 4294967296 ≤ by_ * 4294967296 := Nat.mul_le_mul_right _ hr
      rw [Nat.mul_comm 4294967296]; omega
    refine Tot.st mo (x := (r * 4294967296 + nth o j) / by_) (by omega) ?_ ?_
    · have e1 : ((r : Int) * 4294967296 + (nth o j : Int)) / (by_ : Int) = (((r * 4294967296 + nth o j) / by_ : Nat) : Int) := by simp
      rw [e1]
      generalize (r * 4294967296 + nth o j) / by_ = z at *
      rw [wrap_u64 (by omega), wrap_u32 (by omega)]
    intro H3 mo3 c3
    refine ih _ _ H3 _ ((r * 4294967296 + nth o j) % by_) (by omega) ?_ (by omega) (c.trans c3 fun i hi hx => hx) mo3 (by simpa using ho) (hLo.set hq) (Nat.mod_lt _ hb0) ?_ ?_ _ hb'
    · simp
    · rw [take_set_le (Nat.le_refl _)]
      have := congrArg (List.take j) ht
      simpa [List.take_take, Nat.min_eq_left (Nat.le_succ j)] using this
    · rw [val_drop_nth (by omega), drop_set_eq (by omega), ← hxe, short_step hv]
      rfl
end Go.AM
end
