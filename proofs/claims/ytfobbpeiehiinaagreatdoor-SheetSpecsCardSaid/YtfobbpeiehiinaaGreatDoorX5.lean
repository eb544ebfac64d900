/- Merged by program from: AmStr HvLR0 HvLR1 HvLR2 HvLR3 HvLO HvLE. -/
import Derived.Test.YtfobbpeiehiinaaGreatDoorX4
section
set_option linter.unusedVariables false
set_option linter.unusedSimpArgs false
set_option linter.unusedVariables false
namespace Go.AM
universe u
section
variable {α : Type u}
def fcN (n : Nat) (k : Nat → α) : α := Nat.casesOn (motive := fun _ => α) n (k 0) fun m => k (Nat.succ m)
theorem fcN_eq (n : Nat) (k : Nat → α) : fcN n k = k n := by cases n <;> rfl
def fcI (i : Int) (k : Int → α) : α := Int.casesOn (motive := fun _ => α) i (fun n => fcN n fun n => k (Int.ofNat n)) (fun n => fcN n fun n => k (Int.negSucc n))
theorem fcI_eq (n : Int) (k : Int → α) : fcI n k = k n := by cases n <;> simp [fcI, fcN_eq]
def fcB (b : Bool) (k : Bool → α) : α := Bool.casesOn (motive := fun _ => α) b (k false) (k true)
theorem fcB_eq (b : Bool) (k : Bool → α) : fcB b k = k b := by cases b <;> rfl
def fcK (b : IntKind) (k : IntKind → α) : α := match b with
  | .i8 => k .i8 | .i16 => k .i16 | .i32 => k .i32 | .i64 => k .i64 | .u8 => k .u8 | .u16 => k .u16 | .u32 => k .u32 | .u64 => k .u64
theorem fcK_eq (b : IntKind) (k : IntKind → α) : fcK b k = k b := by cases b <;> rfl
def fcO {β : Type} (fb : β → (β → α) → α) (o : Option β) (k : Option β → α) : α := match o with
  | none => k none
  | some x => fb x fun x => k (some x)
theorem fcO_eq {β : Type} {fb : β → (β → α) → α} (h : ∀ x k, fb x k = k x) (o : Option β) (k : Option β → α) : fcO fb o k = k o := by cases o <;> simp [fcO, h]
def fcP (o : Nat × Nat) (k : Nat × Nat → α) : α := match o with
  | (a, b) => fcN a fun a => fcN b fun b => k (a, b)
theorem fcP_eq (o : Nat × Nat) (k : Nat × Nat → α) : fcP o k = k o := by cases o; simp [fcP, fcN_eq]
def fcS (o : Sl) (k : Sl → α) : α := match o with
  | ⟨a, l, z, f⟩ => fcO fcP a fun a => fcN l fun l => fcN z fun z => fcB f fun f => k ⟨a, l, z, f⟩
theorem fcS_eq (o : Sl) (k : Sl → α) : fcS o k = k o := by cases o; simp [fcS, fcN_eq, fcB_eq, fcO_eq fcP_eq]
mutual
def fcV : V → (V → α) → α
  | .bool b, k => fcB b fun b => k (.bool b)
  | .int d n, k => fcK d fun d => fcI n fun n => k (.int d n)
  | .ptr a, k => fcO fcP a fun a => k (.ptr a)
  | .slice s, k => fcS s fun s => k (.slice s)
  | .map r, k => fcO fcN r fun r => k (.map r)
  | .agg cs, k => fcVs cs fun cs => k (.agg cs)
  | .tuple cs, k => fcVs cs fun cs => k (.tuple cs)
  | .list n z cs, k => fcN n fun n => fcN z fun z => fcVs cs fun cs => k (.list n z cs)
  | .lptr cs, k => fcVs cs fun cs => k (.lptr cs)
  | .dead, k => k .dead
  | .str s, k => k (.str s)
  | .func f a b, k => k (.func f a b)
  | .nilFunc, k => k .nilFunc
  | .iface t v, k => k (.iface t v)
  | .nilIface, k => k .nilIface
  | .yld j, k => k (.yld j)
def fcVs : List V → (List V → α) → α
  | [], k => k []
  | v :: vs, k => fcV v fun v => fcVs vs fun vs => k (v :: vs)
end
mutual
theorem fcV_eq : ∀ (v : V) (k : V → α), fcV v k = k v
  | .bool b, k => by simp [fcV, fcB_eq]
  | .int d n, k => by simp [fcV, fcK_eq, fcI_eq]
  | .ptr a, k => by simp [fcV, fcO_eq fcP_eq]
  | .slice s, k => by simp [fcV, fcS_eq]
  | .map r, k => by simp [fcV, fcO_eq fcN_eq]
  | .agg cs, k => by rw [fcV, fcVs_eq]
  | .tuple cs, k => by rw [fcV, fcVs_eq]
  | .list n z cs, k => by rw [fcV, fcN_eq, fcN_eq, fcVs_eq]
  | .lptr cs, k => by rw [fcV, fcVs_eq]
  | .dead, k => rfl
  | .str s, k => rfl
  | .func f a b, k => rfl
  | .nilFunc, k => rfl
  | .iface t v, k => rfl
  | .nilIface, k => rfl
  | .yld j, k => rfl
theorem fcVs_eq : ∀ (v : List V) (k : List V → α), fcVs v k = k v
  | [], k => rfl
  | v :: vs, k => by rw [fcVs, fcV_eq, fcVs_eq]
end
end
def fcall (call : FuncId → List V → Heap → Option R) (f : FuncId) (args : List V) (H : Heap) : Option R := fcN f fun f => fcVs args fun args => call f args H
theorem fcall_eq (call : FuncId → List V → Heap → Option R) : fcall call = call := by
  funext f args H; rw [fcall, fcN_eq, fcVs_eq]
def bodyA (C : Cfg) (call : FuncId → List V → Heap → Option R) (n : Nat) (f : FuncId) (args : List V) (H : Heap) : Option R :=
  if yB ≤ f then yieldA C (fun tab N c => exec C.P call tab N (some (f - yB)) n c) (f - yB) args H else
  match C.ext f with
  | some g => g args H
  | none => match C.tabs f with
    | some tab => match C.P.funcs[f]? with
      | some fn => match fn.body with
        | some c => if C.pu f = true then pureA args H fun args => exec C.P call tab fn.ntmps none n c (argsA 0 args) ⟨0, .nil⟩ (kRet C.P (C.fr f) fn.results.toList)
          else inA (C.fa f) args H fun args H => exec C.P call tab fn.ntmps none n c (argsA 0 args) H (kRet C.P (C.fr f) fn.results.toList)
        | none => none
      | none => none
    | none => none
theorem bodyA_e {C : Cfg} {n : Nat} {f : FuncId} {a : List V} {H : Heap} : bodyA C (fcall (callA C n)) n f a H = callA C (n + 1) f a H := by
  rw [fcall_eq]; unfold callA; rfl
class Fc (α : Type) where
  fc : {ρ : Type} → α → (α → ρ) → ρ
  eq : ∀ {ρ : Type} (x : α) (k : α → ρ), fc x k = k x
instance : Fc V := ⟨fcV, fcV_eq⟩
instance : Fc Bool := ⟨fcB, fcB_eq⟩
instance : Fc Nat := ⟨fcN, fcN_eq⟩
instance : Fc Heap := ⟨fun x k => k x, fun _ _ => rfl⟩
instance : Fc O := ⟨fun x k => k x, fun _ _ => rfl⟩
instance : Fc Unit := ⟨fun x k => k x, fun _ _ => rfl⟩
instance {α β : Type} [Fc α] [Fc β] : Fc (α × β) := ⟨fun x k => match x with | (a, b) => Fc.fc a fun a => Fc.fc b fun b => k (a, b), fun x k => by cases x; simp [Fc.eq]⟩
abbrev B3 := {α β : Type} → [Fc α] → Option α → (α → Option β) → Option β
def bf {α β : Type} [Fc α] (x : Option α) (f : α → Option β) : Option β := match x with
  | some a => Fc.fc a f
  | none => none
def bdI {α β : Type} [Fc α] (x : Option α) (f : α → Option β) : Option β := bd x f
theorem bf_is : (@bf : B3) = @bdI := by
  funext α β _ x f
  cases x with
  | none => rfl
  | some a => exact Fc.eq a f
end Go.AM
end
section
set_option linter.unusedVariables false
set_option linter.unusedSimpArgs false
set_option maxRecDepth 1000000
set_option linter.unusedVariables false
namespace Go.AM.L
noncomputable def law25_lives.r (bd : B3) (call : FuncId → List V → Heap → Option R) (n : Nat) (H : Heap) : Option R :=
 (bd (call 12 [(.int .i64 10), (.int .i64 5)] H) fun r1 =>
 (bd (extA r1.1 0) fun t9_2 =>
 (bd (extA r1.1 1) fun t10_3 =>
 (bd (call 13 [t9_2, (.int .i64 1), (.int .i64 1)] r1.2) fun r4 =>
 (bd (extA r4.1 0) fun t14_5 =>
 (bd (extA r4.1 1) fun t15_6 =>
 (bd (call 13 [t9_2, (.int .i64 0), (.int .i64 1)] r4.2) fun r7 =>
 (bd (extA r7.1 0) fun t19_8 =>
 (bd (extA r7.1 1) fun t20_9 =>
 (bd (arA .eql t10_3 (.int .i64 0)) fun t22_10 =>
 (bd (asB t22_10) fun b11 =>
 if b11 = true then
 (bd (arA .eql t14_5 (.str [109, 101, 115, 104, 32, 49, 48, 32, 49, 32, 49, 10, 101, 110, 100, 10])) fun t25_12 =>
 (bd (asB t25_12) fun b13 =>
 if b13 = true then
 (bd (arA .eql t15_6 (.int .i64 0)) fun t29_14 =>
 (bd (asB t29_14) fun b15 =>
 if b15 = true then
 (bd (arA .eql t20_9 (.int .i64 16)) fun t33_16 =>
 (some (t33_16, r7.2)))
 else
 (some ((.bool false), r7.2))))
 else
 (some ((.bool false), r7.2))))
 else
 (some ((.bool false), r7.2)))))))))))))
theorem law25_lives.r_e (n : Nat) (H : Heap) : law25_lives.r @bdI (callA C n) n H = E C n 9 [] (argsA 0 []) H (kR C 9) := by
  unfold law25_lives.r
  kernel_rfl
noncomputable def law25_lives.rf (bd : B3) (call : FuncId → List V → Heap → Option R) (n : Nat) (a : List V) (H : Heap) : Option R := pureA a H fun a => (match a with | [] => law25_lives.r bd call n ⟨0, .nil⟩ | a => E C n 9 [] (argsA 0 a) ⟨0, .nil⟩ (kR C 9))
theorem law25_lives.rf_b (n : Nat) (a : List V) (H : Heap) : (match a with | [] => law25_lives.r @bdI (callA C n) n H | a => E C n 9 [] (argsA 0 a) H (kR C 9)) = E C n 9 [] (argsA 0 a) H (kR C 9) := by
  split
  · exact law25_lives.r_e n H
  · rfl
theorem law25_lives.rf_e (n : Nat) (a : List V) (H : Heap) : law25_lives.rf @bdI (callA C n) n a H = callA C (n + 1) 9 a H := by
  unfold law25_lives.rf
  refine (congrArg (pureA a H) (funext fun a => law25_lives.rf_b n a ⟨0, .nil⟩)).trans ?_
  kernel_rfl
noncomputable def pdt_Open.r (bd : B3) (call : FuncId → List V → Heap → Option R) (n : Nat) (v0 v1 : V) (H : Heap) : Option R :=
 (bd (arA .lss v0 (.int .i64 1)) fun t8_1 =>
 (bd (asB t8_1) fun b2 =>
 if b2 = true then
 (some (.tuple [(.ptr none), (.int .i64 10)], H))
 else
 (bd (arA .gtr v0 (.int .i64 1073741824)) fun t11_3 =>
 (bd (asB t11_3) fun b4 =>
 if b4 = true then
 (some (.tuple [(.ptr none), (.int .i64 10)], H))
 else
 (bd (arA .lss v1 (.int .i64 1)) fun t15_5 =>
 (bd (asB t15_5) fun b6 =>
 if b6 = true then
 (some (.tuple [(.ptr none), (.int .i64 10)], H))
 else
 (bd (arA .gtr v1 (.int .i64 16777216)) fun t19_7 =>
 (bd (asB t19_7) fun b8 =>
 if b8 = true then
 (some (.tuple [(.ptr none), (.int .i64 10)], H))
 else
 (bd (flA [(0, 1), (1, 1), (2, 1), (3, 1), (4, 1), (5, 1), (6, 1)] [(.int .i64 0), (.int .i64 0), (.map none), (.map none), (.int .i64 0), (.int .i64 0), (.ptr none)] [(0, v0), (1, v1), (2, (.map (some H.n))), (3, (.map (some (H.push (.map [] 0)).n)))]) fun t25_9 =>
 (bd (boxA ty_pdt_Engine t25_9) fun o10 =>
 (bd (call 17 [(.ptr (some (((H.push (.map [] 0)).push (.map [] 0)).n, 0)))] (((H.push (.map [] 0)).push (.map [] 0)).push o10)) fun r11 =>
 (some (.tuple [(.ptr (some (((H.push (.map [] 0)).push (.map [] 0)).n, 0))), (.int .i64 0)], r11.2)))))))))))))
theorem pdt_Open.r_e (n : Nat) (v0 v1 : V) (H : Heap) : pdt_Open.r @bdI (callA C n) n v0 v1 H = E C n 12 [] (argsA 0 [v0, v1]) H (kR C 12) := by
  unfold pdt_Open.r
  kernel_rfl
noncomputable def pdt_Open.rf (bd : B3) (call : FuncId → List V → Heap → Option R) (n : Nat) (a : List V) (H : Heap) : Option R := (match a with | [v0, v1] => pdt_Open.r bd call n v0 v1 H | a => E C n 12 [] (argsA 0 a) H (kR C 12))
theorem pdt_Open.rf_b (n : Nat) (a : List V) (H : Heap) : (match a with | [v0, v1] => pdt_Open.r @bdI (callA C n) n v0 v1 H | a => E C n 12 [] (argsA 0 a) H (kR C 12)) = E C n 12 [] (argsA 0 a) H (kR C 12) := by
  split
  · exact pdt_Open.r_e n _ _ H
  · rfl
theorem pdt_Open.rf_e (n : Nat) (a : List V) (H : Heap) : pdt_Open.rf @bdI (callA C n) n a H = callA C (n + 1) 12 a H := by
  unfold pdt_Open.rf
  refine (pdt_Open.rf_b n a H).trans ?_
  kernel_rfl
noncomputable def sheet_Export.r (bd : B3) (call : FuncId → List V → Heap → Option R) (n : Nat) (v0 v1 v2 : V) (H : Heap) : Option R :=
 (bd (eqlA P ty_p_pdt_Engine v0 (.ptr none)) fun t13_1 =>
 (bd (asB t13_1) fun b2 =>
 if b2 = true then
 (some (.tuple [(.str []), (.int .i64 10)], H))
 else
 (bd (call 19 [v0] H) fun r3 =>
 (bd (call 20 [v0] r3.2) fun r4 =>
 (bd (call 18 [r3.1, r4.1] r4.2) fun r5 =>
 (bd (extA r5.1 0) fun t20_6 =>
 (bd (extA r5.1 1) fun t21_7 =>
 (bd (call 21 [v0] r5.2) fun r8 =>
 (bd (call 20 [v0] r8.2) fun r9 =>
 (bd (call 10 [r8.1, t20_6, r9.1, v1, v2] r9.2) fun r10 =>
 (bd (extA r10.1 0) fun t31_11 =>
 (bd (extA r10.1 1) fun t32_12 =>
 (bd (stA 5 (.ptr (some (r10.2.n, 0))) t31_11 (r10.2.push (.cells [(.int .i64 0), (.int .i64 0), (.int .i64 0), (.slice ⟨none, 0, 0, false⟩), (.slice ⟨none, 0, 0, false⟩)] ty_api_Spec false))) fun H13 =>
 (bd (arA .neq t32_12 (.int .i64 0)) fun t34_14 =>
 (bd (asB t34_14) fun b15 =>
 if b15 = true then
 (some (.tuple [(.str []), t32_12], H13))
 else
 (bd (ldN 5 (.ptr (some (r10.2.n, 0))) H13) fun t36_16 =>
 (bd (call 22 [t36_16] H13) fun r17 =>
 (some (.tuple [r17.1, (.int .i64 0)], r17.2)))))))))))))))))))
theorem sheet_Export.r_e (n : Nat) (v0 v1 v2 : V) (H : Heap) : sheet_Export.r @bdI (callA C n) n v0 v1 v2 H = E C n 13 [] (argsA 0 [v0, v1, v2]) H (kR C 13) := by
  unfold sheet_Export.r
  kernel_rfl
noncomputable def sheet_Export.rf (bd : B3) (call : FuncId → List V → Heap → Option R) (n : Nat) (a : List V) (H : Heap) : Option R := (match a with | [v0, v1, v2] => sheet_Export.r bd call n v0 v1 v2 H | a => E C n 13 [] (argsA 0 a) H (kR C 13))
theorem sheet_Export.rf_b (n : Nat) (a : List V) (H : Heap) : (match a with | [v0, v1, v2] => sheet_Export.r @bdI (callA C n) n v0 v1 v2 H | a => E C n 13 [] (argsA 0 a) H (kR C 13)) = E C n 13 [] (argsA 0 a) H (kR C 13) := by
  split
  · exact sheet_Export.r_e n _ _ _ H
  · rfl
theorem sheet_Export.rf_e (n : Nat) (a : List V) (H : Heap) : sheet_Export.rf @bdI (callA C n) n a H = callA C (n + 1) 13 a H := by
  unfold sheet_Export.rf
  refine (sheet_Export.rf_b n a H).trans ?_
  kernel_rfl
noncomputable def sheet_good.r (bd : B3) (call : FuncId → List V → Heap → Option R) (n : Nat) (v0 : V) (H : Heap) : Option R :=
 (bd (arA .geq v0 (.int .i64 1)) fun t4_1 =>
 (bd (asB t4_1) fun b2 =>
 if b2 = true then
 (bd (arA .leq v0 (.int .i64 64)) fun t7_3 =>
 (some (t7_3, H)))
 else
 (some ((.bool false), H))))
theorem sheet_good.r_e (n : Nat) (v0 : V) (H : Heap) : sheet_good.r @bdI (callA C n) n v0 H = E C n 14 [] (argsA 0 [v0]) H (kR C 14) := by
  unfold sheet_good.r
  kernel_rfl
noncomputable def sheet_good.rf (bd : B3) (call : FuncId → List V → Heap → Option R) (n : Nat) (a : List V) (H : Heap) : Option R := pureA a H fun a => (match a with | [v0] => sheet_good.r bd call n v0 ⟨0, .nil⟩ | a => E C n 14 [] (argsA 0 a) ⟨0, .nil⟩ (kR C 14))
theorem sheet_good.rf_b (n : Nat) (a : List V) (H : Heap) : (match a with | [v0] => sheet_good.r @bdI (callA C n) n v0 H | a => E C n 14 [] (argsA 0 a) H (kR C 14)) = E C n 14 [] (argsA 0 a) H (kR C 14) := by
  split
  · exact sheet_good.r_e n _ H
  · rfl
theorem sheet_good.rf_e (n : Nat) (a : List V) (H : Heap) : sheet_good.rf @bdI (callA C n) n a H = callA C (n + 1) 14 a H := by
  unfold sheet_good.rf
  refine (congrArg (pureA a H) (funext fun a => sheet_good.rf_b n a ⟨0, .nil⟩)).trans ?_
  kernel_rfl
noncomputable def sheet_tiles.r (bd : B3) (call : FuncId → List V → Heap → Option R) (n : Nat) (v0 v1 : V) (H : Heap) : Option R :=
 (bd (boxA ty_int v0) fun o1 =>
 (bd (boxA ty_int v1) fun o2 =>
 (some ((.func (.func 23) [] [(.ptr (some (H.n, 0))), (.ptr (some ((H.push o1).n, 0)))]), ((H.push o1).push o2)))))
theorem sheet_tiles.r_e (n : Nat) (v0 v1 : V) (H : Heap) : sheet_tiles.r @bdI (callA C n) n v0 v1 H = E C n 15 [] (argsA 0 [v0, v1]) H (kR C 15) := by
  unfold sheet_tiles.r
  kernel_rfl
noncomputable def sheet_tiles.rf (bd : B3) (call : FuncId → List V → Heap → Option R) (n : Nat) (a : List V) (H : Heap) : Option R := (match a with | [v0, v1] => sheet_tiles.r bd call n v0 v1 H | a => E C n 15 [] (argsA 0 a) H (kR C 15))
theorem sheet_tiles.rf_b (n : Nat) (a : List V) (H : Heap) : (match a with | [v0, v1] => sheet_tiles.r @bdI (callA C n) n v0 v1 H | a => E C n 15 [] (argsA 0 a) H (kR C 15)) = E C n 15 [] (argsA 0 a) H (kR C 15) := by
  split
  · exact sheet_tiles.r_e n _ _ H
  · rfl
theorem sheet_tiles.rf_e (n : Nat) (a : List V) (H : Heap) : sheet_tiles.rf @bdI (callA C n) n a H = callA C (n + 1) 15 a H := by
  unfold sheet_tiles.rf
  refine (sheet_tiles.rf_b n a H).trans ?_
  kernel_rfl
noncomputable def pdt_Engine_clear.r (bd : B3) (call : FuncId → List V → Heap → Option R) (n : Nat) (v0 : V) (H : Heap) : Option R :=
 (bd (nilC v0) fun t3_1 =>
 (bd (faA 2 t3_1) fun t4_2 =>
 (bd (ld1 t4_2 H) fun t5_3 =>
 (bd (clrM t5_3 H) fun H4 =>
 (bd (nilC v0) fun t7_5 =>
 (bd (faA 3 t7_5) fun t8_6 =>
 (bd (ld1 t8_6 H4) fun t9_7 =>
 (bd (clrM t9_7 H4) fun H8 =>
 (bd (nilC v0) fun t11_9 =>
 (bd (faA 4 t11_9) fun t12_10 =>
 (bd (stA 1 t12_10 (.int .i64 0) H8) fun H11 =>
 (bd (nilC v0) fun t16_12 =>
 (bd (faA 0 t16_12) fun t17_13 =>
 (bd (ld1 t17_13 (H11.more 0)) fun t18_14 =>
 (bd (call 25 [t18_14] (H11.more 0)) fun r15 =>
 (bd (nilC v0) fun t21_16 =>
 (bd (faA 0 t21_16) fun t22_17 =>
 (bd (ld1 t22_17 r15.2) fun t23_18 =>
 (bd (chk (ld1 t22_17 (H11.more 0)) t23_18) fun _ =>
 (bd (call 24 [r15.1, t23_18] r15.2) fun r19 =>
 (bd (nilC v0) fun t25_20 =>
 (bd (faA 5 t25_20) fun t26_21 =>
 (bd (stA 1 t26_21 (.int .i64 0) r19.2) fun H22 =>
 (bd (nilC v0) fun t27_23 =>
 (bd (faA 6 t27_23) fun t28_24 =>
 (bd (stA 1 t28_24 r19.1 H22) fun H25 =>
 (some (.tuple [], H25))))))))))))))))))))))))))))
theorem pdt_Engine_clear.r_e (n : Nat) (v0 : V) (H : Heap) : pdt_Engine_clear.r @bdI (callA C n) n v0 H = E C n 17 [] (argsA 0 [v0]) H (kR C 17) := by
  unfold pdt_Engine_clear.r
  kernel_rfl
noncomputable def pdt_Engine_clear.rf (bd : B3) (call : FuncId → List V → Heap → Option R) (n : Nat) (a : List V) (H : Heap) : Option R := (match a with | [v0] => pdt_Engine_clear.r bd call n v0 H | a => E C n 17 [] (argsA 0 a) H (kR C 17))
theorem pdt_Engine_clear.rf_b (n : Nat) (a : List V) (H : Heap) : (match a with | [v0] => pdt_Engine_clear.r @bdI (callA C n) n v0 H | a => E C n 17 [] (argsA 0 a) H (kR C 17)) = E C n 17 [] (argsA 0 a) H (kR C 17) := by
  split
  · exact pdt_Engine_clear.r_e n _ H
  · rfl
theorem pdt_Engine_clear.rf_e (n : Nat) (a : List V) (H : Heap) : pdt_Engine_clear.rf @bdI (callA C n) n a H = callA C (n + 1) 17 a H := by
  unfold pdt_Engine_clear.rf
  refine (pdt_Engine_clear.rf_b n a H).trans ?_
  kernel_rfl
@[irreducible] noncomputable def unfold_Faces.l0 (n m0 : Nat) (v1 v2 v6 v40 v41 v42 : V) (H : Heap) : Option R := Lp C n 18 [1, 1, 1, 0, 1, 0, 0] m0 [(1, v1), (2, v2), (6, v6), (40, v40), (41, v41), (42, v42)] H (kB 0 (kC C n 18 [1, 1, 1, 1] (kR C 18)))
@[irreducible] noncomputable def unfold_Faces.p1 (n : Nat) (v1 v2 v6 : V) (H : Heap) : Option R := E C n 18 [1, 1, 1, 1] [(1, v1), (2, v2), (6, v6)] H (kR C 18)
@[irreducible] noncomputable def unfold_Faces.l2 (n m0 : Nat) (v1 v2 v6 v9 v52 v53 v54 : V) (H : Heap) : Option R := Lp C n 18 [1, 1, 1, 1, 1, 0, 1, 0, 0] m0 [(1, v1), (2, v2), (6, v6), (9, v9), (52, v52), (53, v53), (54, v54)] H (kB 2 (kC C n 18 [1, 1, 1, 1, 1, 1] (kR C 18)))
@[irreducible] noncomputable def unfold_Faces.l3 (n m0 m1 : Nat) (v1 v2 v6 v9 v11 v12 v52 v53 v54 v60 v61 : V) (H : Heap) : Option R := Lp C n 18 [1, 1, 1, 1, 1, 0, 1, 0, 0, 1, 1, 0, 0, 1, 1, 0, 1, 0, 0] m1 [(1, v1), (2, v2), (6, v6), (9, v9), (11, v11), (12, v12), (52, v52), (53, v53), (54, v54), (60, v60), (61, v61)] H (kB 4 (kC C n 18 [1, 1, 1, 1, 1, 0, 1, 0, 0, 1, 1, 0, 0, 1, 1, 1] (kB 3 (kC C n 18 [1, 1, 1, 1, 1, 0, 1, 0, 0, 1, 1, 1] (kL C n 18 [1, 1, 1, 1, 1, 0, 1, 0, 0] m0 (kB 2 (kC C n 18 [1, 1, 1, 1, 1, 1] (kR C 18))))))))
@[irreducible] noncomputable def unfold_Faces.p4 (n : Nat) (v9 : V) (H : Heap) : Option R := E C n 18 [1, 1, 1, 1, 1, 1] [(9, v9)] H (kR C 18)
@[irreducible] noncomputable def unfold_Faces.p5 (n m0 : Nat) (v1 v2 v6 v9 v12 v52 v53 v54 : V) (H : Heap) : Option R := E C n 18 [1, 1, 1, 1, 1, 0, 1, 0, 0, 1, 1, 0, 0, 1, 1, 1] [(1, v1), (2, v2), (6, v6), (9, v9), (12, v12), (52, v52), (53, v53), (54, v54)] H (kB 3 (kC C n 18 [1, 1, 1, 1, 1, 0, 1, 0, 0, 1, 1, 1] (kL C n 18 [1, 1, 1, 1, 1, 0, 1, 0, 0] m0 (kB 2 (kC C n 18 [1, 1, 1, 1, 1, 1] (kR C 18))))))
noncomputable def unfold_Faces.r_p5 (bd : B3) (call : FuncId → List V → Heap → Option R) (n : Nat) (s0 : V → V → V → V → V → V → V → Heap → Option R) (v1 v2 v6 v9 v12 v52 v53 v54 : V) (H : Heap) : Option R :=
 (bd (ldN 9 v12 H) fun t96_1 =>
 (bd (call 27 [t96_1] H) fun r2 =>
 (bd (bSl 9 ty_api_Tri [(.int .i64 0), (.int .i64 0), (.int .i64 0), (.int .i64 0), (.int .i64 0), (.int .i64 0), (.int .i64 0), (.int .i64 0), (.int .i64 0)] 1 [(0, r2.1)]) fun o3 =>
 (bd (appA 9 72 ty_api_Tri v9 (.slice ⟨some (r2.2.n, 0), 1, 9, false⟩) (r2.2.push o3)) fun p4 =>
 (bd (arA .add v54 (.int .i64 1)) fun t100_5 =>
 (s0 v1 v2 v6 p4.1 v52 v53 t100_5 p4.2))))))
theorem unfold_Faces.r_p5_e (n : Nat) (m0 : Nat) : unfold_Faces.r_p5 @bdI (callA C n) n (unfold_Faces.l2 n m0) = unfold_Faces.p5 n m0 := by
  funext v1 v2 v6 v9 v12 v52 v53 v54 H
  unfold unfold_Faces.r_p5
  kernel_rfl
noncomputable def unfold_Faces.r_l3 (bd : B3) (call : FuncId → List V → Heap → Option R) (n : Nat) (s0 : V → V → V → V → V → V → V → Heap → Option R) (s1 : V → V → V → V → V → V → V → V → V → V → V → Heap → Option R) (v1 v2 v6 v9 v11 v12 v52 v53 v54 v60 v61 : V) (H : Heap) : Option R :=
 (bd (arA .lss v61 (.int .i64 3)) fun t62_1 =>
 (bd (asB t62_1) fun b2 =>
 if b2 = true then
 (bd (ix1 3 v60 v61) fun t64_3 =>
 (bd (lookM P ty_int (.agg [(.int .i64 0), (.int .i64 0), (.int .i64 0), (.int .i64 0)]) v6 t64_3 true H) fun t68_4 =>
 (bd (extA t68_4 0) fun t69_5 =>
 (bd (extA t68_4 1) fun t70_6 =>
 (bd (stA 4 (.ptr (some (H.n, 0))) t69_5 (H.push (.cells [(.int .i64 0), (.int .i64 0), (.int .i64 0), (.int .i64 0)] ty_api_Vert false))) fun H7 =>
 (bd (unA .not t70_6) fun t72_8 =>
 (bd (asB t72_8) fun b9 =>
 if b9 = true then
 (frzR (.tuple [(.slice ⟨none, 0, 0, false⟩), (.bool false)]) H7)
 else
 (bd (ldN 4 (.ptr (some (H.n, 0))) (H7.more 0)) fun t76_10 =>
 (bd (faA 1 v11) fun t78_11 =>
 (bd (faA 3 t78_11) fun t79_12 =>
 (bd (idxP 3 2 t79_12 v61) fun t80_13 =>
 (bd (ldN 2 t80_13 (H7.more 0)) fun t81_14 =>
 (bd (faA 0 v2) fun t82_15 =>
 (bd (ld1 t82_15 (H7.more 0)) fun t83_16 =>
 (bd (arA .quo t83_16 v1) fun t85_17 =>
 (bd (call 26 [t76_10, t81_14, t85_17, v1] (H7.more 0)) fun r18 =>
 (bd (extA r18.1 0) fun t88_19 =>
 (bd (faA 0 v12) fun t90_20 =>
 (bd (idxP 3 1 t90_20 v61) fun t91_21 =>
 (bd (stA 1 t91_21 t88_19 r18.2) fun H22 =>
 (bd (extA r18.1 1) fun t89_23 =>
 (bd (faA 3 v12) fun t92_24 =>
 (bd (idxP 3 2 t92_24 v61) fun t93_25 =>
 (bd (stA 2 t93_25 t89_23 H22) fun H26 =>
 (bd (arA .add v61 (.int .i64 1)) fun t94_27 =>
 (s1 v1 v2 v6 v9 v11 v12 v52 v53 v54 v60 t94_27 H26))))))))))))))))))))))))))
 else
 (unfold_Faces.r_p5 bd call n s0 v1 v2 v6 v9 v12 v52 v53 v54 H)))
theorem unfold_Faces.r_l3_e (n m0 m1 : Nat) : unfold_Faces.r_l3 @bdI (callA C n) n (unfold_Faces.l2 n m0) (unfold_Faces.l3 n m0 m1) = unfold_Faces.l3 n m0 (m1 + 1) := by
  funext v1 v2 v6 v9 v11 v12 v52 v53 v54 v60 v61 H
  unfold unfold_Faces.r_l3
  rewrite [unfold_Faces.r_p5_e]
  kernel_rfl
noncomputable def unfold_Faces.r_l3_lp (bd : B3) (call : FuncId → List V → Heap → Option R) (n : Nat) (s0 : V → V → V → V → V → V → V → Heap → Option R) (m : Nat) : V → V → V → V → V → V → V → V → V → V → V → Heap → Option R := Nat.rec (motive := fun _ => V → V → V → V → V → V → V → V → V → V → V → Heap → Option R) (fun _ _ _ _ _ _ _ _ _ _ _ _ => none) (fun _ self => unfold_Faces.r_l3 bd call n s0 self) m
theorem unfold_Faces.r_l3_lp_e (n m0 : Nat) : unfold_Faces.r_l3_lp @bdI (callA C n) n (unfold_Faces.l2 n m0) = unfold_Faces.l3 n m0 := by
  funext m
  induction m with
  | zero => funext v1 v2 v6 v9 v11 v12 v52 v53 v54 v60 v61 H; kernel_rfl
  | succ k ih => exact (congrArg (unfold_Faces.r_l3 @bdI (callA C n) n (unfold_Faces.l2 n m0)) ih).trans (unfold_Faces.r_l3_e n m0 k)
noncomputable def unfold_Faces.r_p4 (bd : B3) (call : FuncId → List V → Heap → Option R) (n : Nat) (v9 : V) (H : Heap) : Option R :=
 (bd (call 28 [v9, (.func (.func 29) [] [])] H) fun r1 =>
 (bd (call 30 [v9] r1.2) fun r2 =>
 (frzR (.tuple [r2.1, (.bool true)]) r2.2)))
theorem unfold_Faces.r_p4_e (n : Nat) : unfold_Faces.r_p4 @bdI (callA C n) n = unfold_Faces.p4 n := by
  funext v9 H
  unfold unfold_Faces.r_p4
  kernel_rfl
noncomputable def unfold_Faces.r_l2 (bd : B3) (call : FuncId → List V → Heap → Option R) (n : Nat) (s0 : V → V → V → V → V → V → V → Heap → Option R) (v1 v2 v6 v9 v52 v53 v54 : V) (H : Heap) : Option R :=
 (bd (arA .lss v54 v53) fun t55_1 =>
 (bd (asB t55_1) fun b2 =>
 if b2 = true then
 (bd (idxS 10 v52 v54) fun t56_3 =>
 (bd (ldN 10 t56_3 H) fun t57_4 =>
 (bd (stA 10 (.ptr (some (H.n, 0))) t57_4 (H.push (.cells [(.int .i64 0), (.int .i64 0), (.int .i64 0), (.int .i64 0), (.int .i64 0), (.int .i64 0), (.int .i64 0), (.int .i64 0), (.int .i64 0), (.int .i64 0)] ty_api_Cell false))) fun H5 =>
 (bd (faA 1 (.ptr (some (H.n, 0)))) fun t58_6 =>
 (bd (faA 0 t58_6) fun t59_7 =>
 (bd (ldN 3 t59_7 (H5.push (.cells [(.int .i64 0), (.int .i64 0), (.int .i64 0), (.int .i64 0), (.int .i64 0), (.int .i64 0), (.int .i64 0), (.int .i64 0), (.int .i64 0)] ty_api_Tri false))) fun t60_8 =>
 (unfold_Faces.r_l3_lp bd call n s0 n v1 v2 v6 v9 (.ptr (some (H.n, 0))) (.ptr (some (H5.n, 0))) v52 v53 v54 t60_8 (.int .i64 0) (H5.push (.cells [(.int .i64 0), (.int .i64 0), (.int .i64 0), (.int .i64 0), (.int .i64 0), (.int .i64 0), (.int .i64 0), (.int .i64 0), (.int .i64 0)] ty_api_Tri false)))))))))
 else
 (unfold_Faces.r_p4 bd call n v9 H)))
theorem unfold_Faces.r_l2_e (n m0 : Nat) : unfold_Faces.r_l2 @bdI (callA C n) n (unfold_Faces.l2 n m0) = unfold_Faces.l2 n (m0 + 1) := by
  funext v1 v2 v6 v9 v52 v53 v54 H
  unfold unfold_Faces.r_l2
  rewrite [unfold_Faces.r_l3_lp_e]
  rewrite [unfold_Faces.r_p4_e]
  kernel_rfl
noncomputable def unfold_Faces.r_l2_lp (bd : B3) (call : FuncId → List V → Heap → Option R) (n : Nat) (m : Nat) : V → V → V → V → V → V → V → Heap → Option R := Nat.rec (motive := fun _ => V → V → V → V → V → V → V → Heap → Option R) (fun _ _ _ _ _ _ _ _ => none) (fun _ self => unfold_Faces.r_l2 bd call n self) m
theorem unfold_Faces.r_l2_lp_e (n : Nat) : unfold_Faces.r_l2_lp @bdI (callA C n) n = unfold_Faces.l2 n := by
  funext m
  induction m with
  | zero => funext v1 v2 v6 v9 v52 v53 v54 H; kernel_rfl
  | succ k ih => exact (congrArg (unfold_Faces.r_l2 @bdI (callA C n) n) ih).trans (unfold_Faces.r_l2_e n k)
noncomputable def unfold_Faces.r_p1 (bd : B3) (call : FuncId → List V → Heap → Option R) (n : Nat) (v1 v2 v6 : V) (H : Heap) : Option R :=
 (bd (faA 2 v2) fun t51_1 =>
 (bd (ld1 t51_1 H) fun t52_2 =>
 (bd (lenSl t52_2) fun t53_3 =>
 (unfold_Faces.r_l2_lp bd call n n v1 v2 v6 (.slice ⟨none, 0, 0, false⟩) t52_2 t53_3 (.int .i64 0) H))))
theorem unfold_Faces.r_p1_e (n : Nat) : unfold_Faces.r_p1 @bdI (callA C n) n = unfold_Faces.p1 n := by
  funext v1 v2 v6 H
  unfold unfold_Faces.r_p1
  rewrite [unfold_Faces.r_l2_lp_e]
  kernel_rfl
noncomputable def unfold_Faces.r_l0 (bd : B3) (call : FuncId → List V → Heap → Option R) (n : Nat) (s0 : V → V → V → V → V → V → Heap → Option R) (v1 v2 v6 v40 v41 v42 : V) (H : Heap) : Option R :=
 (bd (arA .lss v42 v41) fun t43_1 =>
 (bd (asB t43_1) fun b2 =>
 if b2 = true then
 (bd (idxS 4 v40 v42) fun t44_3 =>
 (bd (ldN 4 t44_3 H) fun t45_4 =>
 (bd (stA 4 (.ptr (some (H.n, 0))) t45_4 (H.push (.cells [(.int .i64 0), (.int .i64 0), (.int .i64 0), (.int .i64 0)] ty_api_Vert false))) fun H5 =>
 (bd (faA 0 (.ptr (some (H.n, 0)))) fun t47_6 =>
 (bd (ld1 t47_6 H5) fun t48_7 =>
 (bd (ldN 4 (.ptr (some (H.n, 0))) H5) fun t49_8 =>
 (bd (updM P ty_int v6 t48_7 t49_8 H5) fun H9 =>
 (bd (arA .add v42 (.int .i64 1)) fun t50_10 =>
 (s0 v1 v2 v6 v40 v41 t50_10 H9)))))))))
 else
 (unfold_Faces.r_p1 bd call n v1 v2 v6 H)))
theorem unfold_Faces.r_l0_e (n m0 : Nat) : unfold_Faces.r_l0 @bdI (callA C n) n (unfold_Faces.l0 n m0) = unfold_Faces.l0 n (m0 + 1) := by
  funext v1 v2 v6 v40 v41 v42 H
  unfold unfold_Faces.r_l0
  rewrite [unfold_Faces.r_p1_e]
  kernel_rfl
noncomputable def unfold_Faces.r_l0_lp (bd : B3) (call : FuncId → List V → Heap → Option R) (n : Nat) (m : Nat) : V → V → V → V → V → V → Heap → Option R := Nat.rec (motive := fun _ => V → V → V → V → V → V → Heap → Option R) (fun _ _ _ _ _ _ _ => none) (fun _ self => unfold_Faces.r_l0 bd call n self) m
theorem unfold_Faces.r_l0_lp_e (n : Nat) : unfold_Faces.r_l0_lp @bdI (callA C n) n = unfold_Faces.l0 n := by
  funext m
  induction m with
  | zero => funext v1 v2 v6 v40 v41 v42 H; kernel_rfl
  | succ k ih => exact (congrArg (unfold_Faces.r_l0 @bdI (callA C n) n) ih).trans (unfold_Faces.r_l0_e n k)
noncomputable def unfold_Faces.r (bd : B3) (call : FuncId → List V → Heap → Option R) (n : Nat) (v0 v1 : V) (H : Heap) : Option R :=
 (bd (boxA ty_api_Dump v0) fun o1 =>
 (bd (arA .lss v1 (.int .i64 1)) fun t18_2 =>
 (bd (asB t18_2) fun b3 =>
 if b3 = true then
 (frzR (.tuple [(.slice ⟨none, 0, 0, false⟩), (.bool false)]) (H.push o1))
 else
 (bd (faA 0 (.ptr (some (H.n, 0)))) fun t20_4 =>
 (bd (ld1 t20_4 (H.push o1)) fun t21_5 =>
 (bd (arA .neq t21_5 v1) fun t23_6 =>
 (bd (asB t23_6) fun b7 =>
 if b7 = true then
 (bd (faA 0 (.ptr (some (H.n, 0)))) fun t25_8 =>
 (bd (ld1 t25_8 (H.push o1)) fun t26_9 =>
 (bd (arA .rem t26_9 (.int .i64 3)) fun t27_10 =>
 (bd (arA .neq t27_10 (.int .i64 0)) fun t28_11 =>
 (bd (asB t28_11) fun b12 =>
 if b12 = true then
 (frzR (.tuple [(.slice ⟨none, 0, 0, false⟩), (.bool false)]) (H.push o1))
 else
 (bd (faA 0 (.ptr (some (H.n, 0)))) fun t30_13 =>
 (bd (ld1 t30_13 (H.push o1)) fun t31_14 =>
 (bd (arA .quo t31_14 (.int .i64 3)) fun t32_15 =>
 (bd (arA .neq t32_15 v1) fun t34_16 =>
 (bd (asB t34_16) fun b17 =>
 if b17 = true then
 (frzR (.tuple [(.slice ⟨none, 0, 0, false⟩), (.bool false)]) (H.push o1))
 else
 (bd (faA 1 (.ptr (some (H.n, 0)))) fun t39_18 =>
 (bd (ld1 t39_18 ((H.push o1).push (.map [] 0))) fun t40_19 =>
 (bd (lenSl t40_19) fun t41_20 =>
 (unfold_Faces.r_l0_lp bd call n n v1 (.ptr (some (H.n, 0))) (.map (some (H.push o1).n)) t40_19 t41_20 (.int .i64 0) ((H.push o1).push (.map [] 0))))))))))))))))
 else
 (bd (faA 1 (.ptr (some (H.n, 0)))) fun t39_21 =>
 (bd (ld1 t39_21 ((H.push o1).push (.map [] 0))) fun t40_22 =>
 (bd (lenSl t40_22) fun t41_23 =>
 (unfold_Faces.r_l0_lp bd call n n v1 (.ptr (some (H.n, 0))) (.map (some (H.push o1).n)) t40_22 t41_23 (.int .i64 0) ((H.push o1).push (.map [] 0)))))))))))))
theorem unfold_Faces.r_e (n : Nat) (v0 v1 : V) (H : Heap) : unfold_Faces.r @bdI (callA C n) n v0 v1 H = E C n 18 [] (argsA 0 [v0, v1]) H (kR C 18) := by
  unfold unfold_Faces.r
  rewrite [unfold_Faces.r_l0_lp_e]
  kernel_rfl
noncomputable def unfold_Faces.rf (bd : B3) (call : FuncId → List V → Heap → Option R) (n : Nat) (a : List V) (H : Heap) : Option R := inA true a H fun a H => (match a with | [v0, v1] => unfold_Faces.r bd call n v0 v1 H | a => E C n 18 [] (argsA 0 a) H (kR C 18))
theorem unfold_Faces.rf_b (n : Nat) (a : List V) (H : Heap) : (match a with | [v0, v1] => unfold_Faces.r @bdI (callA C n) n v0 v1 H | a => E C n 18 [] (argsA 0 a) H (kR C 18)) = E C n 18 [] (argsA 0 a) H (kR C 18) := by
  split
  · exact unfold_Faces.r_e n _ _ H
  · rfl
theorem unfold_Faces.rf_e (n : Nat) (a : List V) (H : Heap) : unfold_Faces.rf @bdI (callA C n) n a H = callA C (n + 1) 18 a H := by
  unfold unfold_Faces.rf
  refine (congrArg (inA true a H) (funext fun a => funext fun H => unfold_Faces.rf_b n a H)).trans ?_
  kernel_rfl
noncomputable def pdt_Engine_Dump.r (bd : B3) (call : FuncId → List V → Heap → Option R) (n : Nat) (v0 : V) (H : Heap) : Option R :=
 (bd (eqlA P ty_p_pdt_Engine v0 (.ptr none)) fun t4_1 =>
 (bd (asB t4_1) fun b2 =>
 if b2 = true then
 (bd (flA [(0, 1), (1, 1), (2, 1)] [(.int .i64 0), (.slice ⟨none, 0, 0, false⟩), (.slice ⟨none, 0, 0, false⟩)] []) fun t5_3 =>
 (bd (stA 3 (.ptr (some (H.n, 0))) t5_3 (H.push (.cells [(.int .i64 0), (.slice ⟨none, 0, 0, false⟩), (.slice ⟨none, 0, 0, false⟩)] ty_api_Dump false))) fun H4 =>
 (bd (ldN 3 (.ptr (some (H.n, 0))) H4) fun t5 =>
 (frzR t5 H4))))
 else
 (bd (nilC v0) fun t7_6 =>
 (bd (faA 6 t7_6) fun t8_7 =>
 (bd (ld1 t8_7 (H.push (.cells [(.int .i64 0), (.slice ⟨none, 0, 0, false⟩), (.slice ⟨none, 0, 0, false⟩)] ty_api_Dump false))) fun t9_8 =>
 (bd (nilC t9_8) fun t10_9 =>
 (bd (faA 0 t10_9) fun t11_10 =>
 (bd (ld1 t11_10 (H.push (.cells [(.int .i64 0), (.slice ⟨none, 0, 0, false⟩), (.slice ⟨none, 0, 0, false⟩)] ty_api_Dump false))) fun t12_11 =>
 (bd (call 31 [t12_11] (H.push (.cells [(.int .i64 0), (.slice ⟨none, 0, 0, false⟩), (.slice ⟨none, 0, 0, false⟩)] ty_api_Dump false))) fun r12 =>
 (bd (stA 3 (.ptr (some (H.n, 0))) r12.1 r12.2) fun H13 =>
 (bd (ldN 3 (.ptr (some (H.n, 0))) H13) fun t14 =>
 (frzR t14 H13))))))))))))
theorem pdt_Engine_Dump.r_e (n : Nat) (v0 : V) (H : Heap) : pdt_Engine_Dump.r @bdI (callA C n) n v0 H = E C n 19 [] (argsA 0 [v0]) H (kR C 19) := by
  unfold pdt_Engine_Dump.r
  kernel_rfl
noncomputable def pdt_Engine_Dump.rf (bd : B3) (call : FuncId → List V → Heap → Option R) (n : Nat) (a : List V) (H : Heap) : Option R := (match a with | [v0] => pdt_Engine_Dump.r bd call n v0 H | a => E C n 19 [] (argsA 0 a) H (kR C 19))
theorem pdt_Engine_Dump.rf_b (n : Nat) (a : List V) (H : Heap) : (match a with | [v0] => pdt_Engine_Dump.r @bdI (callA C n) n v0 H | a => E C n 19 [] (argsA 0 a) H (kR C 19)) = E C n 19 [] (argsA 0 a) H (kR C 19) := by
  split
  · exact pdt_Engine_Dump.r_e n _ H
  · rfl
theorem pdt_Engine_Dump.rf_e (n : Nat) (a : List V) (H : Heap) : pdt_Engine_Dump.rf @bdI (callA C n) n a H = callA C (n + 1) 19 a H := by
  unfold pdt_Engine_Dump.rf
  refine (pdt_Engine_Dump.rf_b n a H).trans ?_
  kernel_rfl
noncomputable def pdt_Engine_N.r (bd : B3) (call : FuncId → List V → Heap → Option R) (n : Nat) (v0 : V) (H : Heap) : Option R :=
 (bd (eqlA P ty_p_pdt_Engine v0 (.ptr none)) fun t4_1 =>
 (bd (asB t4_1) fun b2 =>
 if b2 = true then
 (some ((.int .i64 0), H))
 else
 (bd (nilC v0) fun t6_3 =>
 (bd (faA 0 t6_3) fun t7_4 =>
 (bd (ld1 t7_4 H) fun t8_5 =>
 (some (t8_5, H)))))))
theorem pdt_Engine_N.r_e (n : Nat) (v0 : V) (H : Heap) : pdt_Engine_N.r @bdI (callA C n) n v0 H = E C n 20 [] (argsA 0 [v0]) H (kR C 20) := by
  unfold pdt_Engine_N.r
  kernel_rfl
noncomputable def pdt_Engine_N.rf (bd : B3) (call : FuncId → List V → Heap → Option R) (n : Nat) (a : List V) (H : Heap) : Option R := (match a with | [v0] => pdt_Engine_N.r bd call n v0 H | a => E C n 20 [] (argsA 0 a) H (kR C 20))
theorem pdt_Engine_N.rf_b (n : Nat) (a : List V) (H : Heap) : (match a with | [v0] => pdt_Engine_N.r @bdI (callA C n) n v0 H | a => E C n 20 [] (argsA 0 a) H (kR C 20)) = E C n 20 [] (argsA 0 a) H (kR C 20) := by
  split
  · exact pdt_Engine_N.r_e n _ H
  · rfl
theorem pdt_Engine_N.rf_e (n : Nat) (a : List V) (H : Heap) : pdt_Engine_N.rf @bdI (callA C n) n a H = callA C (n + 1) 20 a H := by
  unfold pdt_Engine_N.rf
  refine (pdt_Engine_N.rf_b n a H).trans ?_
  kernel_rfl
@[irreducible] noncomputable def pdt_Engine_Sites.l0 (n m0 : Nat) (v3 v12 : V) (H : Heap) : Option R := Lp C n 21 [1, 1, 1, 0, 1, 0, 0] m0 [(3, v3), (12, v12)] H (kB 0 (kC C n 21 [1, 1, 1, 1] (kR C 21)))
@[irreducible] noncomputable def pdt_Engine_Sites.p1 (n : Nat) (v3 : V) (H : Heap) : Option R := E C n 21 [1, 1, 1, 1] [(3, v3)] H (kR C 21)
noncomputable def pdt_Engine_Sites.r_p1 (bd : B3) (call : FuncId → List V → Heap → Option R) (n : Nat) (v3 : V) (H : Heap) : Option R :=
 (bd (call 32 [v3, (.func (.func 33) [] [])] H) fun r1 =>
 (frzR v3 r1.2))
theorem pdt_Engine_Sites.r_p1_e (n : Nat) : pdt_Engine_Sites.r_p1 @bdI (callA C n) n = pdt_Engine_Sites.p1 n := by
  funext v3 H
  unfold pdt_Engine_Sites.r_p1
  kernel_rfl
noncomputable def pdt_Engine_Sites.r_l0 (bd : B3) (call : FuncId → List V → Heap → Option R) (n : Nat) (s0 : V → V → Heap → Option R) (v3 v12 : V) (H : Heap) : Option R :=
 (bd (nextA v12 false H) fun p1 =>
 (bd (extA p1.1 0) fun t14_2 =>
 (bd (asB t14_2) fun b3 =>
 if b3 = true then
 (bd (entryA v12 p1.2) fun t15_4 =>
 (bd (extA t15_4 0) fun t16_5 =>
 (bd (extA t15_4 1) fun t17_6 =>
 (bd (stA 2 (.ptr (some (p1.2.n, 0))) t17_6 (p1.2.push (.cells [(.int .i64 0), (.int .i64 0)] ty_api_Point false))) fun H7 =>
 (bd (ldN 2 (.ptr (some (p1.2.n, 0))) H7) fun t20_8 =>
 (bd (flA [(0, 1), (1, 2)] [(.int .i64 0), (.int .i64 0), (.int .i64 0)] [(0, t16_5), (1, t20_8)]) fun t21_9 =>
 (bd (bSl 3 ty_api_Place [(.int .i64 0), (.int .i64 0), (.int .i64 0)] 1 [(0, t21_9)]) fun o10 =>
 (bd (appA 3 24 ty_api_Place v3 (.slice ⟨some (H7.n, 0), 1, 3, false⟩) (H7.push o10)) fun p11 =>
 (s0 p11.1 v12 p11.2)))))))))
 else
 (pdt_Engine_Sites.r_p1 bd call n v3 p1.2))))
theorem pdt_Engine_Sites.r_l0_e (n m0 : Nat) : pdt_Engine_Sites.r_l0 @bdI (callA C n) n (pdt_Engine_Sites.l0 n m0) = pdt_Engine_Sites.l0 n (m0 + 1) := by
  funext v3 v12 H
  unfold pdt_Engine_Sites.r_l0
  rewrite [pdt_Engine_Sites.r_p1_e]
  kernel_rfl
noncomputable def pdt_Engine_Sites.r_l0_lp (bd : B3) (call : FuncId → List V → Heap → Option R) (n : Nat) (m : Nat) : V → V → Heap → Option R := Nat.rec (motive := fun _ => V → V → Heap → Option R) (fun _ _ _ => none) (fun _ self => pdt_Engine_Sites.r_l0 bd call n self) m
theorem pdt_Engine_Sites.r_l0_lp_e (n : Nat) : pdt_Engine_Sites.r_l0_lp @bdI (callA C n) n = pdt_Engine_Sites.l0 n := by
  funext m
  induction m with
  | zero => funext v3 v12 H; kernel_rfl
  | succ k ih => exact (congrArg (pdt_Engine_Sites.r_l0 @bdI (callA C n) n) ih).trans (pdt_Engine_Sites.r_l0_e n k)
noncomputable def pdt_Engine_Sites.r (bd : B3) (call : FuncId → List V → Heap → Option R) (n : Nat) (v0 : V) (H : Heap) : Option R :=
 (bd (eqlA P ty_p_pdt_Engine v0 (.ptr none)) fun t7_1 =>
 (bd (asB t7_1) fun b2 =>
 if b2 = true then
 (frzR (.slice ⟨none, 0, 0, false⟩) H)
 else
 (bd (nilC v0) fun t9_3 =>
 (bd (faA 2 t9_3) fun t10_4 =>
 (bd (ld1 t10_4 H) fun t11_5 =>
 (bd (rgMap t11_5 H) fun o6 =>
 (pdt_Engine_Sites.r_l0_lp bd call n n (.slice ⟨none, 0, 0, false⟩) (.ptr (some (H.n, 0))) (H.push o6))))))))
theorem pdt_Engine_Sites.r_e (n : Nat) (v0 : V) (H : Heap) : pdt_Engine_Sites.r @bdI (callA C n) n v0 H = E C n 21 [] (argsA 0 [v0]) H (kR C 21) := by
  unfold pdt_Engine_Sites.r
  rewrite [pdt_Engine_Sites.r_l0_lp_e]
  kernel_rfl
noncomputable def pdt_Engine_Sites.rf (bd : B3) (call : FuncId → List V → Heap → Option R) (n : Nat) (a : List V) (H : Heap) : Option R := (match a with | [v0] => pdt_Engine_Sites.r bd call n v0 H | a => E C n 21 [] (argsA 0 a) H (kR C 21))
theorem pdt_Engine_Sites.rf_b (n : Nat) (a : List V) (H : Heap) : (match a with | [v0] => pdt_Engine_Sites.r @bdI (callA C n) n v0 H | a => E C n 21 [] (argsA 0 a) H (kR C 21)) = E C n 21 [] (argsA 0 a) H (kR C 21) := by
  split
  · exact pdt_Engine_Sites.r_e n _ H
  · rfl
theorem pdt_Engine_Sites.rf_e (n : Nat) (a : List V) (H : Heap) : pdt_Engine_Sites.rf @bdI (callA C n) n a H = callA C (n + 1) 21 a H := by
  unfold pdt_Engine_Sites.rf
  refine (pdt_Engine_Sites.rf_b n a H).trans ?_
  kernel_rfl
end Go.AM.L
end
section
set_option linter.unusedVariables false
set_option linter.unusedSimpArgs false
set_option maxRecDepth 1000000
set_option linter.unusedVariables false
namespace Go.AM.L
@[irreducible] noncomputable def file_Show.l0 (n m0 : Nat) (v1 v3 v23 v24 v25 : V) (H : Heap) : Option R := Lp C n 22 [1, 1, 1, 0, 1, 0, 0] m0 [(1, v1), (3, v3), (23, v23), (24, v24), (25, v25)] H (kB 0 (kC C n 22 [1, 1, 1, 1] (kR C 22)))
@[irreducible] noncomputable def file_Show.p1 (n : Nat) (v1 v3 : V) (H : Heap) : Option R := E C n 22 [1, 1, 1, 1] [(1, v1), (3, v3)] H (kR C 22)
@[irreducible] noncomputable def file_Show.l2 (n m0 : Nat) (v3 v42 v43 v44 : V) (H : Heap) : Option R := Lp C n 22 [1, 1, 1, 1, 0, 1, 0, 0] m0 [(3, v3), (42, v42), (43, v43), (44, v44)] H (kB 2 (kC C n 22 [1, 1, 1, 1, 1] (kR C 22)))
@[irreducible] noncomputable def file_Show.l3 (n m0 m1 : Nat) (v3 v8 v42 v43 v44 v48 v49 : V) (H : Heap) : Option R := Lp C n 22 [1, 1, 1, 1, 0, 1, 0, 0, 1, 1, 0, 0, 1, 1, 0, 1, 0, 0] m1 [(3, v3), (8, v8), (42, v42), (43, v43), (44, v44), (48, v48), (49, v49)] H (kB 4 (kC C n 22 [1, 1, 1, 1, 0, 1, 0, 0, 1, 1, 0, 0, 1, 1, 1] (kB 3 (kC C n 22 [1, 1, 1, 1, 0, 1, 0, 0, 1, 1, 1] (kL C n 22 [1, 1, 1, 1, 0, 1, 0, 0] m0 (kB 2 (kC C n 22 [1, 1, 1, 1, 1] (kR C 22))))))))
@[irreducible] noncomputable def file_Show.p4 (n : Nat) (v3 : V) (H : Heap) : Option R := E C n 22 [1, 1, 1, 1, 1] [(3, v3)] H (kR C 22)
noncomputable def file_Show.r_l3 (bd : B3) (call : FuncId → List V → Heap → Option R) (n : Nat) (s0 : V → V → V → V → Heap → Option R) (s1 : V → V → V → V → V → V → V → Heap → Option R) (v3 v8 v42 v43 v44 v48 v49 : V) (H : Heap) : Option R :=
 (bd (arA .lss v49 (.int .i64 3)) fun t50_1 =>
 (bd (asB t50_1) fun b2 =>
 if b2 = true then
 (bd (ixN 3 3 v48 v49) fun t51_3 =>
 (bd (stA 3 (.ptr (some (H.n, 0))) t51_3 (H.push (.cells [(.int .i64 0), (.int .i64 0), (.int .i64 0)] ty_api_Ghost false))) fun H4 =>
 (bd (faA 0 (.ptr (some (H.n, 0)))) fun t53_5 =>
 (bd (ld1 t53_5 (H4.more 1)) fun t54_6 =>
 (bd (call 35 [t54_6] (H4.more 1)) fun r7 =>
 (bd (faA 1 (.ptr (some (H.n, 0)))) fun t56_8 =>
 (bd (ld1 t56_8 r7.2) fun t57_9 =>
 (bd (chk (ld1 t56_8 (H4.more 1)) t57_9) fun _ =>
 (bd (call 36 [t57_9] r7.2) fun r10 =>
 (bd (faA 2 (.ptr (some (H.n, 0)))) fun t59_11 =>
 (bd (ld1 t59_11 r10.2) fun t60_12 =>
 (bd (chk (ld1 t59_11 r7.2) t60_12) fun _ =>
 (bd (chk (ld1 t59_11 (H4.more 1)) t60_12) fun _ =>
 (bd (call 36 [t60_12] r10.2) fun r13 =>
 (bd (bSl 1 ty_string [(.str [])] 3 [(0, r7.1), (1, r10.1), (2, r13.1)]) fun o14 =>
 (bd (appA 1 16 ty_string v8 (.slice ⟨some ((H4.n + 0), 0), 3, 1, false⟩) (r13.2.set (H4.n + 0) o14)) fun p15 =>
 (bd (arA .add v49 (.int .i64 1)) fun t64_16 =>
 (s1 v3 p15.1 v42 v43 v44 v48 t64_16 p15.2))))))))))))))))))
 else
 (bd (call 34 [v3, (.str [102, 97, 99, 101, 32]), v8] H) fun r17 =>
 (bd (arA .add v44 (.int .i64 1)) fun t67_18 =>
 (s0 v3 v42 v43 t67_18 r17.2)))))
theorem file_Show.r_l3_e (n m0 m1 : Nat) : file_Show.r_l3 @bdI (callA C n) n (file_Show.l2 n m0) (file_Show.l3 n m0 m1) = file_Show.l3 n m0 (m1 + 1) := by
  funext v3 v8 v42 v43 v44 v48 v49 H
  unfold file_Show.r_l3
  kernel_rfl
noncomputable def file_Show.r_l3_lp (bd : B3) (call : FuncId → List V → Heap → Option R) (n : Nat) (s0 : V → V → V → V → Heap → Option R) (m : Nat) : V → V → V → V → V → V → V → Heap → Option R := Nat.rec (motive := fun _ => V → V → V → V → V → V → V → Heap → Option R) (fun _ _ _ _ _ _ _ _ => none) (fun _ self => file_Show.r_l3 bd call n s0 self) m
theorem file_Show.r_l3_lp_e (n m0 : Nat) : file_Show.r_l3_lp @bdI (callA C n) n (file_Show.l2 n m0) = file_Show.l3 n m0 := by
  funext m
  induction m with
  | zero => funext v3 v8 v42 v43 v44 v48 v49 H; kernel_rfl
  | succ k ih => exact (congrArg (file_Show.r_l3 @bdI (callA C n) n (file_Show.l2 n m0)) ih).trans (file_Show.r_l3_e n m0 k)
noncomputable def file_Show.r_p4 (bd : B3) (call : FuncId → List V → Heap → Option R) (n : Nat) (v3 : V) (H : Heap) : Option R :=
 (bd (faA 0 v3) fun t68_1 =>
 (bd (call 37 [t68_1, (.str [101, 110, 100, 10])] H) fun r2 =>
 (bd (faA 0 v3) fun t70_3 =>
 (bd (call 38 [t70_3] r2.2) fun r4 =>
 (some (r4.1, r4.2))))))
theorem file_Show.r_p4_e (n : Nat) : file_Show.r_p4 @bdI (callA C n) n = file_Show.p4 n := by
  funext v3 H
  unfold file_Show.r_p4
  kernel_rfl
noncomputable def file_Show.r_l2 (bd : B3) (call : FuncId → List V → Heap → Option R) (n : Nat) (s0 : V → V → V → V → Heap → Option R) (v3 v42 v43 v44 : V) (H : Heap) : Option R :=
 (bd (arA .lss v44 v43) fun t45_1 =>
 (bd (asB t45_1) fun b2 =>
 if b2 = true then
 (bd (idxS 9 v42 v44) fun t46_3 =>
 (bd (ldN 9 t46_3 H) fun t47_4 =>
 (bd (stA 9 (.ptr (some (H.n, 0))) t47_4 (H.push (.cells [(.int .i64 0), (.int .i64 0), (.int .i64 0), (.int .i64 0), (.int .i64 0), (.int .i64 0), (.int .i64 0), (.int .i64 0), (.int .i64 0)] ty_3_api_Ghost false))) fun H5 =>
 (bd (ldN 9 (.ptr (some (H.n, 0))) H5) fun t48_6 =>
 (file_Show.r_l3_lp bd call n s0 n v3 (.slice ⟨none, 0, 0, false⟩) v42 v43 v44 t48_6 (.int .i64 0) H5)))))
 else
 (file_Show.r_p4 bd call n v3 H)))
theorem file_Show.r_l2_e (n m0 : Nat) : file_Show.r_l2 @bdI (callA C n) n (file_Show.l2 n m0) = file_Show.l2 n (m0 + 1) := by
  funext v3 v42 v43 v44 H
  unfold file_Show.r_l2
  rewrite [file_Show.r_l3_lp_e]
  rewrite [file_Show.r_p4_e]
  kernel_rfl
noncomputable def file_Show.r_l2_lp (bd : B3) (call : FuncId → List V → Heap → Option R) (n : Nat) (m : Nat) : V → V → V → V → Heap → Option R := Nat.rec (motive := fun _ => V → V → V → V → Heap → Option R) (fun _ _ _ _ _ => none) (fun _ self => file_Show.r_l2 bd call n self) m
theorem file_Show.r_l2_lp_e (n : Nat) : file_Show.r_l2_lp @bdI (callA C n) n = file_Show.l2 n := by
  funext m
  induction m with
  | zero => funext v3 v42 v43 v44 H; kernel_rfl
  | succ k ih => exact (congrArg (file_Show.r_l2 @bdI (callA C n) n) ih).trans (file_Show.r_l2_e n k)
noncomputable def file_Show.r_p1 (bd : B3) (call : FuncId → List V → Heap → Option R) (n : Nat) (v1 v3 : V) (H : Heap) : Option R :=
 (bd (faA 4 v1) fun t41_1 =>
 (bd (ld1 t41_1 H) fun t42_2 =>
 (bd (lenSl t42_2) fun t43_3 =>
 (file_Show.r_l2_lp bd call n n v3 t42_2 t43_3 (.int .i64 0) H))))
theorem file_Show.r_p1_e (n : Nat) : file_Show.r_p1 @bdI (callA C n) n = file_Show.p1 n := by
  funext v1 v3 H
  unfold file_Show.r_p1
  rewrite [file_Show.r_l2_lp_e]
  kernel_rfl
noncomputable def file_Show.r_l0 (bd : B3) (call : FuncId → List V → Heap → Option R) (n : Nat) (s0 : V → V → V → V → V → Heap → Option R) (v1 v3 v23 v24 v25 : V) (H : Heap) : Option R :=
 (bd (arA .lss v25 v24) fun t26_1 =>
 (bd (asB t26_1) fun b2 =>
 if b2 = true then
 (bd (idxS 3 v23 v25) fun t27_3 =>
 (bd (ldN 3 t27_3 H) fun t28_4 =>
 (bd (stA 3 (.ptr (some (H.n, 0))) t28_4 (H.push (.cells [(.int .i64 0), (.int .i64 0), (.int .i64 0)] ty_api_Ghost false))) fun H5 =>
 (bd (faA 0 (.ptr (some (H.n, 0)))) fun t29_6 =>
 (bd (ld1 t29_6 (H5.more 1)) fun t30_7 =>
 (bd (call 35 [t30_7] (H5.more 1)) fun r8 =>
 (bd (faA 1 (.ptr (some (H.n, 0)))) fun t32_9 =>
 (bd (ld1 t32_9 r8.2) fun t33_10 =>
 (bd (chk (ld1 t32_9 (H5.more 1)) t33_10) fun _ =>
 (bd (call 35 [t33_10] r8.2) fun r11 =>
 (bd (faA 2 (.ptr (some (H.n, 0)))) fun t35_12 =>
 (bd (ld1 t35_12 r11.2) fun t36_13 =>
 (bd (chk (ld1 t35_12 r8.2) t36_13) fun _ =>
 (bd (chk (ld1 t35_12 (H5.more 1)) t36_13) fun _ =>
 (bd (call 35 [t36_13] r11.2) fun r14 =>
 (bd (bSl 1 ty_string [(.str [])] 3 [(0, r8.1), (1, r11.1), (2, r14.1)]) fun o15 =>
 (bd (call 34 [v3, (.str [115, 105, 116, 101, 32]), (.slice ⟨some ((H5.n + 0), 0), 3, 1, false⟩)] (r14.2.set (H5.n + 0) o15)) fun r16 =>
 (bd (arA .add v25 (.int .i64 1)) fun t40_17 =>
 (s0 v1 v3 v23 v24 t40_17 r16.2)))))))))))))))))))
 else
 (file_Show.r_p1 bd call n v1 v3 H)))
theorem file_Show.r_l0_e (n m0 : Nat) : file_Show.r_l0 @bdI (callA C n) n (file_Show.l0 n m0) = file_Show.l0 n (m0 + 1) := by
  funext v1 v3 v23 v24 v25 H
  unfold file_Show.r_l0
  rewrite [file_Show.r_p1_e]
  kernel_rfl
noncomputable def file_Show.r_l0_lp (bd : B3) (call : FuncId → List V → Heap → Option R) (n : Nat) (m : Nat) : V → V → V → V → V → Heap → Option R := Nat.rec (motive := fun _ => V → V → V → V → V → Heap → Option R) (fun _ _ _ _ _ _ => none) (fun _ self => file_Show.r_l0 bd call n self) m
theorem file_Show.r_l0_lp_e (n : Nat) : file_Show.r_l0_lp @bdI (callA C n) n = file_Show.l0 n := by
  funext m
  induction m with
  | zero => funext v1 v3 v23 v24 v25 H; kernel_rfl
  | succ k ih => exact (congrArg (file_Show.r_l0 @bdI (callA C n) n) ih).trans (file_Show.r_l0_e n k)
noncomputable def file_Show.r (bd : B3) (call : FuncId → List V → Heap → Option R) (n : Nat) (v0 : V) (H : Heap) : Option R :=
 (bd (boxA ty_api_Spec v0) fun o1 =>
 (bd (faA 0 (.ptr (some (H.n, 0)))) fun t11_2 =>
 (bd (ld1 t11_2 (((H.push o1).push (.cells [(.ptr none), (.slice ⟨none, 0, 0, false⟩)] ty_file_writer false)).more 1)) fun t12_3 =>
 (bd (call 35 [t12_3] (((H.push o1).push (.cells [(.ptr none), (.slice ⟨none, 0, 0, false⟩)] ty_file_writer false)).more 1)) fun r4 =>
 (bd (faA 1 (.ptr (some (H.n, 0)))) fun t14_5 =>
 (bd (ld1 t14_5 r4.2) fun t15_6 =>
 (bd (chk (ld1 t14_5 (((H.push o1).push (.cells [(.ptr none), (.slice ⟨none, 0, 0, false⟩)] ty_file_writer false)).more 1)) t15_6) fun _ =>
 (bd (call 35 [t15_6] r4.2) fun r7 =>
 (bd (faA 2 (.ptr (some (H.n, 0)))) fun t17_8 =>
 (bd (ld1 t17_8 r7.2) fun t18_9 =>
 (bd (chk (ld1 t17_8 r4.2) t18_9) fun _ =>
 (bd (chk (ld1 t17_8 (((H.push o1).push (.cells [(.ptr none), (.slice ⟨none, 0, 0, false⟩)] ty_file_writer false)).more 1)) t18_9) fun _ =>
 (bd (call 35 [t18_9] r7.2) fun r10 =>
 (bd (bSl 1 ty_string [(.str [])] 3 [(0, r4.1), (1, r7.1), (2, r10.1)]) fun o11 =>
 (bd (call 34 [(.ptr (some ((H.push o1).n, 0))), (.str [109, 101, 115, 104, 32]), (.slice ⟨some ((((H.push o1).push (.cells [(.ptr none), (.slice ⟨none, 0, 0, false⟩)] ty_file_writer false)).n + 0), 0), 3, 1, false⟩)] (r10.2.set (((H.push o1).push (.cells [(.ptr none), (.slice ⟨none, 0, 0, false⟩)] ty_file_writer false)).n + 0) o11)) fun r12 =>
 (bd (faA 3 (.ptr (some (H.n, 0)))) fun t22_13 =>
 (bd (ld1 t22_13 r12.2) fun t23_14 =>
 (bd (lenSl t23_14) fun t24_15 =>
 (file_Show.r_l0_lp bd call n n (.ptr (some (H.n, 0))) (.ptr (some ((H.push o1).n, 0))) t23_14 t24_15 (.int .i64 0) r12.2)))))))))))))))))))
theorem file_Show.r_e (n : Nat) (v0 : V) (H : Heap) : file_Show.r @bdI (callA C n) n v0 H = E C n 22 [] (argsA 0 [v0]) H (kR C 22) := by
  unfold file_Show.r
  rewrite [file_Show.r_l0_lp_e]
  kernel_rfl
noncomputable def file_Show.rf (bd : B3) (call : FuncId → List V → Heap → Option R) (n : Nat) (a : List V) (H : Heap) : Option R := pureA a H fun a => (match a with | [v0] => file_Show.r bd call n v0 ⟨0, .nil⟩ | a => E C n 22 [] (argsA 0 a) ⟨0, .nil⟩ (kR C 22))
theorem file_Show.rf_b (n : Nat) (a : List V) (H : Heap) : (match a with | [v0] => file_Show.r @bdI (callA C n) n v0 H | a => E C n 22 [] (argsA 0 a) H (kR C 22)) = E C n 22 [] (argsA 0 a) H (kR C 22) := by
  split
  · exact file_Show.r_e n _ H
  · rfl
theorem file_Show.rf_e (n : Nat) (a : List V) (H : Heap) : file_Show.rf @bdI (callA C n) n a H = callA C (n + 1) 22 a H := by
  unfold file_Show.rf
  refine (congrArg (pureA a H) (funext fun a => file_Show.rf_b n a ⟨0, .nil⟩)).trans ?_
  kernel_rfl
@[irreducible] noncomputable def sheet_tiles_1.l0 (n m0 : Nat) (v0 v2 v6 v7 : V) (H : Heap) : Option R := Lp C n 23 [1, 0, 0] m0 [(0, v0), (2, v2), (6, v6), (7, v7)] H (kB 0 (kR C 23))
@[irreducible] noncomputable def sheet_tiles_1.l1 (n m0 m1 : Nat) (v0 v2 v4 v6 v7 v10 v11 : V) (H : Heap) : Option R := Lp C n 23 [1, 0, 0, 1, 1, 0, 0, 1, 1, 0, 0] m1 [(0, v0), (2, v2), (4, v4), (6, v6), (7, v7), (10, v10), (11, v11)] H (kB 2 (kB 1 (kC C n 23 [1, 0, 0, 1, 1, 1] (kL C n 23 [1, 0, 0] m0 (kB 0 (kR C 23))))))
noncomputable def sheet_tiles_1.r_l1 (bd : B3) (call : FuncId → List V → Heap → Option R) (n : Nat) (s0 : V → V → V → V → Heap → Option R) (s1 : V → V → V → V → V → V → V → Heap → Option R) (v0 v2 v4 v6 v7 v10 v11 : V) (H : Heap) : Option R :=
 (bd (arA .lss v11 v10) fun t12_1 =>
 (bd (asB t12_1) fun b2 =>
 if b2 = true then
 (bd (callV call v0 [v4, v11] H) fun r3 =>
 (bd (unA .not r3.1) fun t18_4 =>
 (bd (asB t18_4) fun b5 =>
 if b5 = true then
 (some (.tuple [], r3.2))
 else
 (bd (arA .add v11 (.int .i64 1)) fun t19_6 =>
 (s1 v0 v2 v4 v6 v7 v10 t19_6 r3.2)))))
 else
 (bd (arA .add v7 (.int .i64 1)) fun t20_7 =>
 (s0 v0 v2 v6 t20_7 H))))
theorem sheet_tiles_1.r_l1_e (n m0 m1 : Nat) : sheet_tiles_1.r_l1 @bdI (callA C n) n (sheet_tiles_1.l0 n m0) (sheet_tiles_1.l1 n m0 m1) = sheet_tiles_1.l1 n m0 (m1 + 1) := by
  funext v0 v2 v4 v6 v7 v10 v11 H
  unfold sheet_tiles_1.r_l1
  kernel_rfl
noncomputable def sheet_tiles_1.r_l1_lp (bd : B3) (call : FuncId → List V → Heap → Option R) (n : Nat) (s0 : V → V → V → V → Heap → Option R) (m : Nat) : V → V → V → V → V → V → V → Heap → Option R := Nat.rec (motive := fun _ => V → V → V → V → V → V → V → Heap → Option R) (fun _ _ _ _ _ _ _ _ => none) (fun _ self => sheet_tiles_1.r_l1 bd call n s0 self) m
theorem sheet_tiles_1.r_l1_lp_e (n m0 : Nat) : sheet_tiles_1.r_l1_lp @bdI (callA C n) n (sheet_tiles_1.l0 n m0) = sheet_tiles_1.l1 n m0 := by
  funext m
  induction m with
  | zero => funext v0 v2 v4 v6 v7 v10 v11 H; kernel_rfl
  | succ k ih => exact (congrArg (sheet_tiles_1.r_l1 @bdI (callA C n) n (sheet_tiles_1.l0 n m0)) ih).trans (sheet_tiles_1.r_l1_e n m0 k)
noncomputable def sheet_tiles_1.r_l0 (bd : B3) (call : FuncId → List V → Heap → Option R) (n : Nat) (s0 : V → V → V → V → Heap → Option R) (v0 v2 v6 v7 : V) (H : Heap) : Option R :=
 (bd (arA .lss v7 v6) fun t8_1 =>
 (bd (asB t8_1) fun b2 =>
 if b2 = true then
 (bd (ld1 v2 H) fun t10_3 =>
 (sheet_tiles_1.r_l1_lp bd call n s0 n v0 v2 v7 v6 v7 t10_3 (.int .i64 0) H))
 else
 (some (.tuple [], H))))
theorem sheet_tiles_1.r_l0_e (n m0 : Nat) : sheet_tiles_1.r_l0 @bdI (callA C n) n (sheet_tiles_1.l0 n m0) = sheet_tiles_1.l0 n (m0 + 1) := by
  funext v0 v2 v6 v7 H
  unfold sheet_tiles_1.r_l0
  rewrite [sheet_tiles_1.r_l1_lp_e]
  kernel_rfl
noncomputable def sheet_tiles_1.r_l0_lp (bd : B3) (call : FuncId → List V → Heap → Option R) (n : Nat) (m : Nat) : V → V → V → V → Heap → Option R := Nat.rec (motive := fun _ => V → V → V → V → Heap → Option R) (fun _ _ _ _ _ => none) (fun _ self => sheet_tiles_1.r_l0 bd call n self) m
theorem sheet_tiles_1.r_l0_lp_e (n : Nat) : sheet_tiles_1.r_l0_lp @bdI (callA C n) n = sheet_tiles_1.l0 n := by
  funext m
  induction m with
  | zero => funext v0 v2 v6 v7 H; kernel_rfl
  | succ k ih => exact (congrArg (sheet_tiles_1.r_l0 @bdI (callA C n) n) ih).trans (sheet_tiles_1.r_l0_e n k)
noncomputable def sheet_tiles_1.r (bd : B3) (call : FuncId → List V → Heap → Option R) (n : Nat) (v0 v1 v2 : V) (H : Heap) : Option R :=
 (bd (ld1 v1 H) fun t6_1 =>
 (sheet_tiles_1.r_l0_lp bd call n n v0 v2 t6_1 (.int .i64 0) H))
theorem sheet_tiles_1.r_e (n : Nat) (v0 v1 v2 : V) (H : Heap) : sheet_tiles_1.r @bdI (callA C n) n v0 v1 v2 H = E C n 23 [] (argsA 0 [v0, v1, v2]) H (kR C 23) := by
  unfold sheet_tiles_1.r
  rewrite [sheet_tiles_1.r_l0_lp_e]
  kernel_rfl
noncomputable def sheet_tiles_1.rf (bd : B3) (call : FuncId → List V → Heap → Option R) (n : Nat) (a : List V) (H : Heap) : Option R := (match a with | [v0, v1, v2] => sheet_tiles_1.r bd call n v0 v1 v2 H | a => E C n 23 [] (argsA 0 a) H (kR C 23))
theorem sheet_tiles_1.rf_b (n : Nat) (a : List V) (H : Heap) : (match a with | [v0, v1, v2] => sheet_tiles_1.r @bdI (callA C n) n v0 v1 v2 H | a => E C n 23 [] (argsA 0 a) H (kR C 23)) = E C n 23 [] (argsA 0 a) H (kR C 23) := by
  split
  · exact sheet_tiles_1.r_e n _ _ _ H
  · rfl
theorem sheet_tiles_1.rf_e (n : Nat) (a : List V) (H : Heap) : sheet_tiles_1.rf @bdI (callA C n) n a H = callA C (n + 1) 23 a H := by
  unfold sheet_tiles_1.rf
  refine (sheet_tiles_1.rf_b n a H).trans ?_
  kernel_rfl
@[irreducible] noncomputable def pdt_lay.l0 (n m0 : Nat) (v5 v6 v23 v24 v25 : V) (H : Heap) : Option R := Lp C n 24 [1, 1, 1, 0, 1, 0, 0] m0 [(5, v5), (6, v6), (23, v23), (24, v24), (25, v25)] H (kB 0 (kC C n 24 [1, 1, 1, 1] (kR C 24)))
@[irreducible] noncomputable def pdt_lay.p1 (n : Nat) (v5 v6 : V) (H : Heap) : Option R := E C n 24 [1, 1, 1, 1] [(5, v5), (6, v6)] H (kR C 24)
@[irreducible] noncomputable def pdt_lay.l2 (n m0 : Nat) (v5 v57 v58 v59 : V) (H : Heap) : Option R := Lp C n 24 [1, 1, 1, 1, 0, 1, 0, 0] m0 [(5, v5), (57, v57), (58, v58), (59, v59)] H (kB 2 (kC C n 24 [1, 1, 1, 1, 1] (kR C 24)))
noncomputable def pdt_lay.r_l2 (bd : B3) (call : FuncId → List V → Heap → Option R) (n : Nat) (s0 : V → V → V → V → Heap → Option R) (v5 v57 v58 v59 : V) (H : Heap) : Option R :=
 (bd (arA .lss v59 v58) fun t60_1 =>
 (bd (asB t60_1) fun b2 =>
 if b2 = true then
 (bd (idxS 10 v57 v59) fun t61_3 =>
 (bd (ldN 10 t61_3 H) fun t62_4 =>
 (bd (stA 10 (.ptr (some (H.n, 0))) t62_4 (H.push (.cells [(.int .i64 0), (.int .i64 0), (.int .i64 0), (.int .i64 0), (.int .i64 0), (.int .i64 0), (.int .i64 0), (.int .i64 0), (.int .i64 0), (.int .i64 0)] ty_api_Cell false))) fun H5 =>
 (bd (faA 0 (.ptr (some (H.n, 0)))) fun t64_6 =>
 (bd (ld1 t64_6 H5) fun t65_7 =>
 (bd (bSl 1 ty_int [(.int .i64 0)] 1 [(0, t65_7)]) fun o8 =>
 (bd (call 42 [v5, (.slice ⟨some (H5.n, 0), 1, 1, false⟩)] (H5.push o8)) fun r9 =>
 (bd (arA .add v59 (.int .i64 1)) fun t68_10 =>
 (s0 v5 v57 v58 t68_10 r9.2)))))))))
 else
 (some (v5, H))))
theorem pdt_lay.r_l2_e (n m0 : Nat) : pdt_lay.r_l2 @bdI (callA C n) n (pdt_lay.l2 n m0) = pdt_lay.l2 n (m0 + 1) := by
  funext v5 v57 v58 v59 H
  unfold pdt_lay.r_l2
  kernel_rfl
noncomputable def pdt_lay.r_l2_lp (bd : B3) (call : FuncId → List V → Heap → Option R) (n : Nat) (m : Nat) : V → V → V → V → Heap → Option R := Nat.rec (motive := fun _ => V → V → V → V → Heap → Option R) (fun _ _ _ _ _ => none) (fun _ self => pdt_lay.r_l2 bd call n self) m
theorem pdt_lay.r_l2_lp_e (n : Nat) : pdt_lay.r_l2_lp @bdI (callA C n) n = pdt_lay.l2 n := by
  funext m
  induction m with
  | zero => funext v5 v57 v58 v59 H; kernel_rfl
  | succ k ih => exact (congrArg (pdt_lay.r_l2 @bdI (callA C n) n) ih).trans (pdt_lay.r_l2_e n k)
noncomputable def pdt_lay.r_p1 (bd : B3) (call : FuncId → List V → Heap → Option R) (n : Nat) (v5 v6 : V) (H : Heap) : Option R :=
 (bd (faA 2 v6) fun t56_1 =>
 (bd (ld1 t56_1 H) fun t57_2 =>
 (bd (lenSl t57_2) fun t58_3 =>
 (pdt_lay.r_l2_lp bd call n n v5 t57_2 t58_3 (.int .i64 0) H))))
theorem pdt_lay.r_p1_e (n : Nat) : pdt_lay.r_p1 @bdI (callA C n) n = pdt_lay.p1 n := by
  funext v5 v6 H
  unfold pdt_lay.r_p1
  rewrite [pdt_lay.r_l2_lp_e]
  kernel_rfl
noncomputable def pdt_lay.r_l0 (bd : B3) (call : FuncId → List V → Heap → Option R) (n : Nat) (s0 : V → V → V → V → V → Heap → Option R) (v5 v6 v23 v24 v25 : V) (H : Heap) : Option R :=
 (bd (arA .lss v25 v24) fun t26_1 =>
 (bd (asB t26_1) fun b2 =>
 if b2 = true then
 (bd (idxS 4 v23 v25) fun t27_3 =>
 (bd (ldN 4 t27_3 H) fun t28_4 =>
 (bd (stA 4 (.ptr (some (H.n, 0))) t28_4 (H.push (.cells [(.int .i64 0), (.int .i64 0), (.int .i64 0), (.int .i64 0)] ty_api_Vert false))) fun H5 =>
 (bd (nilC v5) fun t30_6 =>
 (bd (faA 1 t30_6) fun t31_7 =>
 (bd (ld1 t31_7 (H5.more 0)) fun t32_8 =>
 (bd (faA 0 (.ptr (some (H.n, 0)))) fun t33_9 =>
 (bd (ld1 t33_9 (H5.more 0)) fun t34_10 =>
 (bd (faA 1 (.ptr (some (H.n, 0)))) fun t35_11 =>
 (bd (ldN 2 t35_11 (H5.more 0)) fun t36_12 =>
 (bd (call 41 [t32_8, t34_10, t36_12] (H5.more 0)) fun r13 =>
 (bd (nilC v5) fun t45_14 =>
 (bd (faA 4 t45_14) fun t46_15 =>
 (bd (ld1 t46_15 (r13.2.more 1)) fun t47_16 =>
 (bd (faA 3 (.ptr (some (H.n, 0)))) fun t48_17 =>
 (bd (ld1 t48_17 (r13.2.more 1)) fun t49_18 =>
 (bd (lookM P ty_int (.slice ⟨none, 0, 0, false⟩) t47_16 t49_18 false (r13.2.more 1)) fun t50_19 =>
 (bd (faA 0 (.ptr (some (H.n, 0)))) fun t51_20 =>
 (bd (ld1 t51_20 (r13.2.more 1)) fun t52_21 =>
 (bd (bSl 1 ty_int [(.int .i64 0)] 1 [(0, t52_21)]) fun o22 =>
 (bd (appA 1 8 ty_int t50_19 (.slice ⟨some ((r13.2.n + 0), 0), 1, 1, false⟩) ((r13.2.more 1).set (r13.2.n + 0) o22)) fun p23 =>
 (bd (nilC v5) fun t39_24 =>
 (bd (faA 4 t39_24) fun t40_25 =>
 (bd (ld1 t40_25 p23.2) fun t41_26 =>
 (bd (chk (ld1 t40_25 (r13.2.more 1)) t41_26) fun _ =>
 (bd (faA 3 (.ptr (some (H.n, 0)))) fun t42_27 =>
 (bd (ld1 t42_27 p23.2) fun t43_28 =>
 (bd (chk (ld1 t42_27 (r13.2.more 1)) t43_28) fun _ =>
 (bd (updM P ty_int t41_26 t43_28 p23.1 p23.2) fun H29 =>
 (bd (arA .add v25 (.int .i64 1)) fun t55_30 =>
 (s0 v5 v6 v23 v24 t55_30 H29)))))))))))))))))))))))))))))))
 else
 (pdt_lay.r_p1 bd call n v5 v6 H)))
theorem pdt_lay.r_l0_e (n m0 : Nat) : pdt_lay.r_l0 @bdI (callA C n) n (pdt_lay.l0 n m0) = pdt_lay.l0 n (m0 + 1) := by
  funext v5 v6 v23 v24 v25 H
  unfold pdt_lay.r_l0
  rewrite [pdt_lay.r_p1_e]
  kernel_rfl
noncomputable def pdt_lay.r_l0_lp (bd : B3) (call : FuncId → List V → Heap → Option R) (n : Nat) (m : Nat) : V → V → V → V → V → Heap → Option R := Nat.rec (motive := fun _ => V → V → V → V → V → Heap → Option R) (fun _ _ _ _ _ _ => none) (fun _ self => pdt_lay.r_l0 bd call n self) m
theorem pdt_lay.r_l0_lp_e (n : Nat) : pdt_lay.r_l0_lp @bdI (callA C n) n = pdt_lay.l0 n := by
  funext m
  induction m with
  | zero => funext v5 v6 v23 v24 v25 H; kernel_rfl
  | succ k ih => exact (congrArg (pdt_lay.r_l0 @bdI (callA C n) n) ih).trans (pdt_lay.r_l0_e n k)
noncomputable def pdt_lay.r (bd : B3) (call : FuncId → List V → Heap → Option R) (n : Nat) (v0 v1 : V) (H : Heap) : Option R :=
 (bd (call 40 [v0] H) fun r1 =>
 (bd (call 39 [r1.1, (.int .i64 16)] r1.2) fun r2 =>
 (bd (flA [(0, 1), (1, 1), (2, 1), (3, 1), (4, 1)] [(.ptr none), (.ptr none), (.int .i64 0), (.map none), (.map none)] [(0, v0), (1, r2.1), (2, v1), (3, (.map (some r2.2.n))), (4, (.map (some (r2.2.push (.map [] 0)).n)))]) fun t18_3 =>
 (bd (boxA ty_pdt_sheet t18_3) fun o4 =>
 (bd (call 31 [v0] (((r2.2.push (.map [] 0)).push (.map [] 0)).push o4)) fun r5 =>
 (bd (stA 3 (.ptr (some (r5.2.n, 0))) r5.1 (r5.2.push (.cells [(.int .i64 0), (.slice ⟨none, 0, 0, false⟩), (.slice ⟨none, 0, 0, false⟩)] ty_api_Dump false))) fun H6 =>
 (bd (faA 1 (.ptr (some (r5.2.n, 0)))) fun t22_7 =>
 (bd (ld1 t22_7 H6) fun t23_8 =>
 (bd (lenSl t23_8) fun t24_9 =>
 (pdt_lay.r_l0_lp bd call n n (.ptr (some (((r2.2.push (.map [] 0)).push (.map [] 0)).n, 0))) (.ptr (some (r5.2.n, 0))) t23_8 t24_9 (.int .i64 0) H6))))))))))
theorem pdt_lay.r_e (n : Nat) (v0 v1 : V) (H : Heap) : pdt_lay.r @bdI (callA C n) n v0 v1 H = E C n 24 [] (argsA 0 [v0, v1]) H (kR C 24) := by
  unfold pdt_lay.r
  rewrite [pdt_lay.r_l0_lp_e]
  kernel_rfl
noncomputable def pdt_lay.rf (bd : B3) (call : FuncId → List V → Heap → Option R) (n : Nat) (a : List V) (H : Heap) : Option R := (match a with | [v0, v1] => pdt_lay.r bd call n v0 v1 H | a => E C n 24 [] (argsA 0 a) H (kR C 24))
theorem pdt_lay.rf_b (n : Nat) (a : List V) (H : Heap) : (match a with | [v0, v1] => pdt_lay.r @bdI (callA C n) n v0 v1 H | a => E C n 24 [] (argsA 0 a) H (kR C 24)) = E C n 24 [] (argsA 0 a) H (kR C 24) := by
  split
  · exact pdt_lay.r_e n _ _ H
  · rfl
theorem pdt_lay.rf_e (n : Nat) (a : List V) (H : Heap) : pdt_lay.rf @bdI (callA C n) n a H = callA C (n + 1) 24 a H := by
  unfold pdt_lay.rf
  refine (pdt_lay.rf_b n a H).trans ?_
  kernel_rfl
noncomputable def mesh_New.r (bd : B3) (call : FuncId → List V → Heap → Option R) (n : Nat) (v0 : V) (H : Heap) : Option R :=
 (bd (arA .lss v0 (.int .i64 1)) fun t4_1 =>
 (bd (asB t4_1) fun b2 =>
 if b2 = true then
 (some ((.ptr none), H))
 else
 (bd (arA .gtr v0 (.int .i64 17179869184)) fun t7_3 =>
 (bd (asB t7_3) fun b4 =>
 if b4 = true then
 (some ((.ptr none), H))
 else
 (bd (call 43 [] H) fun r5 =>
 (bd (call 43 [] r5.2) fun r6 =>
 (bd (flA [(0, 1), (1, 1), (2, 1), (3, 1), (4, 1), (5, 1), (6, 1)] [(.int .i64 0), (.ptr none), (.ptr none), (.slice ⟨none, 0, 0, false⟩), (.slice ⟨none, 0, 0, false⟩), (.map none), (.map none)] [(0, v0), (1, r5.1), (2, r6.1), (5, (.map (some r6.2.n))), (6, (.map (some (r6.2.push (.map [] 0)).n)))]) fun t14_7 =>
 (bd (boxA ty_mesh_Mesh t14_7) fun o8 =>
 (some ((.ptr (some (((r6.2.push (.map [] 0)).push (.map [] 0)).n, 0))), (((r6.2.push (.map [] 0)).push (.map [] 0)).push o8)))))))))))
theorem mesh_New.r_e (n : Nat) (v0 : V) (H : Heap) : mesh_New.r @bdI (callA C n) n v0 H = E C n 25 [] (argsA 0 [v0]) H (kR C 25) := by
  unfold mesh_New.r
  kernel_rfl
noncomputable def mesh_New.rf (bd : B3) (call : FuncId → List V → Heap → Option R) (n : Nat) (a : List V) (H : Heap) : Option R := (match a with | [v0] => mesh_New.r bd call n v0 H | a => E C n 25 [] (argsA 0 a) H (kR C 25))
theorem mesh_New.rf_b (n : Nat) (a : List V) (H : Heap) : (match a with | [v0] => mesh_New.r @bdI (callA C n) n v0 H | a => E C n 25 [] (argsA 0 a) H (kR C 25)) = E C n 25 [] (argsA 0 a) H (kR C 25) := by
  split
  · exact mesh_New.r_e n _ H
  · rfl
theorem mesh_New.rf_e (n : Nat) (a : List V) (H : Heap) : mesh_New.rf @bdI (callA C n) n a H = callA C (n + 1) 25 a H := by
  unfold mesh_New.rf
  refine (mesh_New.rf_b n a H).trans ?_
  kernel_rfl
noncomputable def slices_SortFunc_api_Tri_api_Tri.r (bd : B3) (call : FuncId → List V → Heap → Option R) (n : Nat) (v0 v1 : V) (H : Heap) : Option R :=
 (bd (lenSl v0) fun t6_1 =>
 (bd (cvInt .u64 t6_1) fun t10_2 =>
 (bd (call 46 [t10_2] H) fun r3 =>
 (bd (call 45 [v0, (.int .i64 0), t6_1, r3.1, v1] r3.2) fun r4 =>
 (some (.tuple [], r4.2))))))
theorem slices_SortFunc_api_Tri_api_Tri.r_e (n : Nat) (v0 v1 : V) (H : Heap) : slices_SortFunc_api_Tri_api_Tri.r @bdI (callA C n) n v0 v1 H = E C n 28 [] (argsA 0 [v0, v1]) H (kR C 28) := by
  unfold slices_SortFunc_api_Tri_api_Tri.r
  kernel_rfl
noncomputable def slices_SortFunc_api_Tri_api_Tri.rf (bd : B3) (call : FuncId → List V → Heap → Option R) (n : Nat) (a : List V) (H : Heap) : Option R := (match a with | [v0, v1] => slices_SortFunc_api_Tri_api_Tri.r bd call n v0 v1 H | a => E C n 28 [] (argsA 0 a) H (kR C 28))
theorem slices_SortFunc_api_Tri_api_Tri.rf_b (n : Nat) (a : List V) (H : Heap) : (match a with | [v0, v1] => slices_SortFunc_api_Tri_api_Tri.r @bdI (callA C n) n v0 v1 H | a => E C n 28 [] (argsA 0 a) H (kR C 28)) = E C n 28 [] (argsA 0 a) H (kR C 28) := by
  split
  · exact slices_SortFunc_api_Tri_api_Tri.r_e n _ _ H
  · rfl
theorem slices_SortFunc_api_Tri_api_Tri.rf_e (n : Nat) (a : List V) (H : Heap) : slices_SortFunc_api_Tri_api_Tri.rf @bdI (callA C n) n a H = callA C (n + 1) 28 a H := by
  unfold slices_SortFunc_api_Tri_api_Tri.rf
  refine (slices_SortFunc_api_Tri_api_Tri.rf_b n a H).trans ?_
  kernel_rfl
@[irreducible] noncomputable def slices_Compact_api_Tri_api_Tri.l0 (n m0 : Nat) (v0 v3 : V) (H : Heap) : Option R := Lp C n 30 [1, 1, 0, 1, 0, 0] m0 [(0, v0), (3, v3)] H (kB 0 (kC C n 30 [1, 1, 1] (kR C 30)))
@[irreducible] noncomputable def slices_Compact_api_Tri_api_Tri.l1 (n m0 m1 : Nat) (v0 v3 v4 v5 : V) (H : Heap) : Option R := Lp C n 30 [1, 1, 0, 1, 0, 0, 1, 0, 0, 1, 0, 1, 0, 1, 0, 0] m1 [(0, v0), (3, v3), (4, v4), (5, v5)] H (kB 2 (kC C n 30 [1, 1, 0, 1, 0, 0, 1, 0, 0, 1, 0, 1, 1] (kB 1 (kC C n 30 [1, 1, 0, 1, 0, 0, 1, 1] (kL C n 30 [1, 1, 0, 1, 0, 0] m0 (kB 0 (kC C n 30 [1, 1, 1] (kR C 30))))))))
@[irreducible] noncomputable def slices_Compact_api_Tri_api_Tri.p2 (n m0 : Nat) (v0 v3 : V) (H : Heap) : Option R := E C n 30 [1, 1, 0, 1, 0, 0, 1, 0, 0, 1, 0, 1, 1] [(0, v0), (3, v3)] H (kB 1 (kC C n 30 [1, 1, 0, 1, 0, 0, 1, 1] (kL C n 30 [1, 1, 0, 1, 0, 0] m0 (kB 0 (kC C n 30 [1, 1, 1] (kR C 30))))))
noncomputable def slices_Compact_api_Tri_api_Tri.r_p2 (bd : B3) (call : FuncId → List V → Heap → Option R) (n : Nat) (s0 : V → V → Heap → Option R) (v0 v3 : V) (H : Heap) : Option R :=
 (bd (slSl 9 v0 (some v3) none) fun t56_1 =>
 (bd (clrS 9 [(.int .i64 0), (.int .i64 0), (.int .i64 0), (.int .i64 0), (.int .i64 0), (.int .i64 0), (.int .i64 0), (.int .i64 0), (.int .i64 0)] t56_1 H) fun H2 =>
 (bd (slSl 9 v0 none (some v3)) fun t59_3 =>
 (some (t59_3, H2)))))
theorem slices_Compact_api_Tri_api_Tri.r_p2_e (n : Nat) (m0 : Nat) : slices_Compact_api_Tri_api_Tri.r_p2 @bdI (callA C n) n (slices_Compact_api_Tri_api_Tri.l0 n m0) = slices_Compact_api_Tri_api_Tri.p2 n m0 := by
  funext v0 v3 H
  unfold slices_Compact_api_Tri_api_Tri.r_p2
  kernel_rfl
noncomputable def slices_Compact_api_Tri_api_Tri.r_l1 (bd : B3) (call : FuncId → List V → Heap → Option R) (n : Nat) (s0 : V → V → Heap → Option R) (s1 : V → V → V → V → Heap → Option R) (v0 v3 v4 v5 : V) (H : Heap) : Option R :=
 (bd (lenSl v4) fun t31_1 =>
 (bd (arA .lss v5 t31_1) fun t32_2 =>
 (bd (asB t32_2) fun b3 =>
 if b3 = true then
 (bd (idxS 9 v4 v5) fun t37_4 =>
 (bd (ldN 9 t37_4 (H.more 0)) fun t38_5 =>
 (bd (arA .sub v5 (.int .i64 1)) fun t41_6 =>
 (bd (idxS 9 v4 t41_6) fun t42_7 =>
 (bd (ldN 9 t42_7 (H.more 0)) fun t43_8 =>
 (bd (neqA P ty_api_Tri t38_5 t43_8) fun t44_9 =>
 (bd (asB t44_9) fun b10 =>
 if b10 = true then
 (bd (idxS 9 v4 v5) fun t49_11 =>
 (bd (ldN 9 t49_11 (H.more 0)) fun t50_12 =>
 (bd (idxS 9 v0 v3) fun t51_13 =>
 (bd (stA 9 t51_13 t50_12 (H.more 0)) fun H14 =>
 (bd (arA .add v3 (.int .i64 1)) fun t53_15 =>
 (bd (arA .add v5 (.int .i64 1)) fun t34_16 =>
 (s1 v0 t53_15 v4 t34_16 H14)))))))
 else
 (bd (arA .add v5 (.int .i64 1)) fun t34_17 =>
 (s1 v0 v3 v4 t34_17 (H.more 0))))))))))
 else
 (slices_Compact_api_Tri_api_Tri.r_p2 bd call n s0 v0 v3 H))))
theorem slices_Compact_api_Tri_api_Tri.r_l1_e (n m0 m1 : Nat) : slices_Compact_api_Tri_api_Tri.r_l1 @bdI (callA C n) n (slices_Compact_api_Tri_api_Tri.l0 n m0) (slices_Compact_api_Tri_api_Tri.l1 n m0 m1) = slices_Compact_api_Tri_api_Tri.l1 n m0 (m1 + 1) := by
  funext v0 v3 v4 v5 H
  unfold slices_Compact_api_Tri_api_Tri.r_l1
  rewrite [slices_Compact_api_Tri_api_Tri.r_p2_e]
  kernel_rfl
noncomputable def slices_Compact_api_Tri_api_Tri.r_l1_lp (bd : B3) (call : FuncId → List V → Heap → Option R) (n : Nat) (s0 : V → V → Heap → Option R) (m : Nat) : V → V → V → V → Heap → Option R := Nat.rec (motive := fun _ => V → V → V → V → Heap → Option R) (fun _ _ _ _ _ => none) (fun _ self => slices_Compact_api_Tri_api_Tri.r_l1 bd call n s0 self) m
theorem slices_Compact_api_Tri_api_Tri.r_l1_lp_e (n m0 : Nat) : slices_Compact_api_Tri_api_Tri.r_l1_lp @bdI (callA C n) n (slices_Compact_api_Tri_api_Tri.l0 n m0) = slices_Compact_api_Tri_api_Tri.l1 n m0 := by
  funext m
  induction m with
  | zero => funext v0 v3 v4 v5 H; kernel_rfl
  | succ k ih => exact (congrArg (slices_Compact_api_Tri_api_Tri.r_l1 @bdI (callA C n) n (slices_Compact_api_Tri_api_Tri.l0 n m0)) ih).trans (slices_Compact_api_Tri_api_Tri.r_l1_e n m0 k)
noncomputable def slices_Compact_api_Tri_api_Tri.r_l0 (bd : B3) (call : FuncId → List V → Heap → Option R) (n : Nat) (s0 : V → V → Heap → Option R) (v0 v3 : V) (H : Heap) : Option R :=
 (bd (lenSl v0) fun t12_1 =>
 (bd (arA .lss v3 t12_1) fun t13_2 =>
 (bd (asB t13_2) fun b3 =>
 if b3 = true then
 (bd (idxS 9 v0 v3) fun t18_4 =>
 (bd (ldN 9 t18_4 (H.more 0)) fun t19_5 =>
 (bd (arA .sub v3 (.int .i64 1)) fun t22_6 =>
 (bd (idxS 9 v0 t22_6) fun t23_7 =>
 (bd (ldN 9 t23_7 (H.more 0)) fun t24_8 =>
 (bd (eqlA P ty_api_Tri t19_5 t24_8) fun t25_9 =>
 (bd (asB t25_9) fun b10 =>
 if b10 = true then
 (bd (slSl 9 v0 (some v3) none) fun t28_11 =>
 (slices_Compact_api_Tri_api_Tri.r_l1_lp bd call n s0 n v0 v3 t28_11 (.int .i64 1) (H.more 0)))
 else
 (bd (arA .add v3 (.int .i64 1)) fun t15_12 =>
 (s0 v0 t15_12 (H.more 0))))))))))
 else
 (some (v0, H)))))
theorem slices_Compact_api_Tri_api_Tri.r_l0_e (n m0 : Nat) : slices_Compact_api_Tri_api_Tri.r_l0 @bdI (callA C n) n (slices_Compact_api_Tri_api_Tri.l0 n m0) = slices_Compact_api_Tri_api_Tri.l0 n (m0 + 1) := by
  funext v0 v3 H
  unfold slices_Compact_api_Tri_api_Tri.r_l0
  rewrite [slices_Compact_api_Tri_api_Tri.r_l1_lp_e]
  kernel_rfl
noncomputable def slices_Compact_api_Tri_api_Tri.r_l0_lp (bd : B3) (call : FuncId → List V → Heap → Option R) (n : Nat) (m : Nat) : V → V → Heap → Option R := Nat.rec (motive := fun _ => V → V → Heap → Option R) (fun _ _ _ => none) (fun _ self => slices_Compact_api_Tri_api_Tri.r_l0 bd call n self) m
theorem slices_Compact_api_Tri_api_Tri.r_l0_lp_e (n : Nat) : slices_Compact_api_Tri_api_Tri.r_l0_lp @bdI (callA C n) n = slices_Compact_api_Tri_api_Tri.l0 n := by
  funext m
  induction m with
  | zero => funext v0 v3 H; kernel_rfl
  | succ k ih => exact (congrArg (slices_Compact_api_Tri_api_Tri.r_l0 @bdI (callA C n) n) ih).trans (slices_Compact_api_Tri_api_Tri.r_l0_e n k)
noncomputable def slices_Compact_api_Tri_api_Tri.r (bd : B3) (call : FuncId → List V → Heap → Option R) (n : Nat) (v0 : V) (H : Heap) : Option R :=
 (bd (lenSl v0) fun t7_1 =>
 (bd (arA .lss t7_1 (.int .i64 2)) fun t8_2 =>
 (bd (asB t8_2) fun b3 =>
 if b3 = true then
 (some (v0, H))
 else
 (slices_Compact_api_Tri_api_Tri.r_l0_lp bd call n n v0 (.int .i64 1) H))))
theorem slices_Compact_api_Tri_api_Tri.r_e (n : Nat) (v0 : V) (H : Heap) : slices_Compact_api_Tri_api_Tri.r @bdI (callA C n) n v0 H = E C n 30 [] (argsA 0 [v0]) H (kR C 30) := by
  unfold slices_Compact_api_Tri_api_Tri.r
  rewrite [slices_Compact_api_Tri_api_Tri.r_l0_lp_e]
  kernel_rfl
noncomputable def slices_Compact_api_Tri_api_Tri.rf (bd : B3) (call : FuncId → List V → Heap → Option R) (n : Nat) (a : List V) (H : Heap) : Option R := (match a with | [v0] => slices_Compact_api_Tri_api_Tri.r bd call n v0 H | a => E C n 30 [] (argsA 0 a) H (kR C 30))
theorem slices_Compact_api_Tri_api_Tri.rf_b (n : Nat) (a : List V) (H : Heap) : (match a with | [v0] => slices_Compact_api_Tri_api_Tri.r @bdI (callA C n) n v0 H | a => E C n 30 [] (argsA 0 a) H (kR C 30)) = E C n 30 [] (argsA 0 a) H (kR C 30) := by
  split
  · exact slices_Compact_api_Tri_api_Tri.r_e n _ H
  · rfl
theorem slices_Compact_api_Tri_api_Tri.rf_e (n : Nat) (a : List V) (H : Heap) : slices_Compact_api_Tri_api_Tri.rf @bdI (callA C n) n a H = callA C (n + 1) 30 a H := by
  unfold slices_Compact_api_Tri_api_Tri.rf
  refine (slices_Compact_api_Tri_api_Tri.rf_b n a H).trans ?_
  kernel_rfl
end Go.AM.L
end
section
set_option linter.unusedVariables false
set_option linter.unusedSimpArgs false
set_option maxRecDepth 1000000
set_option linter.unusedVariables false
namespace Go.AM.L
@[irreducible] noncomputable def mesh_Mesh_Dump.l0 (n m0 : Nat) (v0 v2 v3 v20 v21 v22 : V) (H : Heap) : Option R := Lp C n 31 [1, 1, 1, 0, 1, 0, 0] m0 [(0, v0), (2, v2), (3, v3), (20, v20), (21, v21), (22, v22)] H (kB 0 (kC C n 31 [1, 1, 1, 1] (kR C 31)))
@[irreducible] noncomputable def mesh_Mesh_Dump.p1 (n : Nat) (v0 v2 v3 : V) (H : Heap) : Option R := E C n 31 [1, 1, 1, 1] [(0, v0), (2, v2), (3, v3)] H (kR C 31)
@[irreducible] noncomputable def mesh_Mesh_Dump.l2 (n m0 : Nat) (v0 v2 v3 v43 v44 v45 : V) (H : Heap) : Option R := Lp C n 31 [1, 1, 1, 1, 0, 1, 0, 0] m0 [(0, v0), (2, v2), (3, v3), (43, v43), (44, v44), (45, v45)] H (kB 2 (kC C n 31 [1, 1, 1, 1, 1] (kR C 31)))
noncomputable def mesh_Mesh_Dump.r_l2 (bd : B3) (call : FuncId → List V → Heap → Option R) (n : Nat) (s0 : V → V → V → V → V → V → Heap → Option R) (v0 v2 v3 v43 v44 v45 : V) (H : Heap) : Option R :=
 (bd (arA .lss v45 v44) fun t46_1 =>
 (bd (asB t46_1) fun b2 =>
 if b2 = true then
 (bd (idxS 1 v43 v45) fun t47_3 =>
 (bd (ld1 t47_3 H) fun t48_4 =>
 (bd (faA 2 v3) fun t49_5 =>
 (bd (ld1 t49_5 (H.more 1)) fun t50_6 =>
 (bd (nilC v0) fun t53_7 =>
 (bd (faA 4 t53_7) fun t54_8 =>
 (bd (ld1 t54_8 (H.more 1)) fun t55_9 =>
 (bd (idxS 9 t55_9 t48_4) fun t57_10 =>
 (bd (ldN 9 t57_10 (H.more 1)) fun t58_11 =>
 (bd (flA [(0, 1), (1, 9)] [(.int .i64 0), (.int .i64 0), (.int .i64 0), (.int .i64 0), (.int .i64 0), (.int .i64 0), (.int .i64 0), (.int .i64 0), (.int .i64 0), (.int .i64 0)] [(0, t48_4), (1, t58_11)]) fun t59_12 =>
 (bd (bSl 10 ty_api_Cell [(.int .i64 0), (.int .i64 0), (.int .i64 0), (.int .i64 0), (.int .i64 0), (.int .i64 0), (.int .i64 0), (.int .i64 0), (.int .i64 0), (.int .i64 0)] 1 [(0, t59_12)]) fun o13 =>
 (bd (appA 10 80 ty_api_Cell t50_6 (.slice ⟨some ((H.n + 0), 0), 1, 10, false⟩) ((H.more 1).set (H.n + 0) o13)) fun p14 =>
 (bd (faA 2 v3) fun t62_15 =>
 (bd (stA 1 t62_15 p14.1 p14.2) fun H16 =>
 (bd (arA .add v45 (.int .i64 1)) fun t63_17 =>
 (s0 v0 v2 v3 v43 v44 t63_17 H16))))))))))))))))
 else
 (bd (ldN 3 v3 H) fun t64_18 =>
 (bd (stA 3 v2 t64_18 H) fun H19 =>
 (bd (ldN 3 v2 H19) fun t20 =>
 (frzR t20 H19))))))
theorem mesh_Mesh_Dump.r_l2_e (n m0 : Nat) : mesh_Mesh_Dump.r_l2 @bdI (callA C n) n (mesh_Mesh_Dump.l2 n m0) = mesh_Mesh_Dump.l2 n (m0 + 1) := by
  funext v0 v2 v3 v43 v44 v45 H
  unfold mesh_Mesh_Dump.r_l2
  kernel_rfl
noncomputable def mesh_Mesh_Dump.r_l2_lp (bd : B3) (call : FuncId → List V → Heap → Option R) (n : Nat) (m : Nat) : V → V → V → V → V → V → Heap → Option R := Nat.rec (motive := fun _ => V → V → V → V → V → V → Heap → Option R) (fun _ _ _ _ _ _ _ => none) (fun _ self => mesh_Mesh_Dump.r_l2 bd call n self) m
theorem mesh_Mesh_Dump.r_l2_lp_e (n : Nat) : mesh_Mesh_Dump.r_l2_lp @bdI (callA C n) n = mesh_Mesh_Dump.l2 n := by
  funext m
  induction m with
  | zero => funext v0 v2 v3 v43 v44 v45 H; kernel_rfl
  | succ k ih => exact (congrArg (mesh_Mesh_Dump.r_l2 @bdI (callA C n) n) ih).trans (mesh_Mesh_Dump.r_l2_e n k)
noncomputable def mesh_Mesh_Dump.r_p1 (bd : B3) (call : FuncId → List V → Heap → Option R) (n : Nat) (v0 v2 v3 : V) (H : Heap) : Option R :=
 (bd (nilC v0) fun t40_1 =>
 (bd (faA 2 t40_1) fun t41_2 =>
 (bd (ld1 t41_2 H) fun t42_3 =>
 (bd (call 48 [t42_3] H) fun r4 =>
 (bd (lenSl r4.1) fun t44_5 =>
 (mesh_Mesh_Dump.r_l2_lp bd call n n v0 v2 v3 r4.1 t44_5 (.int .i64 0) r4.2))))))
theorem mesh_Mesh_Dump.r_p1_e (n : Nat) : mesh_Mesh_Dump.r_p1 @bdI (callA C n) n = mesh_Mesh_Dump.p1 n := by
  funext v0 v2 v3 H
  unfold mesh_Mesh_Dump.r_p1
  rewrite [mesh_Mesh_Dump.r_l2_lp_e]
  kernel_rfl
noncomputable def mesh_Mesh_Dump.r_l0 (bd : B3) (call : FuncId → List V → Heap → Option R) (n : Nat) (s0 : V → V → V → V → V → V → Heap → Option R) (v0 v2 v3 v20 v21 v22 : V) (H : Heap) : Option R :=
 (bd (arA .lss v22 v21) fun t23_1 =>
 (bd (asB t23_1) fun b2 =>
 if b2 = true then
 (bd (idxS 1 v20 v22) fun t24_3 =>
 (bd (ld1 t24_3 H) fun t25_4 =>
 (bd (faA 1 v3) fun t26_5 =>
 (bd (ld1 t26_5 (H.more 1)) fun t27_6 =>
 (bd (nilC v0) fun t29_7 =>
 (bd (faA 3 t29_7) fun t30_8 =>
 (bd (ld1 t30_8 (H.more 1)) fun t31_9 =>
 (bd (idxS 4 t31_9 t25_4) fun t33_10 =>
 (bd (ldN 4 t33_10 (H.more 1)) fun t34_11 =>
 (bd (bSl 4 ty_api_Vert [(.int .i64 0), (.int .i64 0), (.int .i64 0), (.int .i64 0)] 1 [(0, t34_11)]) fun o12 =>
 (bd (appA 4 32 ty_api_Vert t27_6 (.slice ⟨some ((H.n + 0), 0), 1, 4, false⟩) ((H.more 1).set (H.n + 0) o12)) fun p13 =>
 (bd (faA 1 v3) fun t37_14 =>
 (bd (stA 1 t37_14 p13.1 p13.2) fun H15 =>
 (bd (arA .add v22 (.int .i64 1)) fun t38_16 =>
 (s0 v0 v2 v3 v20 v21 t38_16 H15)))))))))))))))
 else
 (mesh_Mesh_Dump.r_p1 bd call n v0 v2 v3 H)))
theorem mesh_Mesh_Dump.r_l0_e (n m0 : Nat) : mesh_Mesh_Dump.r_l0 @bdI (callA C n) n (mesh_Mesh_Dump.l0 n m0) = mesh_Mesh_Dump.l0 n (m0 + 1) := by
  funext v0 v2 v3 v20 v21 v22 H
  unfold mesh_Mesh_Dump.r_l0
  rewrite [mesh_Mesh_Dump.r_p1_e]
  kernel_rfl
noncomputable def mesh_Mesh_Dump.r_l0_lp (bd : B3) (call : FuncId → List V → Heap → Option R) (n : Nat) (m : Nat) : V → V → V → V → V → V → Heap → Option R := Nat.rec (motive := fun _ => V → V → V → V → V → V → Heap → Option R) (fun _ _ _ _ _ _ _ => none) (fun _ self => mesh_Mesh_Dump.r_l0 bd call n self) m
theorem mesh_Mesh_Dump.r_l0_lp_e (n : Nat) : mesh_Mesh_Dump.r_l0_lp @bdI (callA C n) n = mesh_Mesh_Dump.l0 n := by
  funext m
  induction m with
  | zero => funext v0 v2 v3 v20 v21 v22 H; kernel_rfl
  | succ k ih => exact (congrArg (mesh_Mesh_Dump.r_l0 @bdI (callA C n) n) ih).trans (mesh_Mesh_Dump.r_l0_e n k)
noncomputable def mesh_Mesh_Dump.r (bd : B3) (call : FuncId → List V → Heap → Option R) (n : Nat) (v0 : V) (H : Heap) : Option R :=
 (bd (eqlA P ty_p_mesh_Mesh v0 (.ptr none)) fun t9_1 =>
 (bd (asB t9_1) fun b2 =>
 if b2 = true then
 (bd (flA [(0, 1), (1, 1), (2, 1)] [(.int .i64 0), (.slice ⟨none, 0, 0, false⟩), (.slice ⟨none, 0, 0, false⟩)] []) fun t10_3 =>
 (bd (stA 3 (.ptr (some (H.n, 0))) t10_3 (H.push (.cells [(.int .i64 0), (.slice ⟨none, 0, 0, false⟩), (.slice ⟨none, 0, 0, false⟩)] ty_api_Dump false))) fun H4 =>
 (bd (ldN 3 (.ptr (some (H.n, 0))) H4) fun t5 =>
 (frzR t5 H4))))
 else
 (bd (nilC v0) fun t12_6 =>
 (bd (faA 0 t12_6) fun t13_7 =>
 (bd (ld1 t13_7 (H.push (.cells [(.int .i64 0), (.slice ⟨none, 0, 0, false⟩), (.slice ⟨none, 0, 0, false⟩)] ty_api_Dump false))) fun t14_8 =>
 (bd (flA [(0, 1), (1, 1), (2, 1)] [(.int .i64 0), (.slice ⟨none, 0, 0, false⟩), (.slice ⟨none, 0, 0, false⟩)] [(0, t14_8)]) fun t15_9 =>
 (bd (stA 3 (.ptr (some ((H.push (.cells [(.int .i64 0), (.slice ⟨none, 0, 0, false⟩), (.slice ⟨none, 0, 0, false⟩)] ty_api_Dump false)).n, 0))) t15_9 ((H.push (.cells [(.int .i64 0), (.slice ⟨none, 0, 0, false⟩), (.slice ⟨none, 0, 0, false⟩)] ty_api_Dump false)).push (.cells [(.int .i64 0), (.slice ⟨none, 0, 0, false⟩), (.slice ⟨none, 0, 0, false⟩)] ty_api_Dump false))) fun H10 =>
 (bd (nilC v0) fun t17_11 =>
 (bd (faA 1 t17_11) fun t18_12 =>
 (bd (ld1 t18_12 H10) fun t19_13 =>
 (bd (call 48 [t19_13] H10) fun r14 =>
 (bd (lenSl r14.1) fun t21_15 =>
 (mesh_Mesh_Dump.r_l0_lp bd call n n v0 (.ptr (some (H.n, 0))) (.ptr (some ((H.push (.cells [(.int .i64 0), (.slice ⟨none, 0, 0, false⟩), (.slice ⟨none, 0, 0, false⟩)] ty_api_Dump false)).n, 0))) r14.1 t21_15 (.int .i64 0) r14.2)))))))))))))
theorem mesh_Mesh_Dump.r_e (n : Nat) (v0 : V) (H : Heap) : mesh_Mesh_Dump.r @bdI (callA C n) n v0 H = E C n 31 [] (argsA 0 [v0]) H (kR C 31) := by
  unfold mesh_Mesh_Dump.r
  rewrite [mesh_Mesh_Dump.r_l0_lp_e]
  kernel_rfl
noncomputable def mesh_Mesh_Dump.rf (bd : B3) (call : FuncId → List V → Heap → Option R) (n : Nat) (a : List V) (H : Heap) : Option R := (match a with | [v0] => mesh_Mesh_Dump.r bd call n v0 H | a => E C n 31 [] (argsA 0 a) H (kR C 31))
theorem mesh_Mesh_Dump.rf_b (n : Nat) (a : List V) (H : Heap) : (match a with | [v0] => mesh_Mesh_Dump.r @bdI (callA C n) n v0 H | a => E C n 31 [] (argsA 0 a) H (kR C 31)) = E C n 31 [] (argsA 0 a) H (kR C 31) := by
  split
  · exact mesh_Mesh_Dump.r_e n _ H
  · rfl
theorem mesh_Mesh_Dump.rf_e (n : Nat) (a : List V) (H : Heap) : mesh_Mesh_Dump.rf @bdI (callA C n) n a H = callA C (n + 1) 31 a H := by
  unfold mesh_Mesh_Dump.rf
  refine (mesh_Mesh_Dump.rf_b n a H).trans ?_
  kernel_rfl
noncomputable def slices_SortFunc_api_Place_api_Place.r (bd : B3) (call : FuncId → List V → Heap → Option R) (n : Nat) (v0 v1 : V) (H : Heap) : Option R :=
 (bd (lenSl v0) fun t6_1 =>
 (bd (cvInt .u64 t6_1) fun t10_2 =>
 (bd (call 46 [t10_2] H) fun r3 =>
 (bd (call 49 [v0, (.int .i64 0), t6_1, r3.1, v1] r3.2) fun r4 =>
 (some (.tuple [], r4.2))))))
theorem slices_SortFunc_api_Place_api_Place.r_e (n : Nat) (v0 v1 : V) (H : Heap) : slices_SortFunc_api_Place_api_Place.r @bdI (callA C n) n v0 v1 H = E C n 32 [] (argsA 0 [v0, v1]) H (kR C 32) := by
  unfold slices_SortFunc_api_Place_api_Place.r
  kernel_rfl
noncomputable def slices_SortFunc_api_Place_api_Place.rf (bd : B3) (call : FuncId → List V → Heap → Option R) (n : Nat) (a : List V) (H : Heap) : Option R := (match a with | [v0, v1] => slices_SortFunc_api_Place_api_Place.r bd call n v0 v1 H | a => E C n 32 [] (argsA 0 a) H (kR C 32))
theorem slices_SortFunc_api_Place_api_Place.rf_b (n : Nat) (a : List V) (H : Heap) : (match a with | [v0, v1] => slices_SortFunc_api_Place_api_Place.r @bdI (callA C n) n v0 v1 H | a => E C n 32 [] (argsA 0 a) H (kR C 32)) = E C n 32 [] (argsA 0 a) H (kR C 32) := by
  split
  · exact slices_SortFunc_api_Place_api_Place.r_e n _ _ H
  · rfl
theorem slices_SortFunc_api_Place_api_Place.rf_e (n : Nat) (a : List V) (H : Heap) : slices_SortFunc_api_Place_api_Place.rf @bdI (callA C n) n a H = callA C (n + 1) 32 a H := by
  unfold slices_SortFunc_api_Place_api_Place.rf
  refine (slices_SortFunc_api_Place_api_Place.rf_b n a H).trans ?_
  kernel_rfl
noncomputable def file_writer_line.r (bd : B3) (call : FuncId → List V → Heap → Option R) (n : Nat) (v0 v1 v2 : V) (H : Heap) : Option R :=
 (bd (call 50 [v2, (.str [32])] (H.more 0)) fun r1 =>
 (bd (nilC v0) fun t7_2 =>
 (bd (faA 0 t7_2) fun t8_3 =>
 (bd (arA .add v1 r1.1) fun t12_4 =>
 (bd (arA .add t12_4 (.str [10])) fun t13_5 =>
 (bd (call 37 [t8_3, t13_5] r1.2) fun r6 =>
 (some (.tuple [], r6.2))))))))
theorem file_writer_line.r_e (n : Nat) (v0 v1 v2 : V) (H : Heap) : file_writer_line.r @bdI (callA C n) n v0 v1 v2 H = E C n 34 [] (argsA 0 [v0, v1, v2]) H (kR C 34) := by
  unfold file_writer_line.r
  kernel_rfl
noncomputable def file_writer_line.rf (bd : B3) (call : FuncId → List V → Heap → Option R) (n : Nat) (a : List V) (H : Heap) : Option R := inA true a H fun a H => (match a with | [v0, v1, v2] => file_writer_line.r bd call n v0 v1 v2 H | a => E C n 34 [] (argsA 0 a) H (kR C 34))
theorem file_writer_line.rf_b (n : Nat) (a : List V) (H : Heap) : (match a with | [v0, v1, v2] => file_writer_line.r @bdI (callA C n) n v0 v1 v2 H | a => E C n 34 [] (argsA 0 a) H (kR C 34)) = E C n 34 [] (argsA 0 a) H (kR C 34) := by
  split
  · exact file_writer_line.r_e n _ _ _ H
  · rfl
theorem file_writer_line.rf_e (n : Nat) (a : List V) (H : Heap) : file_writer_line.rf @bdI (callA C n) n a H = callA C (n + 1) 34 a H := by
  unfold file_writer_line.rf
  refine (congrArg (inA true a H) (funext fun a => funext fun H => file_writer_line.rf_b n a H)).trans ?_
  kernel_rfl
noncomputable def file_plain.r (bd : B3) (call : FuncId → List V → Heap → Option R) (n : Nat) (v0 : V) (H : Heap) : Option R :=
 (bd (mmA true [v0, (.int .i64 0)]) fun t4_1 =>
 (bd (call 36 [t4_1] H) fun r2 =>
 (some (r2.1, r2.2))))
theorem file_plain.r_e (n : Nat) (v0 : V) (H : Heap) : file_plain.r @bdI (callA C n) n v0 H = E C n 35 [] (argsA 0 [v0]) H (kR C 35) := by
  unfold file_plain.r
  kernel_rfl
noncomputable def file_plain.rf (bd : B3) (call : FuncId → List V → Heap → Option R) (n : Nat) (a : List V) (H : Heap) : Option R := pureA a H fun a => (match a with | [v0] => file_plain.r bd call n v0 ⟨0, .nil⟩ | a => E C n 35 [] (argsA 0 a) ⟨0, .nil⟩ (kR C 35))
theorem file_plain.rf_b (n : Nat) (a : List V) (H : Heap) : (match a with | [v0] => file_plain.r @bdI (callA C n) n v0 H | a => E C n 35 [] (argsA 0 a) H (kR C 35)) = E C n 35 [] (argsA 0 a) H (kR C 35) := by
  split
  · exact file_plain.r_e n _ H
  · rfl
theorem file_plain.rf_e (n : Nat) (a : List V) (H : Heap) : file_plain.rf @bdI (callA C n) n a H = callA C (n + 1) 35 a H := by
  unfold file_plain.rf
  refine (congrArg (pureA a H) (funext fun a => file_plain.rf_b n a ⟨0, .nil⟩)).trans ?_
  kernel_rfl
noncomputable def strconv_Itoa.r (bd : B3) (call : FuncId → List V → Heap → Option R) (n : Nat) (v0 : V) (H : Heap) : Option R :=
 (bd (call 51 [v0] H) fun r1 =>
 (some (r1.1, r1.2)))
theorem strconv_Itoa.r_e (n : Nat) (v0 : V) (H : Heap) : strconv_Itoa.r @bdI (callA C n) n v0 H = E C n 36 [] (argsA 0 [v0]) H (kR C 36) := by
  unfold strconv_Itoa.r
  kernel_rfl
noncomputable def strconv_Itoa.rf (bd : B3) (call : FuncId → List V → Heap → Option R) (n : Nat) (a : List V) (H : Heap) : Option R := (match a with | [v0] => strconv_Itoa.r bd call n v0 H | a => E C n 36 [] (argsA 0 a) H (kR C 36))
theorem strconv_Itoa.rf_b (n : Nat) (a : List V) (H : Heap) : (match a with | [v0] => strconv_Itoa.r @bdI (callA C n) n v0 H | a => E C n 36 [] (argsA 0 a) H (kR C 36)) = E C n 36 [] (argsA 0 a) H (kR C 36) := by
  split
  · exact strconv_Itoa.r_e n _ H
  · rfl
theorem strconv_Itoa.rf_e (n : Nat) (a : List V) (H : Heap) : strconv_Itoa.rf @bdI (callA C n) n a H = callA C (n + 1) 36 a H := by
  unfold strconv_Itoa.rf
  refine (strconv_Itoa.rf_b n a H).trans ?_
  kernel_rfl
noncomputable def strings_Builder_WriteString.r (bd : B3) (call : FuncId → List V → Heap → Option R) (n : Nat) (v0 v1 : V) (H : Heap) : Option R :=
 (bd (call 52 [v0] H) fun r1 =>
 (bd (nilC v0) fun t10_2 =>
 (bd (faA 1 t10_2) fun t11_3 =>
 (bd (ld1 t11_3 r1.2) fun t12_4 =>
 (bd (appA 1 1 ty_uint8 t12_4 v1 r1.2) fun p5 =>
 (bd (nilC v0) fun t15_6 =>
 (bd (faA 1 t15_6) fun t16_7 =>
 (bd (stA 1 t16_7 p5.1 p5.2) fun H8 =>
 (bd (lenStr v1) fun t18_9 =>
 (some (.tuple [t18_9, .nilIface], H8)))))))))))
theorem strings_Builder_WriteString.r_e (n : Nat) (v0 v1 : V) (H : Heap) : strings_Builder_WriteString.r @bdI (callA C n) n v0 v1 H = E C n 37 [] (argsA 0 [v0, v1]) H (kR C 37) := by
  unfold strings_Builder_WriteString.r
  kernel_rfl
noncomputable def strings_Builder_WriteString.rf (bd : B3) (call : FuncId → List V → Heap → Option R) (n : Nat) (a : List V) (H : Heap) : Option R := (match a with | [v0, v1] => strings_Builder_WriteString.r bd call n v0 v1 H | a => E C n 37 [] (argsA 0 a) H (kR C 37))
theorem strings_Builder_WriteString.rf_b (n : Nat) (a : List V) (H : Heap) : (match a with | [v0, v1] => strings_Builder_WriteString.r @bdI (callA C n) n v0 v1 H | a => E C n 37 [] (argsA 0 a) H (kR C 37)) = E C n 37 [] (argsA 0 a) H (kR C 37) := by
  split
  · exact strings_Builder_WriteString.r_e n _ _ H
  · rfl
theorem strings_Builder_WriteString.rf_e (n : Nat) (a : List V) (H : Heap) : strings_Builder_WriteString.rf @bdI (callA C n) n a H = callA C (n + 1) 37 a H := by
  unfold strings_Builder_WriteString.rf
  refine (strings_Builder_WriteString.rf_b n a H).trans ?_
  kernel_rfl
noncomputable def strings_Builder_String.r (bd : B3) (call : FuncId → List V → Heap → Option R) (n : Nat) (v0 : V) (H : Heap) : Option R :=
 (bd (nilC v0) fun t4_1 =>
 (bd (faA 1 t4_1) fun t5_2 =>
 (bd (ld1 t5_2 (H.more 0)) fun t6_3 =>
 (bd (slData t6_3) fun t7_4 =>
 (bd (nilC v0) fun t9_5 =>
 (bd (faA 1 t9_5) fun t10_6 =>
 (bd (ld1 t10_6 (H.more 0)) fun t11_7 =>
 (bd (chk (ld1 t10_6 (H.more 0)) t11_7) fun _ =>
 (bd (lenSl t11_7) fun t12_8 =>
 (bd (unStrA P ty_p_uint8 t7_4 t12_8 (H.more 0)) fun p9 =>
 (some (p9.1, p9.2))))))))))))
theorem strings_Builder_String.r_e (n : Nat) (v0 : V) (H : Heap) : strings_Builder_String.r @bdI (callA C n) n v0 H = E C n 38 [] (argsA 0 [v0]) H (kR C 38) := by
  unfold strings_Builder_String.r
  kernel_rfl
noncomputable def strings_Builder_String.rf (bd : B3) (call : FuncId → List V → Heap → Option R) (n : Nat) (a : List V) (H : Heap) : Option R := (match a with | [v0] => strings_Builder_String.r bd call n v0 H | a => E C n 38 [] (argsA 0 a) H (kR C 38))
theorem strings_Builder_String.rf_b (n : Nat) (a : List V) (H : Heap) : (match a with | [v0] => strings_Builder_String.r @bdI (callA C n) n v0 H | a => E C n 38 [] (argsA 0 a) H (kR C 38)) = E C n 38 [] (argsA 0 a) H (kR C 38) := by
  split
  · exact strings_Builder_String.r_e n _ H
  · rfl
theorem strings_Builder_String.rf_e (n : Nat) (a : List V) (H : Heap) : strings_Builder_String.rf @bdI (callA C n) n a H = callA C (n + 1) 38 a H := by
  unfold strings_Builder_String.rf
  refine (strings_Builder_String.rf_b n a H).trans ?_
  kernel_rfl
noncomputable def bucket_New.r (bd : B3) (call : FuncId → List V → Heap → Option R) (n : Nat) (v0 v1 : V) (H : Heap) : Option R :=
 (bd (arA .lss v0 (.int .i64 1)) fun t6_1 =>
 (bd (asB t6_1) fun b2 =>
 if b2 = true then
 (some ((.ptr none), H))
 else
 (bd (arA .gtr v0 (.int .i64 17179869184)) fun t9_3 =>
 (bd (asB t9_3) fun b4 =>
 if b4 = true then
 (some ((.ptr none), H))
 else
 (bd (arA .lss v1 (.int .i64 1)) fun t13_5 =>
 (bd (asB t13_5) fun b6 =>
 if b6 = true then
 (some ((.ptr none), H))
 else
 (bd (arA .gtr v1 (.int .i64 64)) fun t17_7 =>
 (bd (asB t17_7) fun b8 =>
 if b8 = true then
 (some ((.ptr none), H))
 else
 (bd (arA .mul v1 v1) fun t23_9 =>
 (bd (mkSl 1 24 ty_sl_int [(.slice ⟨none, 0, 0, false⟩)] t23_9 t23_9) fun o10 =>
 (bd (flA [(0, 1), (1, 1), (2, 1), (3, 1)] [(.int .i64 0), (.int .i64 0), (.slice ⟨none, 0, 0, false⟩), (.int .i64 0)] [(0, v0), (1, v1), (2, (.slice ⟨some (H.n, 0), o10.2, 1, false⟩))]) fun t25_11 =>
 (bd (boxA ty_bucket_Grid t25_11) fun o12 =>
 (some ((.ptr (some ((H.push o10.1).n, 0))), ((H.push o10.1).push o12)))))))))))))))
theorem bucket_New.r_e (n : Nat) (v0 v1 : V) (H : Heap) : bucket_New.r @bdI (callA C n) n v0 v1 H = E C n 39 [] (argsA 0 [v0, v1]) H (kR C 39) := by
  unfold bucket_New.r
  kernel_rfl
noncomputable def bucket_New.rf (bd : B3) (call : FuncId → List V → Heap → Option R) (n : Nat) (a : List V) (H : Heap) : Option R := (match a with | [v0, v1] => bucket_New.r bd call n v0 v1 H | a => E C n 39 [] (argsA 0 a) H (kR C 39))
theorem bucket_New.rf_b (n : Nat) (a : List V) (H : Heap) : (match a with | [v0, v1] => bucket_New.r @bdI (callA C n) n v0 v1 H | a => E C n 39 [] (argsA 0 a) H (kR C 39)) = E C n 39 [] (argsA 0 a) H (kR C 39) := by
  split
  · exact bucket_New.r_e n _ _ H
  · rfl
theorem bucket_New.rf_e (n : Nat) (a : List V) (H : Heap) : bucket_New.rf @bdI (callA C n) n a H = callA C (n + 1) 39 a H := by
  unfold bucket_New.rf
  refine (bucket_New.rf_b n a H).trans ?_
  kernel_rfl
noncomputable def mesh_Mesh_Side.r (bd : B3) (call : FuncId → List V → Heap → Option R) (n : Nat) (v0 : V) (H : Heap) : Option R :=
 (bd (eqlA P ty_p_mesh_Mesh v0 (.ptr none)) fun t4_1 =>
 (bd (asB t4_1) fun b2 =>
 if b2 = true then
 (some ((.int .i64 0), H))
 else
 (bd (nilC v0) fun t6_3 =>
 (bd (faA 0 t6_3) fun t7_4 =>
 (bd (ld1 t7_4 H) fun t8_5 =>
 (some (t8_5, H)))))))
theorem mesh_Mesh_Side.r_e (n : Nat) (v0 : V) (H : Heap) : mesh_Mesh_Side.r @bdI (callA C n) n v0 H = E C n 40 [] (argsA 0 [v0]) H (kR C 40) := by
  unfold mesh_Mesh_Side.r
  kernel_rfl
noncomputable def mesh_Mesh_Side.rf (bd : B3) (call : FuncId → List V → Heap → Option R) (n : Nat) (a : List V) (H : Heap) : Option R := (match a with | [v0] => mesh_Mesh_Side.r bd call n v0 H | a => E C n 40 [] (argsA 0 a) H (kR C 40))
theorem mesh_Mesh_Side.rf_b (n : Nat) (a : List V) (H : Heap) : (match a with | [v0] => mesh_Mesh_Side.r @bdI (callA C n) n v0 H | a => E C n 40 [] (argsA 0 a) H (kR C 40)) = E C n 40 [] (argsA 0 a) H (kR C 40) := by
  split
  · exact mesh_Mesh_Side.r_e n _ H
  · rfl
theorem mesh_Mesh_Side.rf_e (n : Nat) (a : List V) (H : Heap) : mesh_Mesh_Side.rf @bdI (callA C n) n a H = callA C (n + 1) 40 a H := by
  unfold mesh_Mesh_Side.rf
  refine (mesh_Mesh_Side.rf_b n a H).trans ?_
  kernel_rfl
noncomputable def arena_New.r (bd : B3) (call : FuncId → List V → Heap → Option R) (n : Nat) (H : Heap) : Option R :=
 (bd (flA [(0, 1), (1, 1), (2, 1)] [(.slice ⟨none, 0, 0, false⟩), (.int .i64 0), (.int .i64 0)] [(1, (.int .i64 (-1)))]) fun t1_1 =>
 (bd (boxA ty_arena_Arena t1_1) fun o2 =>
 (some ((.ptr (some (H.n, 0))), (H.push o2)))))
theorem arena_New.r_e (n : Nat) (H : Heap) : arena_New.r @bdI (callA C n) n H = E C n 43 [] (argsA 0 []) H (kR C 43) := by
  unfold arena_New.r
  kernel_rfl
noncomputable def arena_New.rf (bd : B3) (call : FuncId → List V → Heap → Option R) (n : Nat) (a : List V) (H : Heap) : Option R := (match a with | [] => arena_New.r bd call n H | a => E C n 43 [] (argsA 0 a) H (kR C 43))
theorem arena_New.rf_b (n : Nat) (a : List V) (H : Heap) : (match a with | [] => arena_New.r @bdI (callA C n) n H | a => E C n 43 [] (argsA 0 a) H (kR C 43)) = E C n 43 [] (argsA 0 a) H (kR C 43) := by
  split
  · exact arena_New.r_e n H
  · rfl
theorem arena_New.rf_e (n : Nat) (a : List V) (H : Heap) : arena_New.rf @bdI (callA C n) n a H = callA C (n + 1) 43 a H := by
  unfold arena_New.rf
  refine (arena_New.rf_b n a H).trans ?_
  kernel_rfl
noncomputable def math_bits_Len.r (bd : B3) (call : FuncId → List V → Heap → Option R) (n : Nat) (v0 : V) (H : Heap) : Option R :=
 (bd (call 66 [v0] H) fun r1 =>
 (some (r1.1, r1.2)))
theorem math_bits_Len.r_e (n : Nat) (v0 : V) (H : Heap) : math_bits_Len.r @bdI (callA C n) n v0 H = E C n 46 [] (argsA 0 [v0]) H (kR C 46) := by
  unfold math_bits_Len.r
  kernel_rfl
noncomputable def math_bits_Len.rf (bd : B3) (call : FuncId → List V → Heap → Option R) (n : Nat) (a : List V) (H : Heap) : Option R := (match a with | [v0] => math_bits_Len.r bd call n v0 H | a => E C n 46 [] (argsA 0 a) H (kR C 46))
theorem math_bits_Len.rf_b (n : Nat) (a : List V) (H : Heap) : (match a with | [v0] => math_bits_Len.r @bdI (callA C n) n v0 H | a => E C n 46 [] (argsA 0 a) H (kR C 46)) = E C n 46 [] (argsA 0 a) H (kR C 46) := by
  split
  · exact math_bits_Len.r_e n _ H
  · rfl
theorem math_bits_Len.rf_e (n : Nat) (a : List V) (H : Heap) : math_bits_Len.rf @bdI (callA C n) n a H = callA C (n + 1) 46 a H := by
  unfold math_bits_Len.rf
  refine (math_bits_Len.rf_b n a H).trans ?_
  kernel_rfl
@[irreducible] noncomputable def arena_Arena_All.l0 (n m0 : Nat) (v0 v3 v11 v12 : V) (H : Heap) : Option R := Lp C n 48 [1, 1, 1, 0, 1, 0, 0] m0 [(0, v0), (3, v3), (11, v11), (12, v12)] H (kB 0 (kC C n 48 [1, 1, 1, 1] (kR C 48)))
noncomputable def arena_Arena_All.r_l0 (bd : B3) (call : FuncId → List V → Heap → Option R) (n : Nat) (s0 : V → V → V → V → Heap → Option R) (v0 v3 v11 v12 : V) (H : Heap) : Option R :=
 (bd (arA .lss v12 v11) fun t13_1 =>
 (bd (asB t13_1) fun b2 =>
 if b2 = true then
 (bd (call 69 [v0, v12] H) fun r3 =>
 (bd (asB r3.1) fun b4 =>
 if b4 = true then
 (bd (bSl 1 ty_int [(.int .i64 0)] 1 [(0, v12)]) fun o5 =>
 (bd (appA 1 8 ty_int v3 (.slice ⟨some (r3.2.n, 0), 1, 1, false⟩) (r3.2.push o5)) fun p6 =>
 (bd (arA .add v12 (.int .i64 1)) fun t22_7 =>
 (s0 v0 p6.1 v11 t22_7 p6.2))))
 else
 (bd (arA .add v12 (.int .i64 1)) fun t22_8 =>
 (s0 v0 v3 v11 t22_8 r3.2))))
 else
 (frzR v3 H)))
theorem arena_Arena_All.r_l0_e (n m0 : Nat) : arena_Arena_All.r_l0 @bdI (callA C n) n (arena_Arena_All.l0 n m0) = arena_Arena_All.l0 n (m0 + 1) := by
  funext v0 v3 v11 v12 H
  unfold arena_Arena_All.r_l0
  kernel_rfl
noncomputable def arena_Arena_All.r_l0_lp (bd : B3) (call : FuncId → List V → Heap → Option R) (n : Nat) (m : Nat) : V → V → V → V → Heap → Option R := Nat.rec (motive := fun _ => V → V → V → V → Heap → Option R) (fun _ _ _ _ _ => none) (fun _ self => arena_Arena_All.r_l0 bd call n self) m
theorem arena_Arena_All.r_l0_lp_e (n : Nat) : arena_Arena_All.r_l0_lp @bdI (callA C n) n = arena_Arena_All.l0 n := by
  funext m
  induction m with
  | zero => funext v0 v3 v11 v12 H; kernel_rfl
  | succ k ih => exact (congrArg (arena_Arena_All.r_l0 @bdI (callA C n) n) ih).trans (arena_Arena_All.r_l0_e n k)
noncomputable def arena_Arena_All.r (bd : B3) (call : FuncId → List V → Heap → Option R) (n : Nat) (v0 : V) (H : Heap) : Option R :=
 (bd (eqlA P ty_p_arena_Arena v0 (.ptr none)) fun t6_1 =>
 (bd (asB t6_1) fun b2 =>
 if b2 = true then
 (frzR (.slice ⟨none, 0, 0, false⟩) H)
 else
 (bd (nilC v0) fun t8_3 =>
 (bd (faA 0 t8_3) fun t9_4 =>
 (bd (ld1 t9_4 H) fun t10_5 =>
 (bd (lenSl t10_5) fun t11_6 =>
 (arena_Arena_All.r_l0_lp bd call n n v0 (.slice ⟨none, 0, 0, false⟩) t11_6 (.int .i64 0) H)))))))
theorem arena_Arena_All.r_e (n : Nat) (v0 : V) (H : Heap) : arena_Arena_All.r @bdI (callA C n) n v0 H = E C n 48 [] (argsA 0 [v0]) H (kR C 48) := by
  unfold arena_Arena_All.r
  rewrite [arena_Arena_All.r_l0_lp_e]
  kernel_rfl
noncomputable def arena_Arena_All.rf (bd : B3) (call : FuncId → List V → Heap → Option R) (n : Nat) (a : List V) (H : Heap) : Option R := (match a with | [v0] => arena_Arena_All.r bd call n v0 H | a => E C n 48 [] (argsA 0 a) H (kR C 48))
theorem arena_Arena_All.rf_b (n : Nat) (a : List V) (H : Heap) : (match a with | [v0] => arena_Arena_All.r @bdI (callA C n) n v0 H | a => E C n 48 [] (argsA 0 a) H (kR C 48)) = E C n 48 [] (argsA 0 a) H (kR C 48) := by
  split
  · exact arena_Arena_All.r_e n _ H
  · rfl
theorem arena_Arena_All.rf_e (n : Nat) (a : List V) (H : Heap) : arena_Arena_All.rf @bdI (callA C n) n a H = callA C (n + 1) 48 a H := by
  unfold arena_Arena_All.rf
  refine (arena_Arena_All.rf_b n a H).trans ?_
  kernel_rfl
@[irreducible] noncomputable def strings_Join.p0 (n : Nat) (v0 v1 v5 : V) (H : Heap) : Option R := E C n 50 [1, 1, 1, 0, 1, 0, 1] [(0, v0), (1, v1), (5, v5)] H (kC C n 50 [1, 1, 1, 1] (kR C 50))
@[irreducible] noncomputable def strings_Join.p1 (n : Nat) (v0 v1 v5 : V) (H : Heap) : Option R := E C n 50 [1, 1, 1, 1] [(0, v0), (1, v1), (5, v5)] H (kR C 50)
@[irreducible] noncomputable def strings_Join.l2 (n m0 : Nat) (v0 v1 v5 v39 v40 v41 : V) (H : Heap) : Option R := Lp C n 50 [1, 1, 1, 1, 0, 1, 0, 0] m0 [(0, v0), (1, v1), (5, v5), (39, v39), (40, v40), (41, v41)] H (kB 1 (kC C n 50 [1, 1, 1, 1, 1] (kR C 50)))
@[irreducible] noncomputable def strings_Join.p3 (n : Nat) (v0 v1 v5 : V) (H : Heap) : Option R := E C n 50 [1, 1, 1, 1, 1] [(0, v0), (1, v1), (5, v5)] H (kR C 50)
@[irreducible] noncomputable def strings_Join.l4 (n m0 : Nat) (v1 v8 v63 v64 v65 : V) (H : Heap) : Option R := Lp C n 50 [1, 1, 1, 1, 1, 1, 1, 1, 0, 1, 0, 0] m0 [(1, v1), (8, v8), (63, v63), (64, v64), (65, v65)] H (kB 3 (kC C n 50 [1, 1, 1, 1, 1, 1, 1, 1, 1] (kR C 50)))
noncomputable def strings_Join.r_l4 (bd : B3) (call : FuncId → List V → Heap → Option R) (n : Nat) (s0 : V → V → V → V → V → Heap → Option R) (v1 v8 v63 v64 v65 : V) (H : Heap) : Option R :=
 (bd (arA .lss v65 v64) fun t66_1 =>
 (bd (asB t66_1) fun b2 =>
 if b2 = true then
 (bd (idxS 1 v63 v65) fun t67_3 =>
 (bd (ld1 t67_3 H) fun t68_4 =>
 (bd (call 37 [v8, v1] H) fun r5 =>
 (bd (call 37 [v8, t68_4] r5.2) fun r6 =>
 (bd (arA .add v65 (.int .i64 1)) fun t73_7 =>
 (s0 v1 v8 v63 v64 t73_7 r6.2))))))
 else
 (bd (call 38 [v8] H) fun r8 =>
 (some (r8.1, r8.2)))))
theorem strings_Join.r_l4_e (n m0 : Nat) : strings_Join.r_l4 @bdI (callA C n) n (strings_Join.l4 n m0) = strings_Join.l4 n (m0 + 1) := by
  funext v1 v8 v63 v64 v65 H
  unfold strings_Join.r_l4
  kernel_rfl
noncomputable def strings_Join.r_l4_lp (bd : B3) (call : FuncId → List V → Heap → Option R) (n : Nat) (m : Nat) : V → V → V → V → V → Heap → Option R := Nat.rec (motive := fun _ => V → V → V → V → V → Heap → Option R) (fun _ _ _ _ _ _ => none) (fun _ self => strings_Join.r_l4 bd call n self) m
theorem strings_Join.r_l4_lp_e (n : Nat) : strings_Join.r_l4_lp @bdI (callA C n) n = strings_Join.l4 n := by
  funext m
  induction m with
  | zero => funext v1 v8 v63 v64 v65 H; kernel_rfl
  | succ k ih => exact (congrArg (strings_Join.r_l4 @bdI (callA C n) n) ih).trans (strings_Join.r_l4_e n k)
noncomputable def strings_Join.r_p3 (bd : B3) (call : FuncId → List V → Heap → Option R) (n : Nat) (v0 v1 v5 : V) (H : Heap) : Option R :=
 (bd (call 78 [(.ptr (some (H.n, 0))), v5] (H.push (.cells [(.ptr none), (.slice ⟨none, 0, 0, false⟩)] ty_strings_Builder false))) fun r1 =>
 (bd (idxS 1 v0 (.int .i64 0)) fun t59_2 =>
 (bd (ld1 t59_2 r1.2) fun t60_3 =>
 (bd (call 37 [(.ptr (some (H.n, 0))), t60_3] r1.2) fun r4 =>
 (bd (slSl 1 v0 (some (.int .i64 1)) none) fun t63_5 =>
 (bd (lenSl t63_5) fun t64_6 =>
 (strings_Join.r_l4_lp bd call n n v1 (.ptr (some (H.n, 0))) t63_5 t64_6 (.int .i64 0) r4.2)))))))
theorem strings_Join.r_p3_e (n : Nat) : strings_Join.r_p3 @bdI (callA C n) n = strings_Join.p3 n := by
  funext v0 v1 v5 H
  unfold strings_Join.r_p3
  rewrite [strings_Join.r_l4_lp_e]
  kernel_rfl
noncomputable def strings_Join.r_l2 (bd : B3) (call : FuncId → List V → Heap → Option R) (n : Nat) (s0 : V → V → V → V → V → V → Heap → Option R) (v0 v1 v5 v39 v40 v41 : V) (H : Heap) : Option R :=
 (bd (arA .lss v41 v40) fun t42_1 =>
 (bd (asB t42_1) fun b2 =>
 if b2 = true then
 (bd (idxS 1 v39 v41) fun t43_3 =>
 (bd (ld1 t43_3 H) fun t44_4 =>
 (bd (lenStr t44_4) fun t46_5 =>
 (bd (arA .sub (.int .i64 9223372036854775807) v5) fun t48_6 =>
 (bd (arA .gtr t46_5 t48_6) fun t49_7 =>
 (bd (asB t49_7) fun b8 =>
 if b8 = true then
 none
 else
 (bd (lenStr t44_4) fun t53_9 =>
 (bd (arA .add v5 t53_9) fun t54_10 =>
 (bd (arA .add v41 (.int .i64 1)) fun t55_11 =>
 (s0 v0 v1 t54_10 v39 v40 t55_11 H))))))))))
 else
 (strings_Join.r_p3 bd call n v0 v1 v5 H)))
theorem strings_Join.r_l2_e (n m0 : Nat) : strings_Join.r_l2 @bdI (callA C n) n (strings_Join.l2 n m0) = strings_Join.l2 n (m0 + 1) := by
  funext v0 v1 v5 v39 v40 v41 H
  unfold strings_Join.r_l2
  rewrite [strings_Join.r_p3_e]
  kernel_rfl
noncomputable def strings_Join.r_l2_lp (bd : B3) (call : FuncId → List V → Heap → Option R) (n : Nat) (m : Nat) : V → V → V → V → V → V → Heap → Option R := Nat.rec (motive := fun _ => V → V → V → V → V → V → Heap → Option R) (fun _ _ _ _ _ _ _ => none) (fun _ self => strings_Join.r_l2 bd call n self) m
theorem strings_Join.r_l2_lp_e (n : Nat) : strings_Join.r_l2_lp @bdI (callA C n) n = strings_Join.l2 n := by
  funext m
  induction m with
  | zero => funext v0 v1 v5 v39 v40 v41 H; kernel_rfl
  | succ k ih => exact (congrArg (strings_Join.r_l2 @bdI (callA C n) n) ih).trans (strings_Join.r_l2_e n k)
noncomputable def strings_Join.r_p1 (bd : B3) (call : FuncId → List V → Heap → Option R) (n : Nat) (v0 v1 v5 : V) (H : Heap) : Option R :=
 (bd (lenSl v0) fun t40_1 =>
 (strings_Join.r_l2_lp bd call n n v0 v1 v5 v0 t40_1 (.int .i64 0) H))
theorem strings_Join.r_p1_e (n : Nat) : strings_Join.r_p1 @bdI (callA C n) n = strings_Join.p1 n := by
  funext v0 v1 v5 H
  unfold strings_Join.r_p1
  rewrite [strings_Join.r_l2_lp_e]
  kernel_rfl
noncomputable def strings_Join.r_p0 (bd : B3) (call : FuncId → List V → Heap → Option R) (n : Nat) (v0 v1 v5 : V) (H : Heap) : Option R :=
 (bd (lenStr v1) fun t33_1 =>
 (bd (lenSl v0) fun t35_2 =>
 (bd (arA .sub t35_2 (.int .i64 1)) fun t36_3 =>
 (bd (arA .mul t33_1 t36_3) fun t37_4 =>
 (bd (arA .add v5 t37_4) fun t38_5 =>
 (strings_Join.r_p1 bd call n v0 v1 t38_5 H))))))
theorem strings_Join.r_p0_e (n : Nat) : strings_Join.r_p0 @bdI (callA C n) n = strings_Join.p0 n := by
  funext v0 v1 v5 H
  unfold strings_Join.r_p0
  rewrite [strings_Join.r_p1_e]
  kernel_rfl
noncomputable def strings_Join.r (bd : B3) (call : FuncId → List V → Heap → Option R) (n : Nat) (v0 v1 : V) (H : Heap) : Option R :=
 (bd (lenSl v0) fun t12_1 =>
 (bd (arA .eql t12_1 (.int .i64 0)) fun t14_2 =>
 (bd (asB t14_2) fun b3 =>
 if b3 = true then
 (some ((.str []), H))
 else
 (bd (arA .eql t12_1 (.int .i64 1)) fun t16_4 =>
 (bd (asB t16_4) fun b5 =>
 if b5 = true then
 (bd (idxS 1 v0 (.int .i64 0)) fun t18_6 =>
 (bd (ld1 t18_6 H) fun t19_7 =>
 (some (t19_7, H))))
 else
 (bd (lenStr v1) fun t21_8 =>
 (bd (arA .gtr t21_8 (.int .i64 0)) fun t22_9 =>
 (bd (asB t22_9) fun b10 =>
 if b10 = true then
 (bd (lenStr v1) fun t24_11 =>
 (bd (lenSl v0) fun t26_12 =>
 (bd (arA .sub t26_12 (.int .i64 1)) fun t27_13 =>
 (bd (arA .quo (.int .i64 9223372036854775807) t27_13) fun t28_14 =>
 (bd (arA .geq t24_11 t28_14) fun t29_15 =>
 (bd (asB t29_15) fun b16 =>
 if b16 = true then
 none
 else
 (strings_Join.r_p0 bd call n v0 v1 (.int .i64 0) H)))))))
 else
 (strings_Join.r_p1 bd call n v0 v1 (.int .i64 0) H)))))))))
theorem strings_Join.r_e (n : Nat) (v0 v1 : V) (H : Heap) : strings_Join.r @bdI (callA C n) n v0 v1 H = E C n 50 [] (argsA 0 [v0, v1]) H (kR C 50) := by
  unfold strings_Join.r
  rewrite [strings_Join.r_p0_e]
  rewrite [strings_Join.r_p1_e]
  kernel_rfl
noncomputable def strings_Join.rf (bd : B3) (call : FuncId → List V → Heap → Option R) (n : Nat) (a : List V) (H : Heap) : Option R := (match a with | [v0, v1] => strings_Join.r bd call n v0 v1 H | a => E C n 50 [] (argsA 0 a) H (kR C 50))
theorem strings_Join.rf_b (n : Nat) (a : List V) (H : Heap) : (match a with | [v0, v1] => strings_Join.r @bdI (callA C n) n v0 v1 H | a => E C n 50 [] (argsA 0 a) H (kR C 50)) = E C n 50 [] (argsA 0 a) H (kR C 50) := by
  split
  · exact strings_Join.r_e n _ _ H
  · rfl
theorem strings_Join.rf_e (n : Nat) (a : List V) (H : Heap) : strings_Join.rf @bdI (callA C n) n a H = callA C (n + 1) 50 a H := by
  unfold strings_Join.rf
  refine (strings_Join.rf_b n a H).trans ?_
  kernel_rfl
noncomputable def internal_strconv_Itoa.r (bd : B3) (call : FuncId → List V → Heap → Option R) (n : Nat) (v0 : V) (H : Heap) : Option R :=
 (bd (call 79 [v0, (.int .i64 10)] H) fun r1 =>
 (some (r1.1, r1.2)))
theorem internal_strconv_Itoa.r_e (n : Nat) (v0 : V) (H : Heap) : internal_strconv_Itoa.r @bdI (callA C n) n v0 H = E C n 51 [] (argsA 0 [v0]) H (kR C 51) := by
  unfold internal_strconv_Itoa.r
  kernel_rfl
noncomputable def internal_strconv_Itoa.rf (bd : B3) (call : FuncId → List V → Heap → Option R) (n : Nat) (a : List V) (H : Heap) : Option R := (match a with | [v0] => internal_strconv_Itoa.r bd call n v0 H | a => E C n 51 [] (argsA 0 a) H (kR C 51))
theorem internal_strconv_Itoa.rf_b (n : Nat) (a : List V) (H : Heap) : (match a with | [v0] => internal_strconv_Itoa.r @bdI (callA C n) n v0 H | a => E C n 51 [] (argsA 0 a) H (kR C 51)) = E C n 51 [] (argsA 0 a) H (kR C 51) := by
  split
  · exact internal_strconv_Itoa.r_e n _ H
  · rfl
theorem internal_strconv_Itoa.rf_e (n : Nat) (a : List V) (H : Heap) : internal_strconv_Itoa.rf @bdI (callA C n) n a H = callA C (n + 1) 51 a H := by
  unfold internal_strconv_Itoa.rf
  refine (internal_strconv_Itoa.rf_b n a H).trans ?_
  kernel_rfl
noncomputable def strings_Builder_copyCheck.r (bd : B3) (call : FuncId → List V → Heap → Option R) (n : Nat) (v0 : V) (H : Heap) : Option R :=
 (bd (nilC v0) fun t3_1 =>
 (bd (faA 0 t3_1) fun t4_2 =>
 (bd (ld1 t4_2 H) fun t5_3 =>
 (bd (eqlA P ty_p_strings_Builder t5_3 (.ptr none)) fun t6_4 =>
 (bd (asB t6_4) fun b5 =>
 if b5 = true then
 (bd (cvUp (some 2) v0 H) fun t9_6 =>
 (bd (call 80 [t9_6] H) fun r7 =>
 (bd (cvDn P ty_strings_Builder r7.1 r7.2) fun t11_8 =>
 (bd (nilC v0) fun t12_9 =>
 (bd (faA 0 t12_9) fun t13_10 =>
 (bd (stA 1 t13_10 t11_8 r7.2) fun H11 =>
 (some (.tuple [], H11))))))))
 else
 (bd (nilC v0) fun t15_12 =>
 (bd (faA 0 t15_12) fun t16_13 =>
 (bd (ld1 t16_13 H) fun t17_14 =>
 (bd (neqA P ty_p_strings_Builder t17_14 v0) fun t19_15 =>
 (bd (asB t19_15) fun b16 =>
 if b16 = true then
 none
 else
 (some (.tuple [], H))))))))))))
theorem strings_Builder_copyCheck.r_e (n : Nat) (v0 : V) (H : Heap) : strings_Builder_copyCheck.r @bdI (callA C n) n v0 H = E C n 52 [] (argsA 0 [v0]) H (kR C 52) := by
  unfold strings_Builder_copyCheck.r
  kernel_rfl
noncomputable def strings_Builder_copyCheck.rf (bd : B3) (call : FuncId → List V → Heap → Option R) (n : Nat) (a : List V) (H : Heap) : Option R := (match a with | [v0] => strings_Builder_copyCheck.r bd call n v0 H | a => E C n 52 [] (argsA 0 a) H (kR C 52))
theorem strings_Builder_copyCheck.rf_b (n : Nat) (a : List V) (H : Heap) : (match a with | [v0] => strings_Builder_copyCheck.r @bdI (callA C n) n v0 H | a => E C n 52 [] (argsA 0 a) H (kR C 52)) = E C n 52 [] (argsA 0 a) H (kR C 52) := by
  split
  · exact strings_Builder_copyCheck.r_e n _ H
  · rfl
theorem strings_Builder_copyCheck.rf_e (n : Nat) (a : List V) (H : Heap) : strings_Builder_copyCheck.rf @bdI (callA C n) n a H = callA C (n + 1) 52 a H := by
  unfold strings_Builder_copyCheck.rf
  refine (strings_Builder_copyCheck.rf_b n a H).trans ?_
  kernel_rfl
end Go.AM.L
end
section
set_option linter.unusedVariables false
set_option linter.unusedSimpArgs false
set_option maxRecDepth 1000000
set_option linter.unusedVariables false
namespace Go.AM.L
@[irreducible] noncomputable def slices_insertionSortCmpFunc_api_Tri.l0 (n m0 : Nat) (v0 v1 v2 v3 v8 : V) (H : Heap) : Option R := Lp C n 57 [1, 0, 0] m0 [(0, v0), (1, v1), (2, v2), (3, v3), (8, v8)] H (kB 0 (kR C 57))
@[irreducible] noncomputable def slices_insertionSortCmpFunc_api_Tri.l1 (n m0 m1 : Nat) (v0 v1 v2 v3 v8 v9 : V) (H : Heap) : Option R := Lp C n 57 [1, 0, 0, 1, 0, 0, 1, 0, 0] m1 [(0, v0), (1, v1), (2, v2), (3, v3), (8, v8), (9, v9)] H (kB 2 (kB 1 (kC C n 57 [1, 0, 0, 1, 1] (kL C n 57 [1, 0, 0] m0 (kB 0 (kR C 57))))))
noncomputable def slices_insertionSortCmpFunc_api_Tri.r_l1 (bd : B3) (call : FuncId → List V → Heap → Option R) (n : Nat) (s0 : V → V → V → V → V → Heap → Option R) (s1 : V → V → V → V → V → V → Heap → Option R) (v0 v1 v2 v3 v8 v9 : V) (H : Heap) : Option R :=
 (bd (arA .gtr v9 v1) fun t20_1 =>
 (bd (asB t20_1) fun b2 =>
 if b2 = true then
 (bd (idxS 9 v0 v9) fun t25_3 =>
 (bd (ldN 9 t25_3 (H.more 0)) fun t26_4 =>
 (bd (arA .sub v9 (.int .i64 1)) fun t29_5 =>
 (bd (idxS 9 v0 t29_5) fun t30_6 =>
 (bd (ldN 9 t30_6 (H.more 0)) fun t31_7 =>
 (bd (callV call v3 [t26_4, t31_7] (H.more 0)) fun r8 =>
 (bd (arA .lss r8.1 (.int .i64 0)) fun t33_9 =>
 (bd (asB t33_9) fun b10 =>
 if b10 = true then
 (bd (arA .sub v9 (.int .i64 1)) fun t44_11 =>
 (bd (idxS 9 v0 t44_11) fun t45_12 =>
 (bd (ldN 9 t45_12 (r8.2.more 0)) fun t46_13 =>
 (bd (idxS 9 v0 v9) fun t49_14 =>
 (bd (ldN 9 t49_14 (r8.2.more 0)) fun t50_15 =>
 (bd (idxS 9 v0 v9) fun t51_16 =>
 (bd (stA 9 t51_16 t46_13 (r8.2.more 0)) fun H17 =>
 (bd (arA .sub v9 (.int .i64 1)) fun t41_18 =>
 (bd (idxS 9 v0 t41_18) fun t52_19 =>
 (bd (stA 9 t52_19 t50_15 H17) fun H20 =>
 (bd (arA .sub v9 (.int .i64 1)) fun t36_21 =>
 (s1 v0 v1 v2 v3 v8 t36_21 H20))))))))))))
 else
 (bd (arA .add v8 (.int .i64 1)) fun t16_22 =>
 (s0 v0 v1 v2 v3 t16_22 r8.2))))))))))
 else
 (bd (arA .add v8 (.int .i64 1)) fun t16_23 =>
 (s0 v0 v1 v2 v3 t16_23 (H.more 0)))))
theorem slices_insertionSortCmpFunc_api_Tri.r_l1_e (n m0 m1 : Nat) : slices_insertionSortCmpFunc_api_Tri.r_l1 @bdI (callA C n) n (slices_insertionSortCmpFunc_api_Tri.l0 n m0) (slices_insertionSortCmpFunc_api_Tri.l1 n m0 m1) = slices_insertionSortCmpFunc_api_Tri.l1 n m0 (m1 + 1) := by
  funext v0 v1 v2 v3 v8 v9 H
  unfold slices_insertionSortCmpFunc_api_Tri.r_l1
  kernel_rfl
noncomputable def slices_insertionSortCmpFunc_api_Tri.r_l1_lp (bd : B3) (call : FuncId → List V → Heap → Option R) (n : Nat) (s0 : V → V → V → V → V → Heap → Option R) (m : Nat) : V → V → V → V → V → V → Heap → Option R := Nat.rec (motive := fun _ => V → V → V → V → V → V → Heap → Option R) (fun _ _ _ _ _ _ _ => none) (fun _ self => slices_insertionSortCmpFunc_api_Tri.r_l1 bd call n s0 self) m
theorem slices_insertionSortCmpFunc_api_Tri.r_l1_lp_e (n m0 : Nat) : slices_insertionSortCmpFunc_api_Tri.r_l1_lp @bdI (callA C n) n (slices_insertionSortCmpFunc_api_Tri.l0 n m0) = slices_insertionSortCmpFunc_api_Tri.l1 n m0 := by
  funext m
  induction m with
  | zero => funext v0 v1 v2 v3 v8 v9 H; kernel_rfl
  | succ k ih => exact (congrArg (slices_insertionSortCmpFunc_api_Tri.r_l1 @bdI (callA C n) n (slices_insertionSortCmpFunc_api_Tri.l0 n m0)) ih).trans (slices_insertionSortCmpFunc_api_Tri.r_l1_e n m0 k)
noncomputable def slices_insertionSortCmpFunc_api_Tri.r_l0 (bd : B3) (call : FuncId → List V → Heap → Option R) (n : Nat) (s0 : V → V → V → V → V → Heap → Option R) (v0 v1 v2 v3 v8 : V) (H : Heap) : Option R :=
 (bd (arA .lss v8 v2) fun t14_1 =>
 (bd (asB t14_1) fun b2 =>
 if b2 = true then
 (slices_insertionSortCmpFunc_api_Tri.r_l1_lp bd call n s0 n v0 v1 v2 v3 v8 v8 H)
 else
 (some (.tuple [], H))))
theorem slices_insertionSortCmpFunc_api_Tri.r_l0_e (n m0 : Nat) : slices_insertionSortCmpFunc_api_Tri.r_l0 @bdI (callA C n) n (slices_insertionSortCmpFunc_api_Tri.l0 n m0) = slices_insertionSortCmpFunc_api_Tri.l0 n (m0 + 1) := by
  funext v0 v1 v2 v3 v8 H
  unfold slices_insertionSortCmpFunc_api_Tri.r_l0
  rewrite [slices_insertionSortCmpFunc_api_Tri.r_l1_lp_e]
  kernel_rfl
noncomputable def slices_insertionSortCmpFunc_api_Tri.r_l0_lp (bd : B3) (call : FuncId → List V → Heap → Option R) (n : Nat) (m : Nat) : V → V → V → V → V → Heap → Option R := Nat.rec (motive := fun _ => V → V → V → V → V → Heap → Option R) (fun _ _ _ _ _ _ => none) (fun _ self => slices_insertionSortCmpFunc_api_Tri.r_l0 bd call n self) m
theorem slices_insertionSortCmpFunc_api_Tri.r_l0_lp_e (n : Nat) : slices_insertionSortCmpFunc_api_Tri.r_l0_lp @bdI (callA C n) n = slices_insertionSortCmpFunc_api_Tri.l0 n := by
  funext m
  induction m with
  | zero => funext v0 v1 v2 v3 v8 H; kernel_rfl
  | succ k ih => exact (congrArg (slices_insertionSortCmpFunc_api_Tri.r_l0 @bdI (callA C n) n) ih).trans (slices_insertionSortCmpFunc_api_Tri.r_l0_e n k)
noncomputable def slices_insertionSortCmpFunc_api_Tri.r (bd : B3) (call : FuncId → List V → Heap → Option R) (n : Nat) (v0 v1 v2 v3 : V) (H : Heap) : Option R :=
 (bd (arA .add v1 (.int .i64 1)) fun t11_1 =>
 (slices_insertionSortCmpFunc_api_Tri.r_l0_lp bd call n n v0 v1 v2 v3 t11_1 H))
theorem slices_insertionSortCmpFunc_api_Tri.r_e (n : Nat) (v0 v1 v2 v3 : V) (H : Heap) : slices_insertionSortCmpFunc_api_Tri.r @bdI (callA C n) n v0 v1 v2 v3 H = E C n 57 [] (argsA 0 [v0, v1, v2, v3]) H (kR C 57) := by
  unfold slices_insertionSortCmpFunc_api_Tri.r
  rewrite [slices_insertionSortCmpFunc_api_Tri.r_l0_lp_e]
  kernel_rfl
noncomputable def slices_insertionSortCmpFunc_api_Tri.rf (bd : B3) (call : FuncId → List V → Heap → Option R) (n : Nat) (a : List V) (H : Heap) : Option R := (match a with | [v0, v1, v2, v3] => slices_insertionSortCmpFunc_api_Tri.r bd call n v0 v1 v2 v3 H | a => E C n 57 [] (argsA 0 a) H (kR C 57))
theorem slices_insertionSortCmpFunc_api_Tri.rf_b (n : Nat) (a : List V) (H : Heap) : (match a with | [v0, v1, v2, v3] => slices_insertionSortCmpFunc_api_Tri.r @bdI (callA C n) n v0 v1 v2 v3 H | a => E C n 57 [] (argsA 0 a) H (kR C 57)) = E C n 57 [] (argsA 0 a) H (kR C 57) := by
  split
  · exact slices_insertionSortCmpFunc_api_Tri.r_e n _ _ _ _ H
  · rfl
theorem slices_insertionSortCmpFunc_api_Tri.rf_e (n : Nat) (a : List V) (H : Heap) : slices_insertionSortCmpFunc_api_Tri.rf @bdI (callA C n) n a H = callA C (n + 1) 57 a H := by
  unfold slices_insertionSortCmpFunc_api_Tri.rf
  refine (slices_insertionSortCmpFunc_api_Tri.rf_b n a H).trans ?_
  kernel_rfl
@[irreducible] noncomputable def math_bits_Len64.p0 (n : Nat) (v0 v2 : V) (H : Heap) : Option R := E C n 66 [1, 1] [(0, v0), (2, v2)] H (kR C 66)
@[irreducible] noncomputable def math_bits_Len64.p1 (n : Nat) (v0 v2 : V) (H : Heap) : Option R := E C n 66 [1, 1, 1] [(0, v0), (2, v2)] H (kR C 66)
@[irreducible] noncomputable def math_bits_Len64.p2 (n : Nat) (v0 v2 : V) (H : Heap) : Option R := E C n 66 [1, 1, 1, 1] [(0, v0), (2, v2)] H (kR C 66)
noncomputable def math_bits_Len64.r_p2 (bd : B3) (call : FuncId → List V → Heap → Option R) (n : Nat) (v0 v2 : V) (H : Heap) : Option R :=
 (bd (cvInt .u8 v0) fun t21_1 =>
 (bd (ixStr (.str [0, 1, 2, 2, 3, 3, 3, 3, 4, 4, 4, 4, 4, 4, 4, 4, 5, 5, 5, 5, 5, 5, 5, 5, 5, 5, 5, 5, 5, 5, 5, 5, 6, 6, 6, 6, 6, 6, 6, 6, 6, 6, 6, 6, 6, 6, 6, 6, 6, 6, 6, 6, 6, 6, 6, 6, 6, 6, 6, 6, 6, 6, 6, 6, 7, 7, 7, 7, 7, 7, 7, 7, 7, 7, 7, 7, 7, 7, 7, 7, 7, 7, 7, 7, 7, 7, 7, 7, 7, 7, 7, 7, 7, 7, 7, 7, 7, 7, 7, 7, 7, 7, 7, 7, 7, 7, 7, 7, 7, 7, 7, 7, 7, 7, 7, 7, 7, 7, 7, 7, 7, 7, 7, 7, 7, 7, 7, 7, 8, 8, 8, 8, 8, 8, 8, 8, 8, 8, 8, 8, 8, 8, 8, 8, 8, 8, 8, 8, 8, 8, 8, 8, 8, 8, 8, 8, 8, 8, 8, 8, 8, 8, 8, 8, 8, 8, 8, 8, 8, 8, 8, 8, 8, 8, 8, 8, 8, 8, 8, 8, 8, 8, 8, 8, 8, 8, 8, 8, 8, 8, 8, 8, 8, 8, 8, 8, 8, 8, 8, 8, 8, 8, 8, 8, 8, 8, 8, 8, 8, 8, 8, 8, 8, 8, 8, 8, 8, 8, 8, 8, 8, 8, 8, 8, 8, 8, 8, 8, 8, 8, 8, 8, 8, 8, 8, 8, 8, 8, 8, 8, 8, 8, 8, 8, 8, 8, 8, 8, 8, 8, 8, 8, 8, 8, 8, 8]) t21_1) fun t22_2 =>
 (bd (cvInt .i64 t22_2) fun t23_3 =>
 (bd (arA .add v2 t23_3) fun t24_4 =>
 (some (t24_4, H))))))
theorem math_bits_Len64.r_p2_e (n : Nat) : math_bits_Len64.r_p2 @bdI (callA C n) n = math_bits_Len64.p2 n := by
  funext v0 v2 H
  unfold math_bits_Len64.r_p2
  kernel_rfl
noncomputable def math_bits_Len64.r_p1 (bd : B3) (call : FuncId → List V → Heap → Option R) (n : Nat) (v0 v2 : V) (H : Heap) : Option R :=
 (bd (arA .geq v0 (.int .u64 256)) fun t14_1 =>
 (bd (asB t14_1) fun b2 =>
 if b2 = true then
 (bd (shA .shr v0 (.int .u64 8)) fun t16_3 =>
 (bd (arA .add v2 (.int .i64 8)) fun t18_4 =>
 (math_bits_Len64.r_p2 bd call n t16_3 t18_4 H)))
 else
 (math_bits_Len64.r_p2 bd call n v0 v2 H)))
theorem math_bits_Len64.r_p1_e (n : Nat) : math_bits_Len64.r_p1 @bdI (callA C n) n = math_bits_Len64.p1 n := by
  funext v0 v2 H
  unfold math_bits_Len64.r_p1
  rewrite [math_bits_Len64.r_p2_e]
  kernel_rfl
noncomputable def math_bits_Len64.r_p0 (bd : B3) (call : FuncId → List V → Heap → Option R) (n : Nat) (v0 v2 : V) (H : Heap) : Option R :=
 (bd (arA .geq v0 (.int .u64 65536)) fun t8_1 =>
 (bd (asB t8_1) fun b2 =>
 if b2 = true then
 (bd (shA .shr v0 (.int .u64 16)) fun t10_3 =>
 (bd (arA .add v2 (.int .i64 16)) fun t12_4 =>
 (math_bits_Len64.r_p1 bd call n t10_3 t12_4 H)))
 else
 (math_bits_Len64.r_p1 bd call n v0 v2 H)))
theorem math_bits_Len64.r_p0_e (n : Nat) : math_bits_Len64.r_p0 @bdI (callA C n) n = math_bits_Len64.p0 n := by
  funext v0 v2 H
  unfold math_bits_Len64.r_p0
  rewrite [math_bits_Len64.r_p1_e]
  kernel_rfl
noncomputable def math_bits_Len64.r (bd : B3) (call : FuncId → List V → Heap → Option R) (n : Nat) (v0 : V) (H : Heap) : Option R :=
 (bd (arA .geq v0 (.int .u64 4294967296)) fun t4_1 =>
 (bd (asB t4_1) fun b2 =>
 if b2 = true then
 (bd (shA .shr v0 (.int .u64 32)) fun t6_3 =>
 (math_bits_Len64.r_p0 bd call n t6_3 (.int .i64 32) H))
 else
 (math_bits_Len64.r_p0 bd call n v0 (.int .i64 0) H)))
theorem math_bits_Len64.r_e (n : Nat) (v0 : V) (H : Heap) : math_bits_Len64.r @bdI (callA C n) n v0 H = E C n 66 [] (argsA 0 [v0]) H (kR C 66) := by
  unfold math_bits_Len64.r
  rewrite [math_bits_Len64.r_p0_e]
  kernel_rfl
noncomputable def math_bits_Len64.rf (bd : B3) (call : FuncId → List V → Heap → Option R) (n : Nat) (a : List V) (H : Heap) : Option R := (match a with | [v0] => math_bits_Len64.r bd call n v0 H | a => E C n 66 [] (argsA 0 a) H (kR C 66))
theorem math_bits_Len64.rf_b (n : Nat) (a : List V) (H : Heap) : (match a with | [v0] => math_bits_Len64.r @bdI (callA C n) n v0 H | a => E C n 66 [] (argsA 0 a) H (kR C 66)) = E C n 66 [] (argsA 0 a) H (kR C 66) := by
  split
  · exact math_bits_Len64.r_e n _ H
  · rfl
theorem math_bits_Len64.rf_e (n : Nat) (a : List V) (H : Heap) : math_bits_Len64.rf @bdI (callA C n) n a H = callA C (n + 1) 66 a H := by
  unfold math_bits_Len64.rf
  refine (math_bits_Len64.rf_b n a H).trans ?_
  kernel_rfl
@[irreducible] noncomputable def slices_insertionSortCmpFunc_api_Place.l0 (n m0 : Nat) (v0 v1 v2 v3 v8 : V) (H : Heap) : Option R := Lp C n 70 [1, 0, 0] m0 [(0, v0), (1, v1), (2, v2), (3, v3), (8, v8)] H (kB 0 (kR C 70))
@[irreducible] noncomputable def slices_insertionSortCmpFunc_api_Place.l1 (n m0 m1 : Nat) (v0 v1 v2 v3 v8 v9 : V) (H : Heap) : Option R := Lp C n 70 [1, 0, 0, 1, 0, 0, 1, 0, 0] m1 [(0, v0), (1, v1), (2, v2), (3, v3), (8, v8), (9, v9)] H (kB 2 (kB 1 (kC C n 70 [1, 0, 0, 1, 1] (kL C n 70 [1, 0, 0] m0 (kB 0 (kR C 70))))))
noncomputable def slices_insertionSortCmpFunc_api_Place.r_l1 (bd : B3) (call : FuncId → List V → Heap → Option R) (n : Nat) (s0 : V → V → V → V → V → Heap → Option R) (s1 : V → V → V → V → V → V → Heap → Option R) (v0 v1 v2 v3 v8 v9 : V) (H : Heap) : Option R :=
 (bd (arA .gtr v9 v1) fun t20_1 =>
 (bd (asB t20_1) fun b2 =>
 if b2 = true then
 (bd (idxS 3 v0 v9) fun t25_3 =>
 (bd (ldN 3 t25_3 (H.more 0)) fun t26_4 =>
 (bd (arA .sub v9 (.int .i64 1)) fun t29_5 =>
 (bd (idxS 3 v0 t29_5) fun t30_6 =>
 (bd (ldN 3 t30_6 (H.more 0)) fun t31_7 =>
 (bd (callV call v3 [t26_4, t31_7] (H.more 0)) fun r8 =>
 (bd (arA .lss r8.1 (.int .i64 0)) fun t33_9 =>
 (bd (asB t33_9) fun b10 =>
 if b10 = true then
 (bd (arA .sub v9 (.int .i64 1)) fun t44_11 =>
 (bd (idxS 3 v0 t44_11) fun t45_12 =>
 (bd (ldN 3 t45_12 (r8.2.more 0)) fun t46_13 =>
 (bd (idxS 3 v0 v9) fun t49_14 =>
 (bd (ldN 3 t49_14 (r8.2.more 0)) fun t50_15 =>
 (bd (idxS 3 v0 v9) fun t51_16 =>
 (bd (stA 3 t51_16 t46_13 (r8.2.more 0)) fun H17 =>
 (bd (arA .sub v9 (.int .i64 1)) fun t41_18 =>
 (bd (idxS 3 v0 t41_18) fun t52_19 =>
 (bd (stA 3 t52_19 t50_15 H17) fun H20 =>
 (bd (arA .sub v9 (.int .i64 1)) fun t36_21 =>
 (s1 v0 v1 v2 v3 v8 t36_21 H20))))))))))))
 else
 (bd (arA .add v8 (.int .i64 1)) fun t16_22 =>
 (s0 v0 v1 v2 v3 t16_22 r8.2))))))))))
 else
 (bd (arA .add v8 (.int .i64 1)) fun t16_23 =>
 (s0 v0 v1 v2 v3 t16_23 (H.more 0)))))
theorem slices_insertionSortCmpFunc_api_Place.r_l1_e (n m0 m1 : Nat) : slices_insertionSortCmpFunc_api_Place.r_l1 @bdI (callA C n) n (slices_insertionSortCmpFunc_api_Place.l0 n m0) (slices_insertionSortCmpFunc_api_Place.l1 n m0 m1) = slices_insertionSortCmpFunc_api_Place.l1 n m0 (m1 + 1) := by
  funext v0 v1 v2 v3 v8 v9 H
  unfold slices_insertionSortCmpFunc_api_Place.r_l1
  kernel_rfl
noncomputable def slices_insertionSortCmpFunc_api_Place.r_l1_lp (bd : B3) (call : FuncId → List V → Heap → Option R) (n : Nat) (s0 : V → V → V → V → V → Heap → Option R) (m : Nat) : V → V → V → V → V → V → Heap → Option R := Nat.rec (motive := fun _ => V → V → V → V → V → V → Heap → Option R) (fun _ _ _ _ _ _ _ => none) (fun _ self => slices_insertionSortCmpFunc_api_Place.r_l1 bd call n s0 self) m
theorem slices_insertionSortCmpFunc_api_Place.r_l1_lp_e (n m0 : Nat) : slices_insertionSortCmpFunc_api_Place.r_l1_lp @bdI (callA C n) n (slices_insertionSortCmpFunc_api_Place.l0 n m0) = slices_insertionSortCmpFunc_api_Place.l1 n m0 := by
  funext m
  induction m with
  | zero => funext v0 v1 v2 v3 v8 v9 H; kernel_rfl
  | succ k ih => exact (congrArg (slices_insertionSortCmpFunc_api_Place.r_l1 @bdI (callA C n) n (slices_insertionSortCmpFunc_api_Place.l0 n m0)) ih).trans (slices_insertionSortCmpFunc_api_Place.r_l1_e n m0 k)
noncomputable def slices_insertionSortCmpFunc_api_Place.r_l0 (bd : B3) (call : FuncId → List V → Heap → Option R) (n : Nat) (s0 : V → V → V → V → V → Heap → Option R) (v0 v1 v2 v3 v8 : V) (H : Heap) : Option R :=
 (bd (arA .lss v8 v2) fun t14_1 =>
 (bd (asB t14_1) fun b2 =>
 if b2 = true then
 (slices_insertionSortCmpFunc_api_Place.r_l1_lp bd call n s0 n v0 v1 v2 v3 v8 v8 H)
 else
 (some (.tuple [], H))))
theorem slices_insertionSortCmpFunc_api_Place.r_l0_e (n m0 : Nat) : slices_insertionSortCmpFunc_api_Place.r_l0 @bdI (callA C n) n (slices_insertionSortCmpFunc_api_Place.l0 n m0) = slices_insertionSortCmpFunc_api_Place.l0 n (m0 + 1) := by
  funext v0 v1 v2 v3 v8 H
  unfold slices_insertionSortCmpFunc_api_Place.r_l0
  rewrite [slices_insertionSortCmpFunc_api_Place.r_l1_lp_e]
  kernel_rfl
noncomputable def slices_insertionSortCmpFunc_api_Place.r_l0_lp (bd : B3) (call : FuncId → List V → Heap → Option R) (n : Nat) (m : Nat) : V → V → V → V → V → Heap → Option R := Nat.rec (motive := fun _ => V → V → V → V → V → Heap → Option R) (fun _ _ _ _ _ _ => none) (fun _ self => slices_insertionSortCmpFunc_api_Place.r_l0 bd call n self) m
theorem slices_insertionSortCmpFunc_api_Place.r_l0_lp_e (n : Nat) : slices_insertionSortCmpFunc_api_Place.r_l0_lp @bdI (callA C n) n = slices_insertionSortCmpFunc_api_Place.l0 n := by
  funext m
  induction m with
  | zero => funext v0 v1 v2 v3 v8 H; kernel_rfl
  | succ k ih => exact (congrArg (slices_insertionSortCmpFunc_api_Place.r_l0 @bdI (callA C n) n) ih).trans (slices_insertionSortCmpFunc_api_Place.r_l0_e n k)
noncomputable def slices_insertionSortCmpFunc_api_Place.r (bd : B3) (call : FuncId → List V → Heap → Option R) (n : Nat) (v0 v1 v2 v3 : V) (H : Heap) : Option R :=
 (bd (arA .add v1 (.int .i64 1)) fun t11_1 =>
 (slices_insertionSortCmpFunc_api_Place.r_l0_lp bd call n n v0 v1 v2 v3 t11_1 H))
theorem slices_insertionSortCmpFunc_api_Place.r_e (n : Nat) (v0 v1 v2 v3 : V) (H : Heap) : slices_insertionSortCmpFunc_api_Place.r @bdI (callA C n) n v0 v1 v2 v3 H = E C n 70 [] (argsA 0 [v0, v1, v2, v3]) H (kR C 70) := by
  unfold slices_insertionSortCmpFunc_api_Place.r
  rewrite [slices_insertionSortCmpFunc_api_Place.r_l0_lp_e]
  kernel_rfl
noncomputable def slices_insertionSortCmpFunc_api_Place.rf (bd : B3) (call : FuncId → List V → Heap → Option R) (n : Nat) (a : List V) (H : Heap) : Option R := (match a with | [v0, v1, v2, v3] => slices_insertionSortCmpFunc_api_Place.r bd call n v0 v1 v2 v3 H | a => E C n 70 [] (argsA 0 a) H (kR C 70))
theorem slices_insertionSortCmpFunc_api_Place.rf_b (n : Nat) (a : List V) (H : Heap) : (match a with | [v0, v1, v2, v3] => slices_insertionSortCmpFunc_api_Place.r @bdI (callA C n) n v0 v1 v2 v3 H | a => E C n 70 [] (argsA 0 a) H (kR C 70)) = E C n 70 [] (argsA 0 a) H (kR C 70) := by
  split
  · exact slices_insertionSortCmpFunc_api_Place.r_e n _ _ _ _ H
  · rfl
theorem slices_insertionSortCmpFunc_api_Place.rf_e (n : Nat) (a : List V) (H : Heap) : slices_insertionSortCmpFunc_api_Place.rf @bdI (callA C n) n a H = callA C (n + 1) 70 a H := by
  unfold slices_insertionSortCmpFunc_api_Place.rf
  refine (slices_insertionSortCmpFunc_api_Place.rf_b n a H).trans ?_
  kernel_rfl
@[irreducible] noncomputable def strings_Builder_Grow.p0 (n : Nat) (v0 v1 : V) (H : Heap) : Option R := E C n 78 [1, 1] [(0, v0), (1, v1)] H (kR C 78)
noncomputable def strings_Builder_Grow.r_p0 (bd : B3) (call : FuncId → List V → Heap → Option R) (n : Nat) (v0 v1 : V) (H : Heap) : Option R :=
 (bd (nilC v0) fun t10_1 =>
 (bd (faA 1 t10_1) fun t11_2 =>
 (bd (ld1 t11_2 (H.more 0)) fun t12_3 =>
 (bd (capSl t12_3) fun t13_4 =>
 (bd (nilC v0) fun t15_5 =>
 (bd (faA 1 t15_5) fun t16_6 =>
 (bd (ld1 t16_6 (H.more 0)) fun t17_7 =>
 (bd (chk (ld1 t16_6 (H.more 0)) t17_7) fun _ =>
 (bd (lenSl t17_7) fun t18_8 =>
 (bd (arA .sub t13_4 t18_8) fun t19_9 =>
 (bd (arA .lss t19_9 v1) fun t21_10 =>
 (bd (asB t21_10) fun b11 =>
 if b11 = true then
 (bd (call 94 [v0, v1] (H.more 0)) fun r12 =>
 (some (.tuple [], r12.2)))
 else
 (some (.tuple [], (H.more 0)))))))))))))))
theorem strings_Builder_Grow.r_p0_e (n : Nat) : strings_Builder_Grow.r_p0 @bdI (callA C n) n = strings_Builder_Grow.p0 n := by
  funext v0 v1 H
  unfold strings_Builder_Grow.r_p0
  kernel_rfl
noncomputable def strings_Builder_Grow.r (bd : B3) (call : FuncId → List V → Heap → Option R) (n : Nat) (v0 v1 : V) (H : Heap) : Option R :=
 (bd (call 52 [v0] H) fun r1 =>
 (bd (arA .lss v1 (.int .i64 0)) fun t7_2 =>
 (bd (asB t7_2) fun b3 =>
 if b3 = true then
 none
 else
 (strings_Builder_Grow.r_p0 bd call n v0 v1 r1.2))))
theorem strings_Builder_Grow.r_e (n : Nat) (v0 v1 : V) (H : Heap) : strings_Builder_Grow.r @bdI (callA C n) n v0 v1 H = E C n 78 [] (argsA 0 [v0, v1]) H (kR C 78) := by
  unfold strings_Builder_Grow.r
  rewrite [strings_Builder_Grow.r_p0_e]
  kernel_rfl
noncomputable def strings_Builder_Grow.rf (bd : B3) (call : FuncId → List V → Heap → Option R) (n : Nat) (a : List V) (H : Heap) : Option R := (match a with | [v0, v1] => strings_Builder_Grow.r bd call n v0 v1 H | a => E C n 78 [] (argsA 0 a) H (kR C 78))
theorem strings_Builder_Grow.rf_b (n : Nat) (a : List V) (H : Heap) : (match a with | [v0, v1] => strings_Builder_Grow.r @bdI (callA C n) n v0 v1 H | a => E C n 78 [] (argsA 0 a) H (kR C 78)) = E C n 78 [] (argsA 0 a) H (kR C 78) := by
  split
  · exact strings_Builder_Grow.r_e n _ _ H
  · rfl
theorem strings_Builder_Grow.rf_e (n : Nat) (a : List V) (H : Heap) : strings_Builder_Grow.rf @bdI (callA C n) n a H = callA C (n + 1) 78 a H := by
  unfold strings_Builder_Grow.rf
  refine (strings_Builder_Grow.rf_b n a H).trans ?_
  kernel_rfl
noncomputable def strings_Builder_grow.r (bd : B3) (call : FuncId → List V → Heap → Option R) (n : Nat) (v0 v1 : V) (H : Heap) : Option R :=
 (bd (nilC v0) fun t6_1 =>
 (bd (faA 1 t6_1) fun t7_2 =>
 (bd (ld1 t7_2 (H.more 0)) fun t8_3 =>
 (bd (capSl t8_3) fun t9_4 =>
 (bd (arA .mul (.int .i64 2) t9_4) fun t10_5 =>
 (bd (arA .add t10_5 v1) fun t12_6 =>
 (bd (call 116 [t12_6] (H.more 0)) fun r7 =>
 (bd (nilC v0) fun t15_8 =>
 (bd (faA 1 t15_8) fun t16_9 =>
 (bd (ld1 t16_9 r7.2) fun t17_10 =>
 (bd (chk (ld1 t16_9 (H.more 0)) t17_10) fun _ =>
 (bd (chk (ld1 t16_9 (H.more 0)) t17_10) fun _ =>
 (bd (lenSl t17_10) fun t18_11 =>
 (bd (slSl 1 r7.1 none (some t18_11)) fun t19_12 =>
 (bd (nilC v0) fun t22_13 =>
 (bd (faA 1 t22_13) fun t23_14 =>
 (bd (ld1 t23_14 r7.2) fun t24_15 =>
 (bd (copyA 1 t19_12 t24_15 r7.2) fun p16 =>
 (bd (nilC v0) fun t28_17 =>
 (bd (faA 1 t28_17) fun t29_18 =>
 (bd (stA 1 t29_18 t19_12 p16.2) fun H19 =>
 (some (.tuple [], H19)))))))))))))))))))))))
theorem strings_Builder_grow.r_e (n : Nat) (v0 v1 : V) (H : Heap) : strings_Builder_grow.r @bdI (callA C n) n v0 v1 H = E C n 94 [] (argsA 0 [v0, v1]) H (kR C 94) := by
  unfold strings_Builder_grow.r
  kernel_rfl
noncomputable def strings_Builder_grow.rf (bd : B3) (call : FuncId → List V → Heap → Option R) (n : Nat) (a : List V) (H : Heap) : Option R := (match a with | [v0, v1] => strings_Builder_grow.r bd call n v0 v1 H | a => E C n 94 [] (argsA 0 a) H (kR C 94))
theorem strings_Builder_grow.rf_b (n : Nat) (a : List V) (H : Heap) : (match a with | [v0, v1] => strings_Builder_grow.r @bdI (callA C n) n v0 v1 H | a => E C n 94 [] (argsA 0 a) H (kR C 94)) = E C n 94 [] (argsA 0 a) H (kR C 94) := by
  split
  · exact strings_Builder_grow.r_e n _ _ H
  · rfl
theorem strings_Builder_grow.rf_e (n : Nat) (a : List V) (H : Heap) : strings_Builder_grow.rf @bdI (callA C n) n a H = callA C (n + 1) 94 a H := by
  unfold strings_Builder_grow.rf
  refine (strings_Builder_grow.rf_b n a H).trans ?_
  kernel_rfl
noncomputable def internal_strconv_small.r (bd : B3) (call : FuncId → List V → Heap → Option R) (n : Nat) (v0 : V) (H : Heap) : Option R :=
 (bd (arA .lss v0 (.int .i64 10)) fun t4_1 =>
 (bd (asB t4_1) fun b2 =>
 if b2 = true then
 (bd (arA .add v0 (.int .i64 1)) fun t7_3 =>
 (bd (slStr (.str [48, 49, 50, 51, 52, 53, 54, 55, 56, 57, 97, 98, 99, 100, 101, 102, 103, 104, 105, 106, 107, 108, 109, 110, 111, 112, 113, 114, 115, 116, 117, 118, 119, 120, 121, 122]) (some v0) (some t7_3)) fun t8_4 =>
 (some (t8_4, H))))
 else
 (bd (arA .mul v0 (.int .i64 2)) fun t10_5 =>
 (bd (arA .mul v0 (.int .i64 2)) fun t12_6 =>
 (bd (arA .add t12_6 (.int .i64 2)) fun t13_7 =>
 (bd (slStr (.str [48, 48, 48, 49, 48, 50, 48, 51, 48, 52, 48, 53, 48, 54, 48, 55, 48, 56, 48, 57, 49, 48, 49, 49, 49, 50, 49, 51, 49, 52, 49, 53, 49, 54, 49, 55, 49, 56, 49, 57, 50, 48, 50, 49, 50, 50, 50, 51, 50, 52, 50, 53, 50, 54, 50, 55, 50, 56, 50, 57, 51, 48, 51, 49, 51, 50, 51, 51, 51, 52, 51, 53, 51, 54, 51, 55, 51, 56, 51, 57, 52, 48, 52, 49, 52, 50, 52, 51, 52, 52, 52, 53, 52, 54, 52, 55, 52, 56, 52, 57, 53, 48, 53, 49, 53, 50, 53, 51, 53, 52, 53, 53, 53, 54, 53, 55, 53, 56, 53, 57, 54, 48, 54, 49, 54, 50, 54, 51, 54, 52, 54, 53, 54, 54, 54, 55, 54, 56, 54, 57, 55, 48, 55, 49, 55, 50, 55, 51, 55, 52, 55, 53, 55, 54, 55, 55, 55, 56, 55, 57, 56, 48, 56, 49, 56, 50, 56, 51, 56, 52, 56, 53, 56, 54, 56, 55, 56, 56, 56, 57, 57, 48, 57, 49, 57, 50, 57, 51, 57, 52, 57, 53, 57, 54, 57, 55, 57, 56, 57, 57]) (some t10_5) (some t13_7)) fun t14_8 =>
 (some (t14_8, H))))))))
theorem internal_strconv_small.r_e (n : Nat) (v0 : V) (H : Heap) : internal_strconv_small.r @bdI (callA C n) n v0 H = E C n 95 [] (argsA 0 [v0]) H (kR C 95) := by
  unfold internal_strconv_small.r
  kernel_rfl
noncomputable def internal_strconv_small.rf (bd : B3) (call : FuncId → List V → Heap → Option R) (n : Nat) (a : List V) (H : Heap) : Option R := (match a with | [v0] => internal_strconv_small.r bd call n v0 H | a => E C n 95 [] (argsA 0 a) H (kR C 95))
theorem internal_strconv_small.rf_b (n : Nat) (a : List V) (H : Heap) : (match a with | [v0] => internal_strconv_small.r @bdI (callA C n) n v0 H | a => E C n 95 [] (argsA 0 a) H (kR C 95)) = E C n 95 [] (argsA 0 a) H (kR C 95) := by
  split
  · exact internal_strconv_small.r_e n _ H
  · rfl
theorem internal_strconv_small.rf_e (n : Nat) (a : List V) (H : Heap) : internal_strconv_small.rf @bdI (callA C n) n a H = callA C (n + 1) 95 a H := by
  unfold internal_strconv_small.rf
  refine (internal_strconv_small.rf_b n a H).trans ?_
  kernel_rfl
end Go.AM.L
end
section
set_option linter.unusedVariables false
set_option linter.unusedSimpArgs false
set_option maxRecDepth 1000000
namespace Go.AM.L
theorem fns1_0 : tabList0.all (fun p => okFun P p.1) = true := by kernel_rfl
theorem fns1_1 : tabList1.all (fun p => okFun P p.1) = true := by kernel_rfl
theorem fns1_2 : tabList2.all (fun p => okFun P p.1) = true := by kernel_rfl
theorem fns1_3 : tabList3.all (fun p => okFun P p.1) = true := by kernel_rfl
theorem fns1 : tabList.all (fun p => okFun P p.1) = true := by simp only [tabList, List.all_append, fns1_0, fns1_1, fns1_2, fns1_3, Bool.and_self]
theorem fns : ∀ f tab, C.tabs f = some tab → okFun C.P f = true := fun f tab h => List.all_eq_true.1 fns1 (f, tab) (look_mem h)
set_option maxHeartbeats 8000000 in
theorem exts : ∀ p ∈ extList, ExtSound C.P p.1 p.2 ∧ ExtFrame p.2 := by
  intro p hp
  simp only [extList, List.mem_cons, List.not_mem_nil, or_false] at hp
  rcases hp with rfl | rfl | rfl | rfl
  · exact ⟨xs_id (Go.Proofs.Tryz.func80) (by kernel_rfl) (by kernel_rfl) (by kernel_rfl) (by kernel_rfl), extId_frame⟩
  · exact ⟨xs_mk (ps := #[3]) (t := 99) (e := 5) (Go.Proofs.Tryz.func116) (by kernel_rfl) (by kernel_rfl) (by kernel_rfl) (by kernel_rfl) (by kernel_rfl), extMk_frame _⟩
  · exact ⟨xs_add64 (Go.Proofs.Tryz.func153) (by kernel_rfl) (by kernel_rfl) (by kernel_rfl) (by kernel_rfl), extAdd64_frame⟩
  · exact ⟨xs_sub64 (Go.Proofs.Tryz.func162) (by kernel_rfl) (by kernel_rfl) (by kernel_rfl) (by kernel_rfl), extSub64_frame⟩
theorem mixed : C.P.follows .mixedOrders = true := (show P.follows .mixedOrders = true from seat_mixed)
theorem ext_mem {f : Nat} {g : List V → Heap → Option R} (h : C.ext f = some g) : (f, g) ∈ extList := look_mem (l := extList) (show extList.lookup f = some g from h)
theorem ok : C.Ok := { mixed := mixed, fns := fns, ext := fun f g h => exts (f, g) (ext_mem h), okc := fun _ _ h => h }
end Go.AM.L
end
section
set_option linter.unusedVariables false
set_option linter.unusedSimpArgs false
set_option maxRecDepth 1000000
namespace Go.AM.L
noncomputable def d0 (bd : B3) (call : FuncId → List V → Heap → Option R) (n : Nat) (f : FuncId) (a : List V) (H : Heap) : Option R := (bif Nat.beq f 9 then law25_lives.rf bd call n a H else bodyA C (fcall call) n f a H)
theorem d0_e (n : Nat) (f : FuncId) (a : List V) (H : Heap) : d0 @bdI (callA C n) n f a H = callA C (n + 1) f a H := by
  unfold d0
  exact (by
  cases h : Nat.beq f 9
  · exact bodyA_e
  · have h := Nat.eq_of_beq_eq_true h; subst h; exact law25_lives.rf_e n a H)
noncomputable def d1 (bd : B3) (call : FuncId → List V → Heap → Option R) (n : Nat) (f : FuncId) (a : List V) (H : Heap) : Option R := (bif Nat.beq f 12 then pdt_Open.rf bd call n a H else bodyA C (fcall call) n f a H)
theorem d1_e (n : Nat) (f : FuncId) (a : List V) (H : Heap) : d1 @bdI (callA C n) n f a H = callA C (n + 1) f a H := by
  unfold d1
  exact (by
  cases h : Nat.beq f 12
  · exact bodyA_e
  · have h := Nat.eq_of_beq_eq_true h; subst h; exact pdt_Open.rf_e n a H)
noncomputable def d2 (bd : B3) (call : FuncId → List V → Heap → Option R) (n : Nat) (f : FuncId) (a : List V) (H : Heap) : Option R := (bif Nat.ble f 9 then d0 bd call n f a H else d1 bd call n f a H)
theorem d2_e (n : Nat) (f : FuncId) (a : List V) (H : Heap) : d2 @bdI (callA C n) n f a H = callA C (n + 1) f a H := by
  unfold d2
  exact (by
  cases h : Nat.ble f 9
  · exact d1_e n f a H
  · exact d0_e n f a H)
noncomputable def d3 (bd : B3) (call : FuncId → List V → Heap → Option R) (n : Nat) (f : FuncId) (a : List V) (H : Heap) : Option R := (bif Nat.beq f 13 then sheet_Export.rf bd call n a H else bodyA C (fcall call) n f a H)
theorem d3_e (n : Nat) (f : FuncId) (a : List V) (H : Heap) : d3 @bdI (callA C n) n f a H = callA C (n + 1) f a H := by
  unfold d3
  exact (by
  cases h : Nat.beq f 13
  · exact bodyA_e
  · have h := Nat.eq_of_beq_eq_true h; subst h; exact sheet_Export.rf_e n a H)
noncomputable def d4 (bd : B3) (call : FuncId → List V → Heap → Option R) (n : Nat) (f : FuncId) (a : List V) (H : Heap) : Option R := (bif Nat.beq f 14 then sheet_good.rf bd call n a H else bodyA C (fcall call) n f a H)
theorem d4_e (n : Nat) (f : FuncId) (a : List V) (H : Heap) : d4 @bdI (callA C n) n f a H = callA C (n + 1) f a H := by
  unfold d4
  exact (by
  cases h : Nat.beq f 14
  · exact bodyA_e
  · have h := Nat.eq_of_beq_eq_true h; subst h; exact sheet_good.rf_e n a H)
noncomputable def d5 (bd : B3) (call : FuncId → List V → Heap → Option R) (n : Nat) (f : FuncId) (a : List V) (H : Heap) : Option R := (bif Nat.ble f 13 then d3 bd call n f a H else d4 bd call n f a H)
theorem d5_e (n : Nat) (f : FuncId) (a : List V) (H : Heap) : d5 @bdI (callA C n) n f a H = callA C (n + 1) f a H := by
  unfold d5
  exact (by
  cases h : Nat.ble f 13
  · exact d4_e n f a H
  · exact d3_e n f a H)
noncomputable def d6 (bd : B3) (call : FuncId → List V → Heap → Option R) (n : Nat) (f : FuncId) (a : List V) (H : Heap) : Option R := (bif Nat.ble f 12 then d2 bd call n f a H else d5 bd call n f a H)
theorem d6_e (n : Nat) (f : FuncId) (a : List V) (H : Heap) : d6 @bdI (callA C n) n f a H = callA C (n + 1) f a H := by
  unfold d6
  exact (by
  cases h : Nat.ble f 12
  · exact d5_e n f a H
  · exact d2_e n f a H)
noncomputable def d7 (bd : B3) (call : FuncId → List V → Heap → Option R) (n : Nat) (f : FuncId) (a : List V) (H : Heap) : Option R := (bif Nat.beq f 15 then sheet_tiles.rf bd call n a H else bodyA C (fcall call) n f a H)
theorem d7_e (n : Nat) (f : FuncId) (a : List V) (H : Heap) : d7 @bdI (callA C n) n f a H = callA C (n + 1) f a H := by
  unfold d7
  exact (by
  cases h : Nat.beq f 15
  · exact bodyA_e
  · have h := Nat.eq_of_beq_eq_true h; subst h; exact sheet_tiles.rf_e n a H)
noncomputable def d8 (bd : B3) (call : FuncId → List V → Heap → Option R) (n : Nat) (f : FuncId) (a : List V) (H : Heap) : Option R := (bif Nat.beq f 17 then pdt_Engine_clear.rf bd call n a H else bodyA C (fcall call) n f a H)
theorem d8_e (n : Nat) (f : FuncId) (a : List V) (H : Heap) : d8 @bdI (callA C n) n f a H = callA C (n + 1) f a H := by
  unfold d8
  exact (by
  cases h : Nat.beq f 17
  · exact bodyA_e
  · have h := Nat.eq_of_beq_eq_true h; subst h; exact pdt_Engine_clear.rf_e n a H)
noncomputable def d9 (bd : B3) (call : FuncId → List V → Heap → Option R) (n : Nat) (f : FuncId) (a : List V) (H : Heap) : Option R := (bif Nat.ble f 15 then d7 bd call n f a H else d8 bd call n f a H)
theorem d9_e (n : Nat) (f : FuncId) (a : List V) (H : Heap) : d9 @bdI (callA C n) n f a H = callA C (n + 1) f a H := by
  unfold d9
  exact (by
  cases h : Nat.ble f 15
  · exact d8_e n f a H
  · exact d7_e n f a H)
noncomputable def d10 (bd : B3) (call : FuncId → List V → Heap → Option R) (n : Nat) (f : FuncId) (a : List V) (H : Heap) : Option R := (bif Nat.beq f 18 then unfold_Faces.rf bd call n a H else bodyA C (fcall call) n f a H)
theorem d10_e (n : Nat) (f : FuncId) (a : List V) (H : Heap) : d10 @bdI (callA C n) n f a H = callA C (n + 1) f a H := by
  unfold d10
  exact (by
  cases h : Nat.beq f 18
  · exact bodyA_e
  · have h := Nat.eq_of_beq_eq_true h; subst h; exact unfold_Faces.rf_e n a H)
noncomputable def d11 (bd : B3) (call : FuncId → List V → Heap → Option R) (n : Nat) (f : FuncId) (a : List V) (H : Heap) : Option R := (bif Nat.beq f 19 then pdt_Engine_Dump.rf bd call n a H else bodyA C (fcall call) n f a H)
theorem d11_e (n : Nat) (f : FuncId) (a : List V) (H : Heap) : d11 @bdI (callA C n) n f a H = callA C (n + 1) f a H := by
  unfold d11
  exact (by
  cases h : Nat.beq f 19
  · exact bodyA_e
  · have h := Nat.eq_of_beq_eq_true h; subst h; exact pdt_Engine_Dump.rf_e n a H)
noncomputable def d12 (bd : B3) (call : FuncId → List V → Heap → Option R) (n : Nat) (f : FuncId) (a : List V) (H : Heap) : Option R := (bif Nat.beq f 20 then pdt_Engine_N.rf bd call n a H else bodyA C (fcall call) n f a H)
theorem d12_e (n : Nat) (f : FuncId) (a : List V) (H : Heap) : d12 @bdI (callA C n) n f a H = callA C (n + 1) f a H := by
  unfold d12
  exact (by
  cases h : Nat.beq f 20
  · exact bodyA_e
  · have h := Nat.eq_of_beq_eq_true h; subst h; exact pdt_Engine_N.rf_e n a H)
noncomputable def d13 (bd : B3) (call : FuncId → List V → Heap → Option R) (n : Nat) (f : FuncId) (a : List V) (H : Heap) : Option R := (bif Nat.ble f 19 then d11 bd call n f a H else d12 bd call n f a H)
theorem d13_e (n : Nat) (f : FuncId) (a : List V) (H : Heap) : d13 @bdI (callA C n) n f a H = callA C (n + 1) f a H := by
  unfold d13
  exact (by
  cases h : Nat.ble f 19
  · exact d12_e n f a H
  · exact d11_e n f a H)
noncomputable def d14 (bd : B3) (call : FuncId → List V → Heap → Option R) (n : Nat) (f : FuncId) (a : List V) (H : Heap) : Option R := (bif Nat.ble f 18 then d10 bd call n f a H else d13 bd call n f a H)
theorem d14_e (n : Nat) (f : FuncId) (a : List V) (H : Heap) : d14 @bdI (callA C n) n f a H = callA C (n + 1) f a H := by
  unfold d14
  exact (by
  cases h : Nat.ble f 18
  · exact d13_e n f a H
  · exact d10_e n f a H)
noncomputable def d15 (bd : B3) (call : FuncId → List V → Heap → Option R) (n : Nat) (f : FuncId) (a : List V) (H : Heap) : Option R := (bif Nat.ble f 17 then d9 bd call n f a H else d14 bd call n f a H)
theorem d15_e (n : Nat) (f : FuncId) (a : List V) (H : Heap) : d15 @bdI (callA C n) n f a H = callA C (n + 1) f a H := by
  unfold d15
  exact (by
  cases h : Nat.ble f 17
  · exact d14_e n f a H
  · exact d9_e n f a H)
noncomputable def d16 (bd : B3) (call : FuncId → List V → Heap → Option R) (n : Nat) (f : FuncId) (a : List V) (H : Heap) : Option R := (bif Nat.ble f 14 then d6 bd call n f a H else d15 bd call n f a H)
theorem d16_e (n : Nat) (f : FuncId) (a : List V) (H : Heap) : d16 @bdI (callA C n) n f a H = callA C (n + 1) f a H := by
  unfold d16
  exact (by
  cases h : Nat.ble f 14
  · exact d15_e n f a H
  · exact d6_e n f a H)
noncomputable def d17 (bd : B3) (call : FuncId → List V → Heap → Option R) (n : Nat) (f : FuncId) (a : List V) (H : Heap) : Option R := (bif Nat.beq f 21 then pdt_Engine_Sites.rf bd call n a H else bodyA C (fcall call) n f a H)
theorem d17_e (n : Nat) (f : FuncId) (a : List V) (H : Heap) : d17 @bdI (callA C n) n f a H = callA C (n + 1) f a H := by
  unfold d17
  exact (by
  cases h : Nat.beq f 21
  · exact bodyA_e
  · have h := Nat.eq_of_beq_eq_true h; subst h; exact pdt_Engine_Sites.rf_e n a H)
noncomputable def d18 (bd : B3) (call : FuncId → List V → Heap → Option R) (n : Nat) (f : FuncId) (a : List V) (H : Heap) : Option R := (bif Nat.beq f 22 then file_Show.rf bd call n a H else bodyA C (fcall call) n f a H)
theorem d18_e (n : Nat) (f : FuncId) (a : List V) (H : Heap) : d18 @bdI (callA C n) n f a H = callA C (n + 1) f a H := by
  unfold d18
  exact (by
  cases h : Nat.beq f 22
  · exact bodyA_e
  · have h := Nat.eq_of_beq_eq_true h; subst h; exact file_Show.rf_e n a H)
noncomputable def d19 (bd : B3) (call : FuncId → List V → Heap → Option R) (n : Nat) (f : FuncId) (a : List V) (H : Heap) : Option R := (bif Nat.ble f 21 then d17 bd call n f a H else d18 bd call n f a H)
theorem d19_e (n : Nat) (f : FuncId) (a : List V) (H : Heap) : d19 @bdI (callA C n) n f a H = callA C (n + 1) f a H := by
  unfold d19
  exact (by
  cases h : Nat.ble f 21
  · exact d18_e n f a H
  · exact d17_e n f a H)
noncomputable def d20 (bd : B3) (call : FuncId → List V → Heap → Option R) (n : Nat) (f : FuncId) (a : List V) (H : Heap) : Option R := (bif Nat.beq f 23 then sheet_tiles_1.rf bd call n a H else bodyA C (fcall call) n f a H)
theorem d20_e (n : Nat) (f : FuncId) (a : List V) (H : Heap) : d20 @bdI (callA C n) n f a H = callA C (n + 1) f a H := by
  unfold d20
  exact (by
  cases h : Nat.beq f 23
  · exact bodyA_e
  · have h := Nat.eq_of_beq_eq_true h; subst h; exact sheet_tiles_1.rf_e n a H)
noncomputable def d21 (bd : B3) (call : FuncId → List V → Heap → Option R) (n : Nat) (f : FuncId) (a : List V) (H : Heap) : Option R := (bif Nat.beq f 24 then pdt_lay.rf bd call n a H else bodyA C (fcall call) n f a H)
theorem d21_e (n : Nat) (f : FuncId) (a : List V) (H : Heap) : d21 @bdI (callA C n) n f a H = callA C (n + 1) f a H := by
  unfold d21
  exact (by
  cases h : Nat.beq f 24
  · exact bodyA_e
  · have h := Nat.eq_of_beq_eq_true h; subst h; exact pdt_lay.rf_e n a H)
noncomputable def d22 (bd : B3) (call : FuncId → List V → Heap → Option R) (n : Nat) (f : FuncId) (a : List V) (H : Heap) : Option R := (bif Nat.ble f 23 then d20 bd call n f a H else d21 bd call n f a H)
theorem d22_e (n : Nat) (f : FuncId) (a : List V) (H : Heap) : d22 @bdI (callA C n) n f a H = callA C (n + 1) f a H := by
  unfold d22
  exact (by
  cases h : Nat.ble f 23
  · exact d21_e n f a H
  · exact d20_e n f a H)
noncomputable def d23 (bd : B3) (call : FuncId → List V → Heap → Option R) (n : Nat) (f : FuncId) (a : List V) (H : Heap) : Option R := (bif Nat.ble f 22 then d19 bd call n f a H else d22 bd call n f a H)
theorem d23_e (n : Nat) (f : FuncId) (a : List V) (H : Heap) : d23 @bdI (callA C n) n f a H = callA C (n + 1) f a H := by
  unfold d23
  exact (by
  cases h : Nat.ble f 22
  · exact d22_e n f a H
  · exact d19_e n f a H)
noncomputable def d24 (bd : B3) (call : FuncId → List V → Heap → Option R) (n : Nat) (f : FuncId) (a : List V) (H : Heap) : Option R := (bif Nat.beq f 25 then mesh_New.rf bd call n a H else bodyA C (fcall call) n f a H)
theorem d24_e (n : Nat) (f : FuncId) (a : List V) (H : Heap) : d24 @bdI (callA C n) n f a H = callA C (n + 1) f a H := by
  unfold d24
  exact (by
  cases h : Nat.beq f 25
  · exact bodyA_e
  · have h := Nat.eq_of_beq_eq_true h; subst h; exact mesh_New.rf_e n a H)
noncomputable def d25 (bd : B3) (call : FuncId → List V → Heap → Option R) (n : Nat) (f : FuncId) (a : List V) (H : Heap) : Option R := (bif Nat.beq f 28 then slices_SortFunc_api_Tri_api_Tri.rf bd call n a H else bodyA C (fcall call) n f a H)
theorem d25_e (n : Nat) (f : FuncId) (a : List V) (H : Heap) : d25 @bdI (callA C n) n f a H = callA C (n + 1) f a H := by
  unfold d25
  exact (by
  cases h : Nat.beq f 28
  · exact bodyA_e
  · have h := Nat.eq_of_beq_eq_true h; subst h; exact slices_SortFunc_api_Tri_api_Tri.rf_e n a H)
noncomputable def d26 (bd : B3) (call : FuncId → List V → Heap → Option R) (n : Nat) (f : FuncId) (a : List V) (H : Heap) : Option R := (bif Nat.ble f 25 then d24 bd call n f a H else d25 bd call n f a H)
theorem d26_e (n : Nat) (f : FuncId) (a : List V) (H : Heap) : d26 @bdI (callA C n) n f a H = callA C (n + 1) f a H := by
  unfold d26
  exact (by
  cases h : Nat.ble f 25
  · exact d25_e n f a H
  · exact d24_e n f a H)
noncomputable def d27 (bd : B3) (call : FuncId → List V → Heap → Option R) (n : Nat) (f : FuncId) (a : List V) (H : Heap) : Option R := (bif Nat.beq f 30 then slices_Compact_api_Tri_api_Tri.rf bd call n a H else bodyA C (fcall call) n f a H)
theorem d27_e (n : Nat) (f : FuncId) (a : List V) (H : Heap) : d27 @bdI (callA C n) n f a H = callA C (n + 1) f a H := by
  unfold d27
  exact (by
  cases h : Nat.beq f 30
  · exact bodyA_e
  · have h := Nat.eq_of_beq_eq_true h; subst h; exact slices_Compact_api_Tri_api_Tri.rf_e n a H)
noncomputable def d28 (bd : B3) (call : FuncId → List V → Heap → Option R) (n : Nat) (f : FuncId) (a : List V) (H : Heap) : Option R := (bif Nat.beq f 31 then mesh_Mesh_Dump.rf bd call n a H else bodyA C (fcall call) n f a H)
theorem d28_e (n : Nat) (f : FuncId) (a : List V) (H : Heap) : d28 @bdI (callA C n) n f a H = callA C (n + 1) f a H := by
  unfold d28
  exact (by
  cases h : Nat.beq f 31
  · exact bodyA_e
  · have h := Nat.eq_of_beq_eq_true h; subst h; exact mesh_Mesh_Dump.rf_e n a H)
noncomputable def d29 (bd : B3) (call : FuncId → List V → Heap → Option R) (n : Nat) (f : FuncId) (a : List V) (H : Heap) : Option R := (bif Nat.beq f 32 then slices_SortFunc_api_Place_api_Place.rf bd call n a H else bodyA C (fcall call) n f a H)
theorem d29_e (n : Nat) (f : FuncId) (a : List V) (H : Heap) : d29 @bdI (callA C n) n f a H = callA C (n + 1) f a H := by
  unfold d29
  exact (by
  cases h : Nat.beq f 32
  · exact bodyA_e
  · have h := Nat.eq_of_beq_eq_true h; subst h; exact slices_SortFunc_api_Place_api_Place.rf_e n a H)
noncomputable def d30 (bd : B3) (call : FuncId → List V → Heap → Option R) (n : Nat) (f : FuncId) (a : List V) (H : Heap) : Option R := (bif Nat.ble f 31 then d28 bd call n f a H else d29 bd call n f a H)
theorem d30_e (n : Nat) (f : FuncId) (a : List V) (H : Heap) : d30 @bdI (callA C n) n f a H = callA C (n + 1) f a H := by
  unfold d30
  exact (by
  cases h : Nat.ble f 31
  · exact d29_e n f a H
  · exact d28_e n f a H)
noncomputable def d31 (bd : B3) (call : FuncId → List V → Heap → Option R) (n : Nat) (f : FuncId) (a : List V) (H : Heap) : Option R := (bif Nat.ble f 30 then d27 bd call n f a H else d30 bd call n f a H)
theorem d31_e (n : Nat) (f : FuncId) (a : List V) (H : Heap) : d31 @bdI (callA C n) n f a H = callA C (n + 1) f a H := by
  unfold d31
  exact (by
  cases h : Nat.ble f 30
  · exact d30_e n f a H
  · exact d27_e n f a H)
noncomputable def d32 (bd : B3) (call : FuncId → List V → Heap → Option R) (n : Nat) (f : FuncId) (a : List V) (H : Heap) : Option R := (bif Nat.ble f 28 then d26 bd call n f a H else d31 bd call n f a H)
theorem d32_e (n : Nat) (f : FuncId) (a : List V) (H : Heap) : d32 @bdI (callA C n) n f a H = callA C (n + 1) f a H := by
  unfold d32
  exact (by
  cases h : Nat.ble f 28
  · exact d31_e n f a H
  · exact d26_e n f a H)
noncomputable def d33 (bd : B3) (call : FuncId → List V → Heap → Option R) (n : Nat) (f : FuncId) (a : List V) (H : Heap) : Option R := (bif Nat.ble f 24 then d23 bd call n f a H else d32 bd call n f a H)
theorem d33_e (n : Nat) (f : FuncId) (a : List V) (H : Heap) : d33 @bdI (callA C n) n f a H = callA C (n + 1) f a H := by
  unfold d33
  exact (by
  cases h : Nat.ble f 24
  · exact d32_e n f a H
  · exact d23_e n f a H)
noncomputable def d34 (bd : B3) (call : FuncId → List V → Heap → Option R) (n : Nat) (f : FuncId) (a : List V) (H : Heap) : Option R := (bif Nat.ble f 20 then d16 bd call n f a H else d33 bd call n f a H)
theorem d34_e (n : Nat) (f : FuncId) (a : List V) (H : Heap) : d34 @bdI (callA C n) n f a H = callA C (n + 1) f a H := by
  unfold d34
  exact (by
  cases h : Nat.ble f 20
  · exact d33_e n f a H
  · exact d16_e n f a H)
noncomputable def d35 (bd : B3) (call : FuncId → List V → Heap → Option R) (n : Nat) (f : FuncId) (a : List V) (H : Heap) : Option R := (bif Nat.beq f 34 then file_writer_line.rf bd call n a H else bodyA C (fcall call) n f a H)
theorem d35_e (n : Nat) (f : FuncId) (a : List V) (H : Heap) : d35 @bdI (callA C n) n f a H = callA C (n + 1) f a H := by
  unfold d35
  exact (by
  cases h : Nat.beq f 34
  · exact bodyA_e
  · have h := Nat.eq_of_beq_eq_true h; subst h; exact file_writer_line.rf_e n a H)
noncomputable def d36 (bd : B3) (call : FuncId → List V → Heap → Option R) (n : Nat) (f : FuncId) (a : List V) (H : Heap) : Option R := (bif Nat.beq f 35 then file_plain.rf bd call n a H else bodyA C (fcall call) n f a H)
theorem d36_e (n : Nat) (f : FuncId) (a : List V) (H : Heap) : d36 @bdI (callA C n) n f a H = callA C (n + 1) f a H := by
  unfold d36
  exact (by
  cases h : Nat.beq f 35
  · exact bodyA_e
  · have h := Nat.eq_of_beq_eq_true h; subst h; exact file_plain.rf_e n a H)
noncomputable def d37 (bd : B3) (call : FuncId → List V → Heap → Option R) (n : Nat) (f : FuncId) (a : List V) (H : Heap) : Option R := (bif Nat.ble f 34 then d35 bd call n f a H else d36 bd call n f a H)
theorem d37_e (n : Nat) (f : FuncId) (a : List V) (H : Heap) : d37 @bdI (callA C n) n f a H = callA C (n + 1) f a H := by
  unfold d37
  exact (by
  cases h : Nat.ble f 34
  · exact d36_e n f a H
  · exact d35_e n f a H)
noncomputable def d38 (bd : B3) (call : FuncId → List V → Heap → Option R) (n : Nat) (f : FuncId) (a : List V) (H : Heap) : Option R := (bif Nat.beq f 36 then strconv_Itoa.rf bd call n a H else bodyA C (fcall call) n f a H)
theorem d38_e (n : Nat) (f : FuncId) (a : List V) (H : Heap) : d38 @bdI (callA C n) n f a H = callA C (n + 1) f a H := by
  unfold d38
  exact (by
  cases h : Nat.beq f 36
  · exact bodyA_e
  · have h := Nat.eq_of_beq_eq_true h; subst h; exact strconv_Itoa.rf_e n a H)
noncomputable def d39 (bd : B3) (call : FuncId → List V → Heap → Option R) (n : Nat) (f : FuncId) (a : List V) (H : Heap) : Option R := (bif Nat.beq f 37 then strings_Builder_WriteString.rf bd call n a H else bodyA C (fcall call) n f a H)
theorem d39_e (n : Nat) (f : FuncId) (a : List V) (H : Heap) : d39 @bdI (callA C n) n f a H = callA C (n + 1) f a H := by
  unfold d39
  exact (by
  cases h : Nat.beq f 37
  · exact bodyA_e
  · have h := Nat.eq_of_beq_eq_true h; subst h; exact strings_Builder_WriteString.rf_e n a H)
noncomputable def d40 (bd : B3) (call : FuncId → List V → Heap → Option R) (n : Nat) (f : FuncId) (a : List V) (H : Heap) : Option R := (bif Nat.ble f 36 then d38 bd call n f a H else d39 bd call n f a H)
theorem d40_e (n : Nat) (f : FuncId) (a : List V) (H : Heap) : d40 @bdI (callA C n) n f a H = callA C (n + 1) f a H := by
  unfold d40
  exact (by
  cases h : Nat.ble f 36
  · exact d39_e n f a H
  · exact d38_e n f a H)
noncomputable def d41 (bd : B3) (call : FuncId → List V → Heap → Option R) (n : Nat) (f : FuncId) (a : List V) (H : Heap) : Option R := (bif Nat.ble f 35 then d37 bd call n f a H else d40 bd call n f a H)
theorem d41_e (n : Nat) (f : FuncId) (a : List V) (H : Heap) : d41 @bdI (callA C n) n f a H = callA C (n + 1) f a H := by
  unfold d41
  exact (by
  cases h : Nat.ble f 35
  · exact d40_e n f a H
  · exact d37_e n f a H)
noncomputable def d42 (bd : B3) (call : FuncId → List V → Heap → Option R) (n : Nat) (f : FuncId) (a : List V) (H : Heap) : Option R := (bif Nat.beq f 38 then strings_Builder_String.rf bd call n a H else bodyA C (fcall call) n f a H)
theorem d42_e (n : Nat) (f : FuncId) (a : List V) (H : Heap) : d42 @bdI (callA C n) n f a H = callA C (n + 1) f a H := by
  unfold d42
  exact (by
  cases h : Nat.beq f 38
  · exact bodyA_e
  · have h := Nat.eq_of_beq_eq_true h; subst h; exact strings_Builder_String.rf_e n a H)
noncomputable def d43 (bd : B3) (call : FuncId → List V → Heap → Option R) (n : Nat) (f : FuncId) (a : List V) (H : Heap) : Option R := (bif Nat.beq f 39 then bucket_New.rf bd call n a H else bodyA C (fcall call) n f a H)
theorem d43_e (n : Nat) (f : FuncId) (a : List V) (H : Heap) : d43 @bdI (callA C n) n f a H = callA C (n + 1) f a H := by
  unfold d43
  exact (by
  cases h : Nat.beq f 39
  · exact bodyA_e
  · have h := Nat.eq_of_beq_eq_true h; subst h; exact bucket_New.rf_e n a H)
noncomputable def d44 (bd : B3) (call : FuncId → List V → Heap → Option R) (n : Nat) (f : FuncId) (a : List V) (H : Heap) : Option R := (bif Nat.ble f 38 then d42 bd call n f a H else d43 bd call n f a H)
theorem d44_e (n : Nat) (f : FuncId) (a : List V) (H : Heap) : d44 @bdI (callA C n) n f a H = callA C (n + 1) f a H := by
  unfold d44
  exact (by
  cases h : Nat.ble f 38
  · exact d43_e n f a H
  · exact d42_e n f a H)
noncomputable def d45 (bd : B3) (call : FuncId → List V → Heap → Option R) (n : Nat) (f : FuncId) (a : List V) (H : Heap) : Option R := (bif Nat.beq f 40 then mesh_Mesh_Side.rf bd call n a H else bodyA C (fcall call) n f a H)
theorem d45_e (n : Nat) (f : FuncId) (a : List V) (H : Heap) : d45 @bdI (callA C n) n f a H = callA C (n + 1) f a H := by
  unfold d45
  exact (by
  cases h : Nat.beq f 40
  · exact bodyA_e
  · have h := Nat.eq_of_beq_eq_true h; subst h; exact mesh_Mesh_Side.rf_e n a H)
noncomputable def d46 (bd : B3) (call : FuncId → List V → Heap → Option R) (n : Nat) (f : FuncId) (a : List V) (H : Heap) : Option R := (bif Nat.beq f 43 then arena_New.rf bd call n a H else bodyA C (fcall call) n f a H)
theorem d46_e (n : Nat) (f : FuncId) (a : List V) (H : Heap) : d46 @bdI (callA C n) n f a H = callA C (n + 1) f a H := by
  unfold d46
  exact (by
  cases h : Nat.beq f 43
  · exact bodyA_e
  · have h := Nat.eq_of_beq_eq_true h; subst h; exact arena_New.rf_e n a H)
noncomputable def d47 (bd : B3) (call : FuncId → List V → Heap → Option R) (n : Nat) (f : FuncId) (a : List V) (H : Heap) : Option R := (bif Nat.beq f 46 then math_bits_Len.rf bd call n a H else bodyA C (fcall call) n f a H)
theorem d47_e (n : Nat) (f : FuncId) (a : List V) (H : Heap) : d47 @bdI (callA C n) n f a H = callA C (n + 1) f a H := by
  unfold d47
  exact (by
  cases h : Nat.beq f 46
  · exact bodyA_e
  · have h := Nat.eq_of_beq_eq_true h; subst h; exact math_bits_Len.rf_e n a H)
noncomputable def d48 (bd : B3) (call : FuncId → List V → Heap → Option R) (n : Nat) (f : FuncId) (a : List V) (H : Heap) : Option R := (bif Nat.ble f 43 then d46 bd call n f a H else d47 bd call n f a H)
theorem d48_e (n : Nat) (f : FuncId) (a : List V) (H : Heap) : d48 @bdI (callA C n) n f a H = callA C (n + 1) f a H := by
  unfold d48
  exact (by
  cases h : Nat.ble f 43
  · exact d47_e n f a H
  · exact d46_e n f a H)
noncomputable def d49 (bd : B3) (call : FuncId → List V → Heap → Option R) (n : Nat) (f : FuncId) (a : List V) (H : Heap) : Option R := (bif Nat.ble f 40 then d45 bd call n f a H else d48 bd call n f a H)
theorem d49_e (n : Nat) (f : FuncId) (a : List V) (H : Heap) : d49 @bdI (callA C n) n f a H = callA C (n + 1) f a H := by
  unfold d49
  exact (by
  cases h : Nat.ble f 40
  · exact d48_e n f a H
  · exact d45_e n f a H)
noncomputable def d50 (bd : B3) (call : FuncId → List V → Heap → Option R) (n : Nat) (f : FuncId) (a : List V) (H : Heap) : Option R := (bif Nat.ble f 39 then d44 bd call n f a H else d49 bd call n f a H)
theorem d50_e (n : Nat) (f : FuncId) (a : List V) (H : Heap) : d50 @bdI (callA C n) n f a H = callA C (n + 1) f a H := by
  unfold d50
  exact (by
  cases h : Nat.ble f 39
  · exact d49_e n f a H
  · exact d44_e n f a H)
noncomputable def d51 (bd : B3) (call : FuncId → List V → Heap → Option R) (n : Nat) (f : FuncId) (a : List V) (H : Heap) : Option R := (bif Nat.ble f 37 then d41 bd call n f a H else d50 bd call n f a H)
theorem d51_e (n : Nat) (f : FuncId) (a : List V) (H : Heap) : d51 @bdI (callA C n) n f a H = callA C (n + 1) f a H := by
  unfold d51
  exact (by
  cases h : Nat.ble f 37
  · exact d50_e n f a H
  · exact d41_e n f a H)
noncomputable def d52 (bd : B3) (call : FuncId → List V → Heap → Option R) (n : Nat) (f : FuncId) (a : List V) (H : Heap) : Option R := (bif Nat.beq f 48 then arena_Arena_All.rf bd call n a H else bodyA C (fcall call) n f a H)
theorem d52_e (n : Nat) (f : FuncId) (a : List V) (H : Heap) : d52 @bdI (callA C n) n f a H = callA C (n + 1) f a H := by
  unfold d52
  exact (by
  cases h : Nat.beq f 48
  · exact bodyA_e
  · have h := Nat.eq_of_beq_eq_true h; subst h; exact arena_Arena_All.rf_e n a H)
noncomputable def d53 (bd : B3) (call : FuncId → List V → Heap → Option R) (n : Nat) (f : FuncId) (a : List V) (H : Heap) : Option R := (bif Nat.beq f 50 then strings_Join.rf bd call n a H else bodyA C (fcall call) n f a H)
theorem d53_e (n : Nat) (f : FuncId) (a : List V) (H : Heap) : d53 @bdI (callA C n) n f a H = callA C (n + 1) f a H := by
  unfold d53
  exact (by
  cases h : Nat.beq f 50
  · exact bodyA_e
  · have h := Nat.eq_of_beq_eq_true h; subst h; exact strings_Join.rf_e n a H)
noncomputable def d54 (bd : B3) (call : FuncId → List V → Heap → Option R) (n : Nat) (f : FuncId) (a : List V) (H : Heap) : Option R := (bif Nat.ble f 48 then d52 bd call n f a H else d53 bd call n f a H)
theorem d54_e (n : Nat) (f : FuncId) (a : List V) (H : Heap) : d54 @bdI (callA C n) n f a H = callA C (n + 1) f a H := by
  unfold d54
  exact (by
  cases h : Nat.ble f 48
  · exact d53_e n f a H
  · exact d52_e n f a H)
noncomputable def d55 (bd : B3) (call : FuncId → List V → Heap → Option R) (n : Nat) (f : FuncId) (a : List V) (H : Heap) : Option R := (bif Nat.beq f 51 then internal_strconv_Itoa.rf bd call n a H else bodyA C (fcall call) n f a H)
theorem d55_e (n : Nat) (f : FuncId) (a : List V) (H : Heap) : d55 @bdI (callA C n) n f a H = callA C (n + 1) f a H := by
  unfold d55
  exact (by
  cases h : Nat.beq f 51
  · exact bodyA_e
  · have h := Nat.eq_of_beq_eq_true h; subst h; exact internal_strconv_Itoa.rf_e n a H)
noncomputable def d56 (bd : B3) (call : FuncId → List V → Heap → Option R) (n : Nat) (f : FuncId) (a : List V) (H : Heap) : Option R := (bif Nat.beq f 52 then strings_Builder_copyCheck.rf bd call n a H else bodyA C (fcall call) n f a H)
theorem d56_e (n : Nat) (f : FuncId) (a : List V) (H : Heap) : d56 @bdI (callA C n) n f a H = callA C (n + 1) f a H := by
  unfold d56
  exact (by
  cases h : Nat.beq f 52
  · exact bodyA_e
  · have h := Nat.eq_of_beq_eq_true h; subst h; exact strings_Builder_copyCheck.rf_e n a H)
noncomputable def d57 (bd : B3) (call : FuncId → List V → Heap → Option R) (n : Nat) (f : FuncId) (a : List V) (H : Heap) : Option R := (bif Nat.beq f 57 then slices_insertionSortCmpFunc_api_Tri.rf bd call n a H else bodyA C (fcall call) n f a H)
theorem d57_e (n : Nat) (f : FuncId) (a : List V) (H : Heap) : d57 @bdI (callA C n) n f a H = callA C (n + 1) f a H := by
  unfold d57
  exact (by
  cases h : Nat.beq f 57
  · exact bodyA_e
  · have h := Nat.eq_of_beq_eq_true h; subst h; exact slices_insertionSortCmpFunc_api_Tri.rf_e n a H)
noncomputable def d58 (bd : B3) (call : FuncId → List V → Heap → Option R) (n : Nat) (f : FuncId) (a : List V) (H : Heap) : Option R := (bif Nat.ble f 52 then d56 bd call n f a H else d57 bd call n f a H)
theorem d58_e (n : Nat) (f : FuncId) (a : List V) (H : Heap) : d58 @bdI (callA C n) n f a H = callA C (n + 1) f a H := by
  unfold d58
  exact (by
  cases h : Nat.ble f 52
  · exact d57_e n f a H
  · exact d56_e n f a H)
noncomputable def d59 (bd : B3) (call : FuncId → List V → Heap → Option R) (n : Nat) (f : FuncId) (a : List V) (H : Heap) : Option R := (bif Nat.ble f 51 then d55 bd call n f a H else d58 bd call n f a H)
theorem d59_e (n : Nat) (f : FuncId) (a : List V) (H : Heap) : d59 @bdI (callA C n) n f a H = callA C (n + 1) f a H := by
  unfold d59
  exact (by
  cases h : Nat.ble f 51
  · exact d58_e n f a H
  · exact d55_e n f a H)
noncomputable def d60 (bd : B3) (call : FuncId → List V → Heap → Option R) (n : Nat) (f : FuncId) (a : List V) (H : Heap) : Option R := (bif Nat.ble f 50 then d54 bd call n f a H else d59 bd call n f a H)
theorem d60_e (n : Nat) (f : FuncId) (a : List V) (H : Heap) : d60 @bdI (callA C n) n f a H = callA C (n + 1) f a H := by
  unfold d60
  exact (by
  cases h : Nat.ble f 50
  · exact d59_e n f a H
  · exact d54_e n f a H)
noncomputable def d61 (bd : B3) (call : FuncId → List V → Heap → Option R) (n : Nat) (f : FuncId) (a : List V) (H : Heap) : Option R := (bif Nat.beq f 66 then math_bits_Len64.rf bd call n a H else bodyA C (fcall call) n f a H)
theorem d61_e (n : Nat) (f : FuncId) (a : List V) (H : Heap) : d61 @bdI (callA C n) n f a H = callA C (n + 1) f a H := by
  unfold d61
  exact (by
  cases h : Nat.beq f 66
  · exact bodyA_e
  · have h := Nat.eq_of_beq_eq_true h; subst h; exact math_bits_Len64.rf_e n a H)
noncomputable def d62 (bd : B3) (call : FuncId → List V → Heap → Option R) (n : Nat) (f : FuncId) (a : List V) (H : Heap) : Option R := (bif Nat.beq f 70 then slices_insertionSortCmpFunc_api_Place.rf bd call n a H else bodyA C (fcall call) n f a H)
theorem d62_e (n : Nat) (f : FuncId) (a : List V) (H : Heap) : d62 @bdI (callA C n) n f a H = callA C (n + 1) f a H := by
  unfold d62
  exact (by
  cases h : Nat.beq f 70
  · exact bodyA_e
  · have h := Nat.eq_of_beq_eq_true h; subst h; exact slices_insertionSortCmpFunc_api_Place.rf_e n a H)
noncomputable def d63 (bd : B3) (call : FuncId → List V → Heap → Option R) (n : Nat) (f : FuncId) (a : List V) (H : Heap) : Option R := (bif Nat.ble f 66 then d61 bd call n f a H else d62 bd call n f a H)
theorem d63_e (n : Nat) (f : FuncId) (a : List V) (H : Heap) : d63 @bdI (callA C n) n f a H = callA C (n + 1) f a H := by
  unfold d63
  exact (by
  cases h : Nat.ble f 66
  · exact d62_e n f a H
  · exact d61_e n f a H)
noncomputable def d64 (bd : B3) (call : FuncId → List V → Heap → Option R) (n : Nat) (f : FuncId) (a : List V) (H : Heap) : Option R := (bif Nat.beq f 78 then strings_Builder_Grow.rf bd call n a H else bodyA C (fcall call) n f a H)
theorem d64_e (n : Nat) (f : FuncId) (a : List V) (H : Heap) : d64 @bdI (callA C n) n f a H = callA C (n + 1) f a H := by
  unfold d64
  exact (by
  cases h : Nat.beq f 78
  · exact bodyA_e
  · have h := Nat.eq_of_beq_eq_true h; subst h; exact strings_Builder_Grow.rf_e n a H)
noncomputable def d65 (bd : B3) (call : FuncId → List V → Heap → Option R) (n : Nat) (f : FuncId) (a : List V) (H : Heap) : Option R := (bif Nat.beq f 94 then strings_Builder_grow.rf bd call n a H else bodyA C (fcall call) n f a H)
theorem d65_e (n : Nat) (f : FuncId) (a : List V) (H : Heap) : d65 @bdI (callA C n) n f a H = callA C (n + 1) f a H := by
  unfold d65
  exact (by
  cases h : Nat.beq f 94
  · exact bodyA_e
  · have h := Nat.eq_of_beq_eq_true h; subst h; exact strings_Builder_grow.rf_e n a H)
noncomputable def d66 (bd : B3) (call : FuncId → List V → Heap → Option R) (n : Nat) (f : FuncId) (a : List V) (H : Heap) : Option R := (bif Nat.beq f 95 then internal_strconv_small.rf bd call n a H else bodyA C (fcall call) n f a H)
theorem d66_e (n : Nat) (f : FuncId) (a : List V) (H : Heap) : d66 @bdI (callA C n) n f a H = callA C (n + 1) f a H := by
  unfold d66
  exact (by
  cases h : Nat.beq f 95
  · exact bodyA_e
  · have h := Nat.eq_of_beq_eq_true h; subst h; exact internal_strconv_small.rf_e n a H)
noncomputable def d67 (bd : B3) (call : FuncId → List V → Heap → Option R) (n : Nat) (f : FuncId) (a : List V) (H : Heap) : Option R := (bif Nat.ble f 94 then d65 bd call n f a H else d66 bd call n f a H)
theorem d67_e (n : Nat) (f : FuncId) (a : List V) (H : Heap) : d67 @bdI (callA C n) n f a H = callA C (n + 1) f a H := by
  unfold d67
  exact (by
  cases h : Nat.ble f 94
  · exact d66_e n f a H
  · exact d65_e n f a H)
noncomputable def d68 (bd : B3) (call : FuncId → List V → Heap → Option R) (n : Nat) (f : FuncId) (a : List V) (H : Heap) : Option R := (bif Nat.ble f 78 then d64 bd call n f a H else d67 bd call n f a H)
theorem d68_e (n : Nat) (f : FuncId) (a : List V) (H : Heap) : d68 @bdI (callA C n) n f a H = callA C (n + 1) f a H := by
  unfold d68
  exact (by
  cases h : Nat.ble f 78
  · exact d67_e n f a H
  · exact d64_e n f a H)
noncomputable def d69 (bd : B3) (call : FuncId → List V → Heap → Option R) (n : Nat) (f : FuncId) (a : List V) (H : Heap) : Option R := (bif Nat.ble f 70 then d63 bd call n f a H else d68 bd call n f a H)
theorem d69_e (n : Nat) (f : FuncId) (a : List V) (H : Heap) : d69 @bdI (callA C n) n f a H = callA C (n + 1) f a H := by
  unfold d69
  exact (by
  cases h : Nat.ble f 70
  · exact d68_e n f a H
  · exact d63_e n f a H)
noncomputable def d70 (bd : B3) (call : FuncId → List V → Heap → Option R) (n : Nat) (f : FuncId) (a : List V) (H : Heap) : Option R := (bif Nat.ble f 57 then d60 bd call n f a H else d69 bd call n f a H)
theorem d70_e (n : Nat) (f : FuncId) (a : List V) (H : Heap) : d70 @bdI (callA C n) n f a H = callA C (n + 1) f a H := by
  unfold d70
  exact (by
  cases h : Nat.ble f 57
  · exact d69_e n f a H
  · exact d60_e n f a H)
noncomputable def d71 (bd : B3) (call : FuncId → List V → Heap → Option R) (n : Nat) (f : FuncId) (a : List V) (H : Heap) : Option R := (bif Nat.ble f 46 then d51 bd call n f a H else d70 bd call n f a H)
theorem d71_e (n : Nat) (f : FuncId) (a : List V) (H : Heap) : d71 @bdI (callA C n) n f a H = callA C (n + 1) f a H := by
  unfold d71
  exact (by
  cases h : Nat.ble f 46
  · exact d70_e n f a H
  · exact d51_e n f a H)
noncomputable def d72 (bd : B3) (call : FuncId → List V → Heap → Option R) (n : Nat) (f : FuncId) (a : List V) (H : Heap) : Option R := (bif Nat.ble f 32 then d34 bd call n f a H else d71 bd call n f a H)
theorem d72_e (n : Nat) (f : FuncId) (a : List V) (H : Heap) : d72 @bdI (callA C n) n f a H = callA C (n + 1) f a H := by
  unfold d72
  exact (by
  cases h : Nat.ble f 32
  · exact d71_e n f a H
  · exact d34_e n f a H)
noncomputable def ev (bd : B3) (n : Nat) : FuncId → List V → Heap → Option R := Nat.rec (motive := fun _ => FuncId → List V → Heap → Option R) (fun _ _ _ => none) (fun n ih => d72 bd ih n) n
theorem ev_e (n : Nat) : ev @bf n = callA C n := by
  rw [bf_is]
  induction n with
  | zero => funext f a H; unfold callA; rfl
  | succ n ih => funext f a H; exact (congrArg (fun c => d72 @bdI c n f a H) ih).trans (d72_e n f a H)
end Go.AM.L
end
