/- Merged by program from: AmCall AmArg AmOut AmOut2 AmTot NmA AmSpec AmSim AmExt SvC SvQ0. -/
import Derived.Carry
import Derived.KernelRfl
import Derived.IntWalk
import Derived.Test.YtmpkhfnegnlpmaaGreatProg
import Derived.Test.YtmpkhfnegnlpmaaGreatX1
section
set_option linter.unusedVariables false
set_option linter.unusedSimpArgs false
set_option linter.unusedSimpArgs false
namespace Go.AM
open Go.RowKit (Below)
def X.toExit : X → Exit
  | .normal => .normal
  | .exit id => .exit id
  | .ret => .ret
def okC (P : Program) (N : Nat) : Code → Bool
  | .region _ ops draw => regionOk P N ops draw
  | .seq a b => okC P N a && okC P N b
  | .cond _ a b => okC P N a && okC P N b
  | .block _ c => okC P N c
  | .loop c => okC P N c
  | _ => true
section
variable {P : Program} {B n0 N : Nat} {w0 w1 w w' w'' : World} {μ0 μ μ' μ'' ν : Mu} {H0 H H' H'' : Heap}
variable {call : FuncId → List V → Heap → Option R}
def Post (B n0 N : Nat) (w0 : World) (μ : Mu) (H : Heap) (w : World) (k : K) (res : R) : Exit → Act → World → Prop := fun e a' w' =>
  ∃ x env' H' μ', e = X.toExit x ∧ Step B w0 n0 μ H w μ' H' w' ∧ St N μ' env' a' ∧ k x env' H' = some res
theorem Post.mono {k : K} {res : R} {e : Exit} {a : Act} (s : Step B w0 n0 μ H w μ' H' w') (h : Post B n0 N w0 μ' H' w' k res e a w'') : Post B n0 N w0 μ H w k res e a w'' := by
  obtain ⟨x, env', H1, μ1, e1, s1, s2, s3⟩ := h
  exact ⟨x, env', H1, μ1, e1, s.trans s1, s2, s3⟩
theorem exec_sound (hm : P.follows .mixedOrders = true) (hc : CallSound P call) (hf : FrameCall call) {tab : List (Nat × List Nat)} {n : Nat} {res : R} :
    ∀ (c : Code) (k : K) (env : Env) (H : Heap) (μ : Mu) (a : Act) (w : World), okC P N c = true → exec P call tab n c env H k = some res → Rel B w0 μ H w → n0 ≤ H.n → St N μ env a →
      c.wp P (Post B n0 N w0 μ H w k res) a w := by
  intro c
  induction c with
  | skip => intro k env H μ a w _ h hr hn hs; exact wp_skip ⟨.normal, env, H, μ, rfl, Step.refl hr, hs, h⟩
  | label l => intro k env H μ a w _ h hr hn hs; exact wp_label ⟨.normal, env, H, μ, rfl, Step.refl hr, hs, h⟩
  | exit id => intro k env H μ a w _ h hr hn hs; exact wp_exit ⟨.exit id, env, H, μ, rfl, Step.refl hr, hs, h⟩
  | ret => intro k env H μ a w _ h hr hn hs; exact wp_ret ⟨.ret, env, H, μ, rfl, Step.refl hr, hs, h⟩
  | region id ops draw =>
    intro k env H μ a w ho h hr hn hs
    unfold exec at h
    exact region_sound hm hc hf (by simpa [okC] using ho) h hr hn hs fun a' w' env' H' μ' s hs' hk => ⟨.normal, env', H', μ', rfl, s, hs', hk⟩
  | seq x y ihx ihy =>
    intro k env H μ a w ho h hr hn hs
    simp only [okC, Bool.and_eq_true] at ho
    unfold exec at h
    refine wp_seq (wp_mono (ihx _ env H μ a w ho.1 h hr hn hs) ?_)
    rintro e a' w' ⟨x', env', H', μ', rfl, s1, s2, s3⟩
    cases x' with
    | normal => exact wp_mono (ihy k _ H' μ' a' w' ho.2 s3 s1.rel (Nat.le_trans hn s1.n) (s2.keep _)) fun e a w h => h.mono s1
    | exit id => exact ⟨.exit id, env', H', μ', rfl, s1, s2, s3⟩
    | ret => exact ⟨.ret, env', H', μ', rfl, s1, s2, s3⟩
  | cond c x y ihx ihy =>
    intro k env H μ a w ho h hr hn hs
    simp only [okC, Bool.and_eq_true] at ho
    unfold exec at h
    cases hb : opd env c with
    | bool t =>
      rw [hb] at h
      have hv := hs.eval c
      rw [hb] at hv
      simp only [VRel] at hv
      refine wp_cond hv ?_
      cases t with
      | true => exact ihx k env H μ a w ho.1 h hr hn hs
      | false => exact ihy k env H μ a w ho.2 h hr hn hs
    | _ => rw [hb] at h; simp [asB] at h
  | block id c ih =>
    intro k env H μ a w ho h hr hn hs
    unfold exec at h
    refine wp_block (wp_mono (ih _ env H μ a w (by simpa [okC] using ho) h hr hn hs) ?_)
    rintro e a' w' ⟨x', env', H', μ', rfl, s1, s2, s3⟩
    cases x' with
    | normal => exact ⟨.normal, env', H', μ', rfl, s1, s2, s3⟩
    | ret => exact ⟨.ret, env', H', μ', rfl, s1, s2, s3⟩
    | exit j =>
      simp only [kB] at s3
      simp only [X.toExit, Exit.inBlock]
      split
      · rename_i hj; rw [if_pos hj] at s3; exact ⟨.normal, env', H', μ', rfl, s1, s2, s3⟩
      · rename_i hj; rw [if_neg hj] at s3; exact ⟨.exit j, env', H', μ', rfl, s1, s2, s3⟩
  | loop c ih =>
    intro k env H μ a w ho h hr hn hs
    unfold exec at h
    refine wp_loop_rounds n ?_
    have key : ∀ (m : Nat) (env : Env) (H1 : Heap) (μ1 : Mu) (a1 : Act) (w1 : World), loopA (exec P call tab n c) (tabOf tab c) m env H1 k = some res → Step B w0 n0 μ H w μ1 H1 w1 → St N μ1 env a1 →
        Code.rounds P c (Post B n0 N w0 μ H w k res) m a1 w1 := by
      intro m
      induction m with
      | zero => intro env H1 μ1 a1 w1 h s hs; simp [loopA] at h
      | succ m ihm =>
        intro env H1 μ1 a1 w1 h s hs
        unfold loopA at h
        rw [rounds_succ]
        refine wp_mono (ih _ env H1 μ1 a1 w1 (by simpa [okC] using ho) h s.rel (Nat.le_trans hn s.n) hs) ?_
        rintro e a' w' ⟨x', env', H', μ', rfl, s1, s2, s3⟩
        cases x' with
        | normal => exact ihm _ H' μ' a' w' s3 (s.trans s1) (s2.keep _)
        | exit id => exact ⟨.exit id, env', H', μ', rfl, s.trans s1, s2, s3⟩
        | ret => exact ⟨.ret, env', H', μ', rfl, s.trans s1, s2, s3⟩
    exact key n _ H μ a w h (Step.refl hr) (hs.keep _)
  | _ => intro k env H μ a w _ h; simp [exec] at h
def resOne (tmps : Array Value) : ResultVar → Sem Value
  | .tmp t => pure (tmps.getD t undef)
  | .cell a t => do loadVar t (← asAddr (tmps.getD a undef))
theorem resA_sound (hr : Rel B w0 μ H w) {env : Env} {tmps : Array Value} (hs : ∀ t, VRel μ (lk t env) (tmps.getD t undef)) {res : R} : ∀ (rs : List ResultVar) (k : List V → Option R), resA P env H rs k = some res →
    ∃ vs xs, k vs = some res ∧ (rs.mapM (resOne tmps)).run P w = .ok xs w ∧ VRels μ vs xs
  | [], k, h => ⟨[], [], h, by simp, rfl⟩
  | .tmp t :: rs, k, h => by
    unfold resA at h
    obtain ⟨vs, xs, h1, h2, h3⟩ := resA_sound hr hs rs _ h
    refine ⟨_, tmps.getD t undef :: xs, h1, ?_, ?_⟩
    · rw [List.mapM_cons]
      simp only [resOne, Sem.run_bind, Sem.run_pure, Result.andThen_ok, h2]
    · simp only [VRels]; exact ⟨_, _, rfl, hs t, h3⟩
  | .cell a t :: rs, k, h => by
    unfold resA at h
    cases hl : loadA P t (lk a env) H with
    | none => rw [hl] at h; simp at h
    | some v =>
      rw [hl] at h
      obtain ⟨ad, y, h4, h5, h6⟩ := loadA_sound (P := P) hr hl (hs a)
      obtain ⟨vs, xs, h1, h2, h3⟩ := resA_sound hr hs rs _ h
      refine ⟨_, y :: xs, h1, ?_, ?_⟩
      · rw [List.mapM_cons]
        simp only [resOne, h4, asAddr, Sem.run_bind, Sem.run_pure, Result.andThen_ok, h5, h2]
      · simp only [VRels]; exact ⟨_, _, rfl, h6, h3⟩
theorem results_sound (hr : Rel B w0 μ H w) {env : Env} {tmps : Array Value} (hs : ∀ t, VRel μ (lk t env) (tmps.getD t undef)) {fn : Func} {v : V} {H' : Heap} {b : Bool} (h : resA P env H fn.results.toList (fun vs => exitA b (oneV H vs)) = some (v, H')) :
    ∃ v0 y, (results fn tmps).run P w = .ok y w ∧ VRel μ v0 y ∧ exitA b (some (v0, H)) = some (v, H') := by
  obtain ⟨vs, xs, h1', h2, h3⟩ := resA_sound (P := P) hr hs _ _ h
  obtain ⟨v0, h1⟩ : ∃ v0, oneV H vs = some (v0, H) := by unfold oneV; split <;> exact ⟨_, rfl⟩
  rw [h1] at h1'
  have hrun : (results fn tmps).run P w = .ok (if h : xs.toArray.size = 1 then xs.toArray[0] else .tuple xs.toArray) w := by
    have he : results fn tmps = (fn.results.mapM (resOne tmps) >>= fun vs => pure (if h : vs.size = 1 then vs[0] else .tuple vs)) := by
      unfold results
      congr 1
    rw [he, Array.mapM_eq_mapM_toList]
    simp only [Sem.run_bind, map_eq_pure_bind]
    rw [h2]
    simp
  have hl := h3.length
  unfold oneV at h1
  split at h1
  · rename_i u
    simp at h1
    subst h1
    simp only [VRels] at h3
    obtain ⟨y, ys, rfl, h4, rfl⟩ := h3
    exact ⟨u, y, by rw [hrun]; simp, h4, h1'⟩
  · rename_i hne
    simp at h1
    subst h1
    refine ⟨_, .tuple xs.toArray, ?_, by simp only [VRel]; exact ⟨_, rfl, by simpa using h3⟩, h1'⟩
    rw [hrun, dif_neg]
    intro h1
    simp at h1
    rw [hl] at h1
    match vs, h1, hne with
    | [u], _, hne => exact hne u rfl
def okFun (P : Program) (f : FuncId) : Bool := match P.funcs[f]? with
  | some fn => match fn.body with
    | some c => !(fn.name == "runtime.NumGoroutine") && okC P fn.ntmps c
    | none => true
  | none => true
theorem lk_args : ∀ (vs : List V) (i t : Nat), lk t (argsA i vs) = if i ≤ t then (vs[t - i]?).getD .dead else .dead
  | [], i, t => by simp [argsA, lk]
  | v :: vs, i, t => by
    simp only [argsA, lk]
    by_cases h : t = i
    · subst h; simp
    · rw [if_neg h, lk_args vs (i + 1) t]
      by_cases h2 : i ≤ t
      · rw [if_pos h2, if_pos (by omega), show t - i = (t - (i + 1)) + 1 by omega]; simp
      · rw [if_neg h2, if_neg (by omega)]
def ExtSound (P : Program) (f : FuncId) (g : List V → Heap → Option R) : Prop :=
  ∀ args H v H', g args H = some (v, H') → ∀ (B n0 : Nat) (w0 w : World) (μ : Mu) (xs : Array Value), Rel B w0 μ H w → n0 ≤ H.n → VRels μ args xs.toList →
    Gives P (fun x w' => ∃ μ', Step B w0 n0 μ H w μ' H' w' ∧ VRel μ' v x) ((callFunc f xs).run P w)
def ExtFrame (g : List V → Heap → Option R) : Prop :=
  ∀ args H v H' X G, g args H = some (v, H') → Ext X H G → ∃ G', g args G = some (v, G') ∧ Ext X H' G'
structure Cfg.Ok (C : Cfg) : Prop where
  mixed : C.P.follows .mixedOrders = true
  fns : ∀ f tab, C.tabs f = some tab → okFun C.P f = true
  ext : ∀ f g, C.ext f = some g → ExtSound C.P f g ∧ ExtFrame g
theorem callA_sound {C : Cfg} (ok : C.Ok) : ∀ n, CallSound C.P (callA C n) := by
  have hfr := callA_frame (C := C) fun f g h => (ok.ext f g h).2
  intro n
  induction n with
  | zero => intro f args H v H' h; simp [callA] at h
  | succ n ih =>
    intro f args H v H' h B n0 w0 w μ xs hr hn hv
    unfold callA at h
    split at h
    · rename_i g hg
      exact (ok.ext f g hg).1 args H v H' h B n0 w0 w μ xs hr hn hv
    · split at h
      · rename_i tab htab
        have hok := ok.fns f tab htab
        split at h
        · rename_i fn hfn
          split at h
          · rename_i c hbody
            simp only [okFun, hfn, hbody, Bool.and_eq_true, Bool.not_eq_true'] at hok
            have hrun : (callFunc f xs).run C.P w = .ok (.enter f xs) w := by
              have hne : ¬ fn.name = "runtime.NumGoroutine" := by simpa using hok.1
              simp [callFunc, hfn, hbody, hne]
            rw [hrun]
            simp only [Gives]
            have main : ∀ (n0 : Nat) (μ : Mu) (H : Heap), n0 ≤ H.n → ∀ (args : List V) (H1 : Heap) (μ1 : Mu) (v : V) (H' : Heap), Step B w0 n0 μ H w μ1 H1 w → VRels μ1 args xs.toList → exec C.P (callA C n) tab n c (argsA 0 args) H1 (kRet C.P (C.fr f) fn.results.toList) = some (v, H') →
                Calls C.P f xs w fun e w' => ∃ x, e = .returned x ∧ ∃ μ', Step B w0 n0 μ H w μ' H' w' ∧ VRel μ' v x := by
              intro n0 μ H hn args H1 μ1 v H' s0 hv h
              have hst : St fn.ntmps μ1 (argsA 0 args) { tmps := xs ++ Array.replicate (fn.ntmps - xs.size) undef, defers := [] } := by
                refine ⟨rfl, by simp; omega, ?_⟩
                intro t
                rw [lk_args]
                simp only [Nat.zero_le, if_true, Nat.sub_zero]
                cases ha : args[t]? with
                | none => simp [VRel]
                | some u =>
                  obtain ⟨x, e, q⟩ := hv.get t u ha
                  have hlt := (List.getElem?_eq_some_iff.1 e).1
                  simp at hlt
                  rw [Array.getD_eq_getD_getElem?, Array.getElem?_append_left hlt]
                  have e' : xs[t]? = some x := by simpa using e
                  rw [e']; exact q
              refine calls_of_wp hfn hbody (wp_mono (exec_sound (P := C.P) (B := B) (n0 := n0) (w0 := w0) ok.mixed ih (hfr n) c _ _ H1 μ1 _ w hok.2 h s0.rel (Nat.le_trans hn s0.n) hst) ?_)
              rintro e a' w' ⟨x', env', H2, μ2, rfl, s1, s2, s3⟩
              have key : resA C.P env' H2 fn.results.toList (fun vs => exitA (C.fr f) (oneV H2 vs)) = some (v, H') → a'.defers = [] ∧ ∃ y, (results fn a'.tmps).run C.P w' = .ok y w' ∧ ∃ x, Ending.returned y = .returned x ∧ ∃ μ', Step B w0 n0 μ H w μ' H' w' ∧ VRel μ' v x := by
                intro h
                obtain ⟨v0, y, h1, h2, h3⟩ := results_sound s1.rel s2.slot h
                unfold exitA at h3
                split at h3
                · obtain ⟨μ3, s4, h5⟩ := frzR_sound (n0 := n0) s1.rel h3 h2
                  exact ⟨s2.defers, y, h1, y, rfl, μ3, (s0.trans s1).trans s4, h5⟩
                · simp at h3
                  obtain ⟨rfl, rfl⟩ := h3
                  exact ⟨s2.defers, y, h1, y, rfl, μ2, s0.trans s1, h2⟩
              cases x' with
              | normal => exact key s3
              | ret => exact key s3
              | exit id => simp [kRet] at s3
            split at h
            · unfold pureA at h
              split at h
              · rename_i p hp
                obtain ⟨μ1, s1, h1⟩ := frzAs_sound (n0 := n0) hr (vs' := p.1) (H' := p.2) hp hv
                split at h
                · rename_i hfr
                  split at h
                  · rename_i q hq
                    split at h
                    · rename_i hfv
                      simp at h
                      obtain ⟨rfl, rfl⟩ := h
                      obtain ⟨qv, qH⟩ := q
                      have va : VRels ⟨fun _ => none, μ1.z⟩ p.1 xs.toList := VRels.free (μ := μ1) (ν := ⟨fun _ => none, μ1.z⟩) (fun b vs h => h) _ _ hfr h1
                      refine (main 0 ⟨fun _ => none, μ1.z⟩ ⟨0, .nil⟩ (Nat.le_refl _) p.1 ⟨0, .nil⟩ _ qv qH (Step.refl (pure_start s1.rel)) va hq).mono ?_
                      rintro e w' ⟨x, he, μ2, s2, hx⟩
                      exact ⟨x, he, ⟨μ1.f, μ2.z⟩, s1.trans (pure_end s1.rel s2), VRel.free (μ := μ2) (ν := ⟨μ1.f, μ2.z⟩) (fun b vs h => h) _ _ hfv hx⟩
                    · cases h
                  · cases h
                · cases h
              · cases h
            unfold inA at h
            split at h
            · split at h
              · rename_i p hp
                obtain ⟨μ1, s1, h1⟩ := frzAs_sound (n0 := n0) hr (vs' := p.1) (H' := p.2) hp hv
                exact main n0 μ H hn p.1 p.2 μ1 v H' s1 h1 h
              · cases h
            · exact main n0 μ H hn args H μ v H' (Step.refl hr) hv h
          · simp at h
        · simp at h
      · simp at h
end
end Go.AM
end
section
set_option linter.unusedVariables false
set_option linter.unusedSimpArgs false
set_option linter.unusedSimpArgs false
namespace Go.AM
open Go.RowKit (Below)
def WT (P : Program) : Nat → TypeId → List V → Heap → Prop
  | 0, _, _, _ => False
  | fuel + 1, t, cs, H => match P.underlying t with
    | some .bool => ∃ b, cs = [.bool b]
    | some (.int k) => ∃ n, cs = [.int k n] ∧ (Lit.int k n).wf = true
    | some .string => ∃ s : List UInt8, cs = [.str s] ∧ s.length ≤ maxLen
    | some (.slice e) => cs = [.slice ⟨none, 0, 0, false⟩] ∨ ∃ i len full, cs = [.slice ⟨some (i, 0), len, P.cellsOf e, full⟩] ∧ i < H.n ∧ len ≤ maxLen ∧
        (len ≠ 0 → ∃ el xs, H.get i = .cells xs el true ∧ xs.length = len * P.cellsOf e ∧ ∀ j, j < len → WT P fuel e ((xs.drop (j * P.cellsOf e)).take (P.cellsOf e)) H)
    | some (.struct fs) => cs.length = P.cellsOf t ∧ ∀ f ∈ fs.toList, WT P fuel f.type ((cs.drop f.offset).take (P.cellsOf f.type)) H
    | some (.array n e) => cs.length = P.cellsOf t ∧ ∀ i, i < n → WT P fuel e ((cs.drop (i * P.cellsOf e)).take (P.cellsOf e)) H
    | _ => False
def tiles (P : Program) : List Field → Nat → Nat → Bool
  | [], off, total => off == total
  | f :: fs, off, total => f.offset == off && tiles P fs (off + P.cellsOf f.type) total
def plainT (P : Program) : Nat → TypeId → Bool
  | 0, _ => false
  | fuel + 1, t => match P.underlying t with
    | some .bool | some (.int _) | some .string => decide (P.cellsOf t = 1)
    | some (.slice e) => decide (P.cellsOf t = 1) && decide (0 < P.cellsOf e) && plainT P fuel e
    | some (.struct fs) => tiles P fs.toList 0 (P.cellsOf t) && fs.toList.all fun f => plainT P fuel f.type
    | some (.array n e) => decide (n * P.cellsOf e = P.cellsOf t) && plainT P fuel e
    | _ => false
structure Grows (μ : Mu) (H : Heap) (μ' : Mu) (H' : Heap) : Prop where
  le : μ.le μ'
  n : H.n ≤ H'.n
  get : ∀ i, i < H.n → H'.get i = H.get i
section
variable {P : Program} {B n0 N : Nat} {w0 w1 w w' w'' : World} {μ0 μ μ' μ'' ν : Mu} {H0 H H' H'' : Heap}
theorem Grows.refl : Grows μ H μ H := ⟨Mu.le_refl _, Nat.le_refl _, fun _ _ => rfl⟩
theorem Grows.trans (h : Grows μ H μ' H') (k : Grows μ' H' μ'' H'') : Grows μ H μ'' H'' :=
  ⟨Mu.le_trans h.le k.le, Nat.le_trans h.n k.n, fun i hi => (k.get i (Nat.lt_of_lt_of_le hi h.n)).trans (h.get i hi)⟩
theorem WT.mono (hn : H.n ≤ H'.n) (hg : ∀ i, i < H.n → H'.get i = H.get i) : ∀ (fuel : Nat) (t : TypeId) (cs : List V), WT P fuel t cs H → WT P fuel t cs H'
  | 0, t, cs, h => h
  | fuel + 1, t, cs, h => by
    unfold WT at h ⊢
    split at h
    · exact h
    · exact h
    · exact h
    · rcases h with h | ⟨i, len, full, h1, h2, h3, h4⟩
      · exact .inl h
      · refine .inr ⟨i, len, full, h1, by omega, h3, fun hl => ?_⟩
        obtain ⟨el, xs, k1, k2, k3⟩ := h4 hl
        exact ⟨el, xs, by rw [hg i h2]; exact k1, k2, fun j hj => WT.mono hn hg fuel _ _ (k3 j hj)⟩
    · exact ⟨h.1, fun f hf => WT.mono hn hg fuel _ _ (h.2 f hf)⟩
    · exact ⟨h.1, fun i hi => WT.mono hn hg fuel _ _ (h.2 i hi)⟩
    · exact h
theorem Rel.lay (hr : Rel B w0 μ H w) {L : Loc} {o : O} (hlive : o.live = true → L.b < w.heap.size) (hown : o.own = false) (hsep : ∀ j M, μ j = some M → (H.get j).own = false)
    (ho : ORel (μ.put H.n L) B o L w) : Rel B w0 (μ.put H.n L) (H.push o) w := by
  have hfr : μ H.n = none := hr.fresh (Nat.le_refl _)
  have hle := Mu.le_put (L := L) hfr
  have hget : ∀ j, (H.push o).get j = if j = H.n then o else H.get j := fun j => Heap.get_push _ _ _
  refine ⟨hr.below, hr.size, ?_, ?_, ?_, ?_, ?_, ?_⟩
  · intro j M e
    simp only [Mu.put] at e
    rw [hget]
    split at e
    · rename_i hj; subst hj; simp at e; subst e; rw [if_pos rfl]; exact ⟨by simp, hlive⟩
    · rename_i hj
      have := hr.dom j M e
      rw [if_neg hj]
      exact ⟨by simp; omega, this.2⟩
  · intro j M e
    simp only [Mu.put] at e
    rw [hget]
    split at e
    · rename_i hj; subst hj; simp at e; subst e; rw [if_pos rfl]; exact ho
    · rename_i hj; rw [if_neg hj]; exact (hr.objs j M e).mono hle rfl
  · intro j k M N' e1 e2 hjk l1 l2 l3
    exfalso
    rw [hget] at l3
    simp only [Mu.put] at e1
    split at e1
    · rename_i hj; rw [if_pos hj, hown] at l3; cases l3
    · rename_i hj; rw [if_neg hj, hsep j M e1] at l3; cases l3
  · intro i hi
    simp at hi
    rw [hget, if_neg (by omega)]
    exact hr.clean i (by omega)
  · exact hr.frz
  · intro b vs hz k N e2 ho2
    exfalso
    rw [hget] at ho2
    simp only [Mu.put] at e2
    split at e2
    · rename_i hj; rw [if_pos hj, hown] at ho2; cases ho2
    · rename_i hj; rw [if_neg hj, hsep k N e2] at ho2; cases ho2
def Got (P : Program) (B : Nat) (w0 : World) (μ : Mu) (H : Heap) (w : World) (fuel : Nat) (t : TypeId) (cs : List Value) : Prop :=
  ∃ μ' H' vs, Grows μ H μ' H' ∧ Rel B w0 μ' H' w ∧ (∀ j M, μ' j = some M → (H'.get j).own = false) ∧ VRels μ' vs cs ∧ vs.all V.one = true ∧ vs.length = P.cellsOf t ∧ WT P fuel t vs H'
theorem mapM_some {α β : Type} {f : α → Option β} : ∀ {xs : List α} {ys : List β}, xs.mapM f = some ys → xs.length = ys.length ∧ ∀ (i : Nat) (x : α), xs[i]? = some x → ∃ y, f x = some y ∧ ys[i]? = some y
  | [], ys, h => by simp at h; subst h; simp
  | x :: xs, ys, h => by
    rw [List.mapM_cons] at h
    cases h1 : f x with
    | none => simp [h1] at h
    | some y =>
      cases h2 : xs.mapM f with
      | none => simp [h1, h2] at h
      | some zs =>
        simp [h1, h2] at h; subst h
        obtain ⟨l, k⟩ := mapM_some h2
        refine ⟨by simp [l], ?_⟩
        intro i z hz
        cases i with
        | zero => simp at hz; subst hz; exact ⟨y, h1, by simp⟩
        | succ i => simp at hz; simpa using k i z hz
theorem got_list {fuel : Nat} {A : Type} (ty : A → TypeId) (part : A → List Value) (hstep : ∀ x μ H, Rel B w0 μ H w → (∀ j M, μ j = some M → (H.get j).own = false) → Got P B w0 μ H w fuel (ty x) (part x)) :
    ∀ (las : List A) (μ : Mu) (H : Heap), Rel B w0 μ H w → (∀ j M, μ j = some M → (H.get j).own = false) →
      ∃ (μ' : Mu) (H' : Heap) (vss : List (List V)), Grows μ H μ' H' ∧ Rel B w0 μ' H' w ∧ (∀ j M, μ' j = some M → (H'.get j).own = false) ∧ vss.length = las.length ∧
        VRels μ' vss.flatten (las.map part).flatten ∧ vss.flatten.all V.one = true ∧ ∀ (i : Nat) (a : A) (vs : List V), las[i]? = some a → vss[i]? = some vs → vs.length = P.cellsOf (ty a) ∧ WT P fuel (ty a) vs H'
  | [], μ, H, hr, ho => ⟨μ, H, [], Grows.refl, hr, ho, rfl, by simp [VRels], by simp, by simp⟩
  | a :: las, μ, H, hr, ho => by
    obtain ⟨μ1, H1, vs, g1, r1, o1, v1, n1, l1, t1⟩ := hstep a μ H hr ho
    obtain ⟨μ2, H2, vss, g2, r2, o2, l2, v2, n2, t2⟩ := got_list ty part hstep las μ1 H1 r1 o1
    refine ⟨μ2, H2, vs :: vss, g1.trans g2, r2, o2, by simp [l2], ?_, ?_, ?_⟩
    · simp only [List.flatten_cons, List.map_cons]
      exact VRels.append (VRels.mono g2.le _ _ v1) v2
    · simp only [List.flatten_cons, List.all_append, n1, n2, Bool.and_self]
    · intro i b us h1 h2
      cases i with
      | zero => simp at h1 h2; subst h1 h2; exact ⟨l1, t1.mono g2.n g2.get⟩
      | succ i => simp at h1 h2; exact t2 i b us h1 h2
theorem flatten_chunk {α : Type} {k : Nat} : ∀ {vss : List (List α)} {j : Nat} {v : List α}, (∀ (i : Nat) (u : List α), vss[i]? = some u → u.length = k) → vss[j]? = some v → (vss.flatten.drop (j * k)).take k = v
  | [], j, v, _, h => by simp at h
  | u :: vss, 0, v, hl, h => by
    simp at h; subst h
    simp only [List.flatten_cons, Nat.zero_mul, List.drop_zero]
    rw [List.take_append_of_le_length (by rw [hl 0 u (by simp)]; exact Nat.le_refl _)]
    rw [List.take_of_length_le (by rw [hl 0 u (by simp)]; exact Nat.le_refl _)]
  | u :: vss, j + 1, v, hl, h => by
    simp at h
    have hu := hl 0 u (by simp)
    simp only [List.flatten_cons]
    rw [List.drop_append, List.drop_of_length_le (by rw [hu, Nat.succ_mul]; omega), List.nil_append, hu, show (j + 1) * k - k = j * k by rw [Nat.succ_mul]; omega]
    exact flatten_chunk (fun i u hi => hl (i + 1) u (by simpa using hi)) h
theorem flatten_len {α : Type} {k : Nat} : ∀ {vss : List (List α)}, (∀ (i : Nat) (u : List α), vss[i]? = some u → u.length = k) → vss.flatten.length = vss.length * k
  | [], _ => by simp
  | u :: vss, hl => by
    have hu := hl 0 u (by simp)
    simp only [List.flatten_cons, List.length_append, List.length_cons, hu, Nat.succ_mul]
    rw [flatten_len fun i u hi => hl (i + 1) u (by simpa using hi)]
    omega
theorem tiles_chunk {α : Type} {total : Nat} : ∀ {fs : List Field} {off : Nat} {vss : List (List α)}, tiles P fs off total = true → vss.length = fs.length →
    (∀ (i : Nat) (f : Field) (u : List α), fs[i]? = some f → vss[i]? = some u → u.length = P.cellsOf f.type) →
    off ≤ total ∧ vss.flatten.length = total - off ∧ ∀ (i : Nat) (f : Field) (u : List α), fs[i]? = some f → vss[i]? = some u → off ≤ f.offset ∧ (vss.flatten.drop (f.offset - off)).take (P.cellsOf f.type) = u
  | [], off, vss, ht, hl, _ => by
    simp [tiles] at ht; subst ht
    have : vss = [] := List.eq_nil_of_length_eq_zero (by simpa using hl)
    subst this
    simp
  | f :: fs, off, [], ht, hl, _ => by simp at hl
  | f :: fs, off, v :: vss, ht, hl, hs => by
    simp only [tiles, Bool.and_eq_true, beq_iff_eq] at ht
    obtain ⟨h1, h2⟩ := ht
    subst h1
    have hv := hs 0 f v (by simp) (by simp)
    obtain ⟨i1, i2, i3⟩ := tiles_chunk h2 (by simpa using hl) fun i g u a b => hs (i + 1) g u (by simpa using a) (by simpa using b)
    refine ⟨by omega, by simp only [List.flatten_cons, List.length_append, i2, hv]; omega, ?_⟩
    intro i g u a b
    cases i with
    | zero =>
      simp at a b; subst a b
      refine ⟨Nat.le_refl _, ?_⟩
      simp only [Nat.sub_self, List.drop_zero, List.flatten_cons]
      rw [List.take_append_of_le_length (by rw [hv]; exact Nat.le_refl _), List.take_of_length_le (by rw [hv]; exact Nat.le_refl _)]
    | succ i =>
      simp at a b
      obtain ⟨j1, j2⟩ := i3 i g u a b
      refine ⟨by omega, ?_⟩
      simp only [List.flatten_cons]
      rw [List.drop_append, List.drop_of_length_le (by rw [hv]; omega), List.nil_append, hv, show g.offset - f.offset - P.cellsOf f.type = g.offset - (f.offset + P.cellsOf f.type) by omega]
      exact j2
theorem tiles_whole {total : Nat} {α : Type} {cs : List α} (hc : cs.length = total) : ∀ {fs : List Field} {off : Nat}, tiles P fs off total = true →
    off ≤ total ∧ (fs.map fun f => (cs.drop f.offset).take (P.cellsOf f.type)).flatten = cs.drop off
  | [], off, ht => by
    simp [tiles] at ht; subst ht
    exact ⟨Nat.le_refl _, by simp [hc]⟩
  | f :: fs, off, ht => by
    simp only [tiles, Bool.and_eq_true, beq_iff_eq] at ht
    obtain ⟨h1, h2⟩ := ht
    subst h1
    obtain ⟨i1, i2⟩ := tiles_whole hc h2
    refine ⟨by omega, ?_⟩
    simp only [List.map_cons, List.flatten_cons, i2]
    rw [← List.drop_drop]
    exact List.take_append_drop _ _
end
end Go.AM
end
section
set_option linter.unusedVariables false
set_option linter.unusedSimpArgs false
set_option linter.unusedSimpArgs false
set_option linter.unusedVariables false
namespace Go.AM
open Go.RowKit (Below)
def extF (dom : List V → Option V) (args : List V) (H : Heap) : Option R :=
  match frzAs args H with
  | some p => match dom p.1 with
    | some v => some (v, p.2)
    | none => none
  | none => none
theorem extF_frame (dom : List V → Option V) : ExtFrame (extF dom) := by
  intro args H v H' X G h e
  unfold extF at h ⊢
  split at h
  · rename_i p hp
    obtain ⟨G', g1, g2⟩ := frzAs_frame e hp
    rw [g1]
    split at h
    · rename_i u hu
      simp at h
      obtain ⟨rfl, rfl⟩ := h
      simp only [hu]
      exact ⟨G', rfl, g2⟩
    · cases h
  · cases h
section
variable {P : Program} {B n0 : Nat} {w0 w w' w'' : World} {μ μ' μ'' ν : Mu} {H H' H'' : Heap}
def Mu.mix (μ ν : Mu) : Mu := ⟨μ.f, ν.z⟩
mutual
theorem VRel.back (h : μ.le ν) : ∀ (v : V) (x y : Value), VRel μ v x → VRel ν v y → VRel (μ.mix ν) v y
  | .dead, _, _, o, k => by simp [VRel]
  | .bool b, x, y, o, k => by simpa [VRel] using k
  | .int _ n, x, y, o, k => by simpa [VRel] using k
  | .str s, x, y, o, k => by simpa [VRel] using k
  | .ptr none, x, y, o, k => by simpa [VRel] using k
  | .ptr (some (i, a)), x, y, o, k => by
    simp only [VRel] at o k ⊢
    obtain ⟨L, e, _⟩ := o
    obtain ⟨M, e2, r⟩ := k
    have := h.f _ _ e
    rw [e2] at this; cases this
    exact ⟨L, e, r⟩
  | .slice s, x, y, o, k => by
    simp only [VRel] at o k ⊢
    split
    · rename_i hs; simpa [hs] using k
    · rename_i i a hs
      simp only [hs] at o k
      obtain ⟨L, _, _, e, _⟩ := o
      obtain ⟨M, a', cap, e2, r⟩ := k
      have := h.f _ _ e
      rw [e2] at this; cases this
      exact ⟨L, a', cap, e, r⟩
  | .map none, x, y, o, k => by simpa [VRel] using k
  | .map (some i), x, y, o, k => by
    simp only [VRel] at o k ⊢
    obtain ⟨L, e, _⟩ := o
    obtain ⟨M, e2, r⟩ := k
    have := h.f _ _ e
    rw [e2] at this; cases this
    exact ⟨L, e, r⟩
  | .func fn first captured, x, y, o, k => by
    simp only [VRel] at o k ⊢
    obtain ⟨f, c, _, _, a, b⟩ := o
    obtain ⟨f', c', e', o', a', b'⟩ := k
    exact ⟨f', c', e', o', VRels.back h _ _ _ a a', VRels.back h _ _ _ b b'⟩
  | .nilFunc, x, y, o, k => by simpa [VRel] using k
  | .iface t v, x, y, o, k => by
    simp only [VRel] at o k ⊢
    obtain ⟨_, _, a⟩ := o
    obtain ⟨z, e', a'⟩ := k
    exact ⟨z, e', VRel.back h _ _ _ a a'⟩
  | .nilIface, x, y, o, k => by simpa [VRel] using k
  | .agg cs, x, y, o, k => by
    simp only [VRel] at o k ⊢
    obtain ⟨_, _, a⟩ := o
    obtain ⟨z, e', a'⟩ := k
    exact ⟨z, e', VRels.back h _ _ _ a a'⟩
  | .tuple cs, x, y, o, k => by
    simp only [VRel] at o k ⊢
    obtain ⟨_, _, a⟩ := o
    obtain ⟨z, e', a'⟩ := k
    exact ⟨z, e', VRels.back h _ _ _ a a'⟩
  | .list n z cs, x, y, o, k => by
    simp only [VRel] at o k ⊢
    rcases k with k | ⟨j, L, q, cap, m, e, hc, hm, hl, h1, r⟩
    · exact .inl k
    · rcases o with ⟨_, rfl, _⟩ | ⟨_, _, _, _, _, _, _, _, _, _, a⟩
      · exact .inr ⟨j, L, q, cap, m, e, hc, hm, hl, h1, by simpa [VRels] using r⟩
      · exact .inr ⟨j, L, q, cap, m, e, hc, hm, hl, h1, VRels.back h _ _ _ a r⟩
  | .lptr cs, x, y, o, k => by
    simp only [VRel] at o k ⊢
    obtain ⟨_, _, _, _, _, _, a⟩ := o
    obtain ⟨j, L, q, m, e, h1, r⟩ := k
    exact ⟨j, L, q, m, e, h1, VRels.back h _ _ _ a r⟩
theorem VRels.back (h : μ.le ν) : ∀ (vs : List V) (xs ys : List Value), VRels μ vs xs → VRels ν vs ys → VRels (μ.mix ν) vs ys
  | [], xs, ys, _, k => by simpa [VRels] using k
  | v :: vs, xs, ys, o, k => by
    simp only [VRels] at o k ⊢
    obtain ⟨_, _, _, a, b⟩ := o
    obtain ⟨y, zs, e, a', b'⟩ := k
    exact ⟨y, zs, e, VRel.back h _ _ _ a a', VRels.back h _ _ _ b b'⟩
end
theorem MERels.back (h : μ.le ν) : ∀ {es : List ME} {xs ys : List MapEntry}, MERels μ es xs → MERels ν es ys → MERels (μ.mix ν) es ys
  | [], xs, ys, _, k => by simpa [MERels] using k
  | e :: es, xs, ys, o, k => by
    simp only [MERels] at o k ⊢
    obtain ⟨_, _, _, a, b⟩ := o
    obtain ⟨y, zs, e', a', b'⟩ := k
    exact ⟨y, zs, e', ⟨VRel.back h _ _ _ a.1 a'.1, VRel.back h _ _ _ a.2.1 a'.2.1, a'.2.2⟩, MERels.back h b b'⟩
theorem ORel.back (h : μ.le ν) {o : O} {L : Loc} (a : ORel μ B o L w) (b : ORel ν B o L w') : ORel (μ.mix ν) B o L w' := by
  cases o with
  | none => trivial
  | cells cs e ro =>
    obtain ⟨c, _, _, k1, k2, k3, k4, _⟩ := a
    obtain ⟨c', e', fr, m1, m2, m3, m4, m5⟩ := b
    refine ⟨c', e', fr, m1, m2, m3, fun j v hj => ?_, m5⟩
    obtain ⟨h1, x, _, q⟩ := k4 j v hj
    obtain ⟨_, y, e2, q2⟩ := m4 j v hj
    exact ⟨h1, y, e2, VRel.back h _ _ _ q q2⟩
  | map es clock =>
    obtain ⟨xs, k1, k2, k3⟩ := a
    obtain ⟨ys, m1, m2, m3⟩ := b
    exact ⟨ys, m1, m2, k3.back h m3⟩
  | siter s pos => exact b
theorem Rel.forget (hr : Rel B w0 μ H w) (hle : μ.le ν) (hr' : Rel B w0 ν H' w') (hget : ∀ i, i < H.n → H'.get i = H.get i) (hs : w.heap.size ≤ w'.heap.size)
    (hk : ∀ b, b < w.heap.size → (∀ i L, μ i = some L → (H.get i).own = true → L.b ≠ b) → w'.heap[b]? = w.heap[b]?)
    (hz : ∀ b vs, ν.z b = some vs → μ.z b = some vs ∨ w.heap.size ≤ b ∨ ∃ j M, μ j = some M ∧ (H.get j).live = true ∧ M.b = b) : Step B w0 n0 μ H w (μ.mix ν) H w' := by
  refine ⟨⟨fun _ _ h => h, hle.z⟩, ⟨hr'.below, hr'.size, ?_, ?_, ?_, hr.clean, hr'.frz, ?_⟩, Nat.le_refl _, hs, hk, fun _ _ e => .inl ⟨e, id, id⟩, hz⟩
  · intro i L e
    have e' : μ i = some L := e
    exact ⟨(hr.dom i L e').1, fun hl => Nat.lt_of_lt_of_le ((hr.dom i L e').2 hl) hs⟩
  · intro i L e
    have e' : μ i = some L := e
    have hi := (hr.dom i L e').1
    have h1 := hr'.objs i L (hle.f i L e')
    rw [hget i hi] at h1
    exact (hr.objs i L e').back hle h1
  · intro i j L M e1 e2 hij l1 l2 l3
    have e1' : μ i = some L := e1
    have e2' : μ j = some M := e2
    refine hr'.sep i j L M (hle.f _ _ e1') (hle.f _ _ e2') hij ?_ ?_ ?_
    · rw [hget i (hr.dom i L e1').1]; exact l1
    · rw [hget j (hr.dom j M e2').1]; exact l2
    · rw [hget i (hr.dom i L e1').1]; exact l3
  · intro b vs hz j M e2 ho
    have e2' : μ j = some M := e2
    exact hr'.sepf b vs hz j M (hle.f _ _ e2') (by rw [hget j (hr.dom j M e2').1]; exact ho)
end
end Go.AM
end
section
set_option linter.unusedVariables false
set_option linter.unusedSimpArgs false
set_option linter.unusedSimpArgs false
set_option linter.unusedVariables false
namespace Go.AM
open Go.RowKit (Below)
def V.plain1 : V → Bool
  | .bool _ | .int _ _ | .str _ => true
  | _ => false
mutual
def V.flat : V → Bool
  | .bool _ | .int _ _ | .str _ => true
  | .agg cs => V.flats cs
  | .list n z cs => (n == 0 || z == 1) && cs.all V.plain1
  | _ => false
def V.flats : List V → Bool
  | [] => true
  | v :: vs => v.flat && V.flats vs
end
mutual
def Th (base : Nat) (H : Heap) : V → V → Prop
  | .list n z cs, v' => ∃ s, v' = .slice s ∧ s.len = n ∧ cs.length = n ∧ (∀ b o, s.ad = some (b, o) → base ≤ b ∧ b < H.n ∧ s.esz = 1) ∧ (n ≠ 0 → ∃ b e, s.ad = some (b, 0) ∧ H.get b = .cells cs e true)
  | .agg cs, v' => ∃ cs', v' = .agg cs' ∧ Ths base H cs cs'
  | v, v' => v' = v
def Ths (base : Nat) (H : Heap) : List V → List V → Prop
  | [], vs => vs = []
  | v :: vs, us => ∃ u us', us = u :: us' ∧ Th base H v u ∧ Ths base H vs us'
end
section
variable {P : Program} {B n0 : Nat} {w0 w w' w'' : World} {μ μ' μ'' ν : Mu} {H H' H'' : Heap}
mutual
theorem Th.grow {base : Nat} (hn : H.n ≤ H'.n) (hg : ∀ i, i < H.n → H'.get i = H.get i) : ∀ (v u : V), Th base H v u → Th base H' v u
  | .list n z cs, u, h => by
    simp only [Th] at h ⊢
    obtain ⟨s, e, h1, h2, h3, h4⟩ := h
    refine ⟨s, e, h1, h2, fun b o hs => by have := h3 b o hs; exact ⟨this.1, by omega, this.2.2⟩, fun hz => ?_⟩
    obtain ⟨b, e', h5, h6⟩ := h4 hz
    exact ⟨b, e', h5, by rw [hg b (h3 b 0 h5).2.1]; exact h6⟩
  | .agg cs, u, h => by
    simp only [Th] at h ⊢
    obtain ⟨cs', e, k⟩ := h
    exact ⟨cs', e, Ths.grow hn hg cs cs' k⟩
  | .dead, u, h => by simpa [Th] using h
  | .bool b, u, h => by simpa [Th] using h
  | .int k n, u, h => by simpa [Th] using h
  | .str s, u, h => by simpa [Th] using h
  | .ptr a, u, h => by simpa [Th] using h
  | .slice s, u, h => by simpa [Th] using h
  | .map r, u, h => by simpa [Th] using h
  | .func a b c, u, h => by simpa [Th] using h
  | .nilFunc, u, h => by simpa [Th] using h
  | .iface t v, u, h => by simpa [Th] using h
  | .nilIface, u, h => by simpa [Th] using h
  | .tuple vs, u, h => by simpa [Th] using h
  | .lptr cs, u, h => by simpa [Th] using h
theorem Ths.grow {base : Nat} (hn : H.n ≤ H'.n) (hg : ∀ i, i < H.n → H'.get i = H.get i) : ∀ (vs us : List V), Ths base H vs us → Ths base H' vs us
  | [], us, h => by simpa [Ths] using h
  | v :: vs, us, h => by
    simp only [Ths] at h ⊢
    obtain ⟨u, us', e, a, b⟩ := h
    exact ⟨u, us', e, Th.grow hn hg v u a, Ths.grow hn hg vs us' b⟩
end
theorem Rel.layF (hr : Rel B w0 μ H w) {L : Loc} {o : O} (hlive : o.live = true → L.b < w.heap.size) (hown : o.own = false) (hsep : o.live = true → ∀ j M, μ j = some M → (H.get j).own = true → M.b ≠ L.b)
    (ho : ORel (μ.put H.n L) B o L w) : Rel B w0 (μ.put H.n L) (H.push o) w := by
  have hfr : μ H.n = none := hr.fresh (Nat.le_refl _)
  have hle := Mu.le_put (L := L) hfr
  have hget : ∀ j, (H.push o).get j = if j = H.n then o else H.get j := fun j => Heap.get_push _ _ _
  refine ⟨hr.below, hr.size, ?_, ?_, ?_, ?_, hr.frz, ?_⟩
  · intro j M e
    simp only [Mu.put] at e
    rw [hget]
    split at e
    · rename_i hj; subst hj; simp at e; subst e; rw [if_pos rfl]; exact ⟨by simp, hlive⟩
    · rename_i hj
      have := hr.dom j M e
      rw [if_neg hj]
      exact ⟨by simp; omega, this.2⟩
  · intro j M e
    simp only [Mu.put] at e
    rw [hget]
    split at e
    · rename_i hj; subst hj; simp at e; subst e; rw [if_pos rfl]; exact ho
    · rename_i hj; rw [if_neg hj]; exact (hr.objs j M e).mono hle rfl
  · intro j k M N' e1 e2 hjk l1 l2 l3
    rw [hget] at l1 l2 l3
    simp only [Mu.put] at e1 e2
    split at e1
    · rename_i hj; rw [if_pos hj, hown] at l3; cases l3
    · rename_i hj
      rw [if_neg hj] at l1 l3
      split at e2
      · rename_i hk; simp at e2; subst e2; rw [if_pos hk] at l2; exact hsep l2 j M e1 l3
      · rename_i hk; rw [if_neg hk] at l2; exact hr.sep j k M N' e1 e2 hjk l1 l2 l3
  · intro i hi
    simp at hi
    rw [hget, if_neg (by omega)]
    exact hr.clean i (by omega)
  · intro b vs hz j M e ho2
    rw [hget] at ho2
    simp only [Mu.put] at e
    split at e
    · rename_i hj; rw [if_pos hj, hown] at ho2; cases ho2
    · rename_i hj; rw [if_neg hj] at ho2; exact hr.sepf b vs hz j M e ho2
theorem plain_rel {v : V} {x : Value} (h : v.plain1 = true) (k : VRel μ v x) : VRel ν v x := by
  cases v <;> simp_all [V.plain1, VRel]
theorem put_own {L : Loc} {o : O} (h : o.own = false) (hz : o.live = true → ∃ vs, μ.z L.b = some vs) : ∀ i M, (μ.put H.n L) i = some M → μ i = some M ∨ (((H.push o).get i).own = false ∧ (((H.push o).get i).live = true → ∃ vs, μ.z M.b = some vs)) := by
  intro i M e
  simp only [Mu.put] at e
  rw [Heap.get_push]
  split at e
  · rename_i hi
    simp at e; subst e
    rw [if_pos hi]; exact .inr ⟨h, hz⟩
  · exact .inl e
mutual
theorem thaw {base : Nat} : ∀ (v : V) (x : Value) (μ : Mu) (H : Heap), v.flat = true → base ≤ H.n → Rel B w0 μ H w → VRel μ v x →
    ∃ μ' H' u, Grows μ H μ' H' ∧ (∀ i L, μ' i = some L → μ i = some L ∨ ((H'.get i).own = false ∧ ((H'.get i).live = true → ∃ vs, μ.z L.b = some vs))) ∧ μ'.z = μ.z ∧ Rel B w0 μ' H' w ∧ VRel μ' u x ∧ Th base H' v u
  | .list n z cs, x, μ, H, hf, hb, hr, hx => by
    simp only [V.flat, Bool.and_eq_true, Bool.or_eq_true, beq_iff_eq] at hf
    obtain ⟨hz, hpl⟩ := hf
    simp only [VRel] at hx
    have hfr : μ H.n = none := hr.fresh (Nat.le_refl _)
    rcases hx with ⟨rfl, rfl, rfl | ⟨a, cap, hsp, rfl⟩⟩ | ⟨b, fz, o, cap, hm, rfl, hcap, hroom, hlen, hone, hv⟩
    · exact ⟨μ, H, .slice ⟨none, 0, 1, false⟩, Grows.refl, fun _ _ e => .inl e, rfl, hr, by simp [VRel], by simp [Th]⟩
    · have hle := Mu.le_put (L := ⟨a.block, a.off, a.off + cap⟩) hfr
      refine ⟨μ.put H.n ⟨a.block, a.off, a.off + cap⟩, H.push .none, .slice ⟨some (H.n, 0), 0, 1, false⟩, ⟨hle, by simp, fun i hi => by rw [Heap.get_push, if_neg (by omega)]⟩, put_own rfl (by simp [O.live]), rfl,
        hr.layF (by simp [O.live]) rfl (by simp [O.live]) trivial, ?_, ?_⟩
      · simp only [VRel]
        refine ⟨_, a, cap, Mu.put_same, rfl, Nat.zero_le _, by simp, ?_⟩
        rcases hsp with h | h
        · exact .inl h
        · exact .inr ⟨by cases a; simp_all, by simp⟩
      · simp only [Th]
        exact ⟨_, rfl, rfl, rfl, fun b o h => by simp at h; exact ⟨by omega, by simp; omega, rfl⟩, fun h => absurd rfl h⟩
    · obtain ⟨c, e', fr, hbk, hfz⟩ := hr.frz b fz hm
      by_cases hn : n = 0
      · subst hn
        have hcs : cs = [] := List.eq_nil_of_length_eq_zero (by omega)
        subst hcs
        have hle := Mu.le_put (L := ⟨b, o, o + cap⟩) hfr
        refine ⟨μ.put H.n ⟨b, o, o + cap⟩, H.push .none, .slice ⟨some (H.n, 0), 0, 1, false⟩, ⟨hle, by simp, fun i hi => by rw [Heap.get_push, if_neg (by omega)]⟩, put_own rfl (by simp [O.live]), rfl,
          hr.layF (by simp [O.live]) rfl (by simp [O.live]) trivial, ?_, ?_⟩
        · simp only [VRel]
          exact ⟨_, _, cap, Mu.put_same, rfl, Nat.zero_le _, by simp, .inr ⟨by simp, by simp⟩⟩
        · simp only [Th]
          exact ⟨_, rfl, rfl, rfl, fun b o h => by simp at h; exact ⟨by omega, by simp; omega, rfl⟩, fun h => absurd rfl h⟩
      · have hz1 : z = 1 := hz.resolve_left hn
        subst hz1
        have hle := Mu.le_put (L := ⟨b, o, c.size⟩) hfr
        rw [hfz, Array.length_toList] at hroom
        have hlv := hv.length
        refine ⟨μ.put H.n ⟨b, o, c.size⟩, H.push (.cells cs 0 true), .slice ⟨some (H.n, 0), n, 1, false⟩, ⟨hle, by simp, fun i hi => by rw [Heap.get_push, if_neg (by omega)]⟩, put_own rfl (fun _ => ⟨fz, hm⟩), rfl,
          hr.layF (fun _ => (Array.getElem?_eq_some_iff.1 hbk).1) rfl (fun _ j M e ho => hr.sepf b fz hm j M e ho) ?_, ?_, ?_⟩
        · refine ⟨c, e', fr, hbk, rfl, by simp only; omega, ?_, by simp⟩
          intro j v hj
          have h1 := List.all_eq_true.1 hone v (List.mem_of_getElem? hj)
          have h2 := List.all_eq_true.1 hpl v (List.mem_of_getElem? hj)
          obtain ⟨x, hx, hxr⟩ := hv.get j v hj
          refine ⟨h1, x, ?_, plain_rel h2 hxr⟩
          rw [List.getElem?_take] at hx
          split at hx
          · rw [List.getElem?_drop, hfz] at hx
            simpa using hx
          · cases hx
        · simp only [VRel]
          exact ⟨_, _, cap, Mu.put_same, rfl, hcap, by simp, .inr ⟨by simp, by simp only; omega⟩⟩
        · simp only [Th]
          exact ⟨_, rfl, rfl, by omega, fun b o h => by simp at h; exact ⟨by omega, by simp; omega, rfl⟩, fun _ => ⟨H.n, 0, rfl, by rw [Heap.get_push, if_pos rfl]⟩⟩
  | .agg cs, x, μ, H, hf, hb, hr, hx => by
    simp only [V.flat] at hf
    simp only [VRel] at hx
    obtain ⟨a, rfl, k⟩ := hx
    obtain ⟨μ', H', us, g, hz, hzz, r, k', t⟩ := thaws cs a.toList μ H hf hb hr k
    exact ⟨μ', H', .agg us, g, hz, hzz, r, by simp only [VRel]; exact ⟨a, rfl, k'⟩, by simp only [Th]; exact ⟨us, rfl, t⟩⟩
  | .bool b, x, μ, H, hf, hb, hr, hx => ⟨μ, H, _, Grows.refl, fun _ _ e => .inl e, rfl, hr, hx, by simp [Th]⟩
  | .int k n, x, μ, H, hf, hb, hr, hx => ⟨μ, H, _, Grows.refl, fun _ _ e => .inl e, rfl, hr, hx, by simp [Th]⟩
  | .str s, x, μ, H, hf, hb, hr, hx => ⟨μ, H, _, Grows.refl, fun _ _ e => .inl e, rfl, hr, hx, by simp [Th]⟩
  | .dead, x, μ, H, hf, hb, hr, hx => by simp [V.flat] at hf
  | .ptr a, x, μ, H, hf, hb, hr, hx => by simp [V.flat] at hf
  | .slice s, x, μ, H, hf, hb, hr, hx => by simp [V.flat] at hf
  | .map r, x, μ, H, hf, hb, hr, hx => by simp [V.flat] at hf
  | .func a b c, x, μ, H, hf, hb, hr, hx => by simp [V.flat] at hf
  | .nilFunc, x, μ, H, hf, hb, hr, hx => by simp [V.flat] at hf
  | .iface t v, x, μ, H, hf, hb, hr, hx => by simp [V.flat] at hf
  | .nilIface, x, μ, H, hf, hb, hr, hx => by simp [V.flat] at hf
  | .tuple vs, x, μ, H, hf, hb, hr, hx => by simp [V.flat] at hf
  | .lptr cs, x, μ, H, hf, hb, hr, hx => by simp [V.flat] at hf
theorem thaws {base : Nat} : ∀ (vs : List V) (xs : List Value) (μ : Mu) (H : Heap), V.flats vs = true → base ≤ H.n → Rel B w0 μ H w → VRels μ vs xs →
    ∃ μ' H' us, Grows μ H μ' H' ∧ (∀ i L, μ' i = some L → μ i = some L ∨ ((H'.get i).own = false ∧ ((H'.get i).live = true → ∃ vs, μ.z L.b = some vs))) ∧ μ'.z = μ.z ∧ Rel B w0 μ' H' w ∧ VRels μ' us xs ∧ Ths base H' vs us
  | [], xs, μ, H, hf, hb, hr, hx => ⟨μ, H, [], Grows.refl, fun _ _ e => .inl e, rfl, hr, by simpa [VRels] using hx, by simp [Ths]⟩
  | v :: vs, xs, μ, H, hf, hb, hr, hx => by
    simp only [V.flats, Bool.and_eq_true] at hf
    simp only [VRels] at hx
    obtain ⟨y, ys, rfl, a, b⟩ := hx
    obtain ⟨μ1, H1, u, g1, z1, y1, r1, k1, t1⟩ := thaw v y μ H hf.1 hb hr a
    obtain ⟨μ2, H2, us, g2, z2, y2, r2, k2, t2⟩ := thaws vs ys μ1 H1 hf.2 (Nat.le_trans hb g1.n) r1 (VRels.mono g1.le _ _ b)
    refine ⟨μ2, H2, u :: us, g1.trans g2, fun i L e => ?_, by rw [y2, y1], r2, ?_, ?_⟩
    · rcases z2 i L e with e | e
      · rcases z1 i L e with e' | e'
        · exact .inl e'
        · right; rw [g2.get i (r1.dom i L e).1]; exact e'
      · rw [y1] at e; exact .inr e
    · simp only [VRels]; exact ⟨y, ys, rfl, VRel.mono g2.le _ _ k1, k2⟩
    · simp only [Ths]; exact ⟨u, us, rfl, Th.grow g2.n g2.get _ _ t1, t2⟩
end
def extC (v : V) (args : List V) (H : Heap) : Option R := match args with
  | [] => some (v, H)
  | _ => none
theorem extC_frame (v : V) : ExtFrame (extC v) := by
  intro args H u H' X G h e
  unfold extC at h ⊢
  split at h
  · simp at h
    obtain ⟨rfl, rfl⟩ := h
    exact ⟨G, rfl, e⟩
  · cases h
theorem extClosed {C0 : Cfg} (ok : C0.Ok) {f : FuncId} {n : Nat} {v : V} {H1 : Heap} (hc : callA C0 n f [] ⟨0, .nil⟩ = some (v, H1)) (hp : v.plain1 = true) : ExtSound C0.P f (extC v) := by
  intro args H u H' hg B n0 w0 w μ xs hr hn hv
  unfold extC at hg
  split at hg
  · simp at hg
    obtain ⟨rfl, rfl⟩ := hg
    have h0 : Rel B w0 ⟨fun _ => none, fun _ => none⟩ ⟨0, .nil⟩ w :=
      ⟨hr.below, hr.size, fun i L h => (by cases h), fun i L h => (by cases h), fun i j L M h => (by cases h), fun i _ => by simp [Heap.get, T.get], fun b vs h => (by cases h), fun b vs h => (by cases h)⟩
    refine Gives.mono ?_ (callA_sound ok n f [] _ _ H1 hc B 0 w0 w _ xs h0 (Nat.le_refl _) hv)
    rintro x w' ⟨μ1, s, v1⟩
    have hbel : Below w.heap.size w w' := by
      have b1 := hr.below
      have b2 := s.rel.below
      exact ⟨by rw [b2.os, b1.os], by rw [b2.tape, b1.tape], by rw [b2.output, b1.output], s.size, fun k hk => s.keeps k hk fun i L h => (by cases h)⟩
    exact ⟨μ, ⟨Mu.le_refl _, hr.grow hbel, Nat.le_refl _, s.size, fun b hb _ => hbel.block b hb, fun _ _ e => .inl ⟨e, id, id⟩, fun _ _ h => .inl h⟩, plain_rel hp v1⟩
  · cases hg
theorem thaw_z {μ1 μ2 μ3 μ4 : Mu} {H1 H2 : Heap} (hr : Rel B w0 μ1 H1 w) (g : Grows μ1 H1 μ2 H2) (z : ∀ i L, μ2 i = some L → μ1 i = some L ∨ ((H2.get i).own = false ∧ ((H2.get i).live = true → ∃ vs, μ1.z L.b = some vs))) (y : μ2.z = μ1.z)
    (l3 : ∀ b vs, μ2.z b = some vs → μ3.z b = some vs) (l4 : ∀ b vs, μ3.z b = some vs → μ4.z b = some vs) {b : Nat} {vs : List Value} (hb : μ4.z b = some vs) {j : Nat} {M : Loc} (h : μ2 j = some M) (hl : (H2.get j).live = true) (he : M.b = b) :
    μ1.z b = some vs ∨ w.heap.size ≤ b ∨ ∃ j M, μ1 j = some M ∧ (H1.get j).live = true ∧ M.b = b := by
  rcases z j M h with h1 | ⟨_, h1⟩
  · exact .inr (.inr ⟨j, M, h1, by rw [← g.get j (hr.dom j M h1).1]; exact hl, he⟩)
  · obtain ⟨us, hu⟩ := h1 hl
    have := l4 _ _ (l3 _ _ (by rw [y]; exact hu))
    rw [he] at this hu
    rw [hb] at this
    cases this
    exact .inl hu
def extP (tab : List (List V × V)) (args : List V) (H : Heap) : Option R :=
  match frzAs args H with
  | some p => match tab.find? (fun q => V.beqs q.1 p.1) with
    | some q => some (q.2, p.2)
    | none => none
  | none => none
theorem extP_frame (tab : List (List V × V)) : ExtFrame (extP tab) := by
  intro args H v H' X G h e
  unfold extP at h ⊢
  split at h
  · rename_i p hp
    obtain ⟨G', g1, g2⟩ := frzAs_frame e hp
    rw [g1]
    split at h
    · rename_i u hu
      simp at h
      obtain ⟨rfl, rfl⟩ := h
      simp only [hu]
      exact ⟨G', rfl, g2⟩
    · cases h
  · cases h
theorem extPure {C0 : Cfg} (ok : C0.Ok) {f : FuncId} {tab : List (List V × V)} (hc : ∀ q ∈ tab, V.frees q.1 = true ∧ q.2.free = true ∧ ∃ n H1, callA C0 n f q.1 ⟨0, .nil⟩ = some (q.2, H1)) : ExtSound C0.P f (extP tab) := by
  intro args H u H' hg B n0 w0 w μ xs hr hn hv
  unfold extP at hg
  split at hg
  · rename_i p hp
    split at hg
    · rename_i q hq
      simp at hg
      obtain ⟨rfl, rfl⟩ := hg
      obtain ⟨μ1, s1, v1⟩ := frzAs_sound (n0 := n0) hr (vs' := p.1) (H' := p.2) hp hv
      have hbq := List.find?_some hq
      have hmem := List.mem_of_find?_eq_some hq
      obtain ⟨f1, f2, n, H1, hrun⟩ := hc q hmem
      have he : q.1 = p.1 := V.beqs_eq hbq
      have h0 := pure_start s1.rel
      have va : VRels ⟨fun _ => none, μ1.z⟩ q.1 xs.toList := VRels.free (μ := μ1) (ν := ⟨fun _ => none, μ1.z⟩) (fun b vs h => h) _ _ f1 (by rw [he]; exact v1)
      refine Gives.mono ?_ (callA_sound ok n f q.1 _ _ H1 hrun B 0 w0 w _ xs h0 (Nat.le_refl _) va)
      rintro x w' ⟨μ2, s, v2⟩
      exact ⟨⟨μ1.f, μ2.z⟩, s1.trans (pure_end s1.rel s), VRel.free (μ := μ2) (ν := ⟨μ1.f, μ2.z⟩) (fun b vs h => h) _ _ f2 v2⟩
    · cases hg
  · cases hg
theorem extSound {C0 : Cfg} (ok : C0.Ok) {f : FuncId} {dom : List V → Option V}
    (h : ∀ args v, dom args = some v → V.flats args = true ∧ v.free = true ∧ ∀ base H args', base ≤ H.n → Ths base H args args' →
      ∃ n v0 H0 ids, callA C0 n f args' H = some (v0, H0) ∧ H.n ≤ H0.n ∧ (∀ i, i < H.n → H0.get i = H.get i) ∧ frzV H0 6 v0 = some (v, ids) ∧ ∀ j ∈ ids, base ≤ j) :
    ExtSound C0.P f (extF dom) := by
  intro args H v H' hg B n0 w0 w μ xs hr hn hv
  unfold extF at hg
  split at hg
  · rename_i p hp
    split at hg
    · rename_i u hu
      simp at hg
      obtain ⟨rfl, rfl⟩ := hg
      obtain ⟨hflat, hfree, hrun⟩ := h _ _ hu
      obtain ⟨μ1, s1, v1⟩ := frzAs_sound (n0 := n0) hr (vs' := p.1) (H' := p.2) hp hv
      obtain ⟨μ2, H2, args', g2, z2, y2, r2, v2, t2⟩ := thaws (base := p.2.n) p.1 xs.toList μ1 p.2 hflat (Nat.le_refl _) s1.rel v1
      obtain ⟨n, v0, H0, ids, hc, hn0, hget, hz, hids⟩ := hrun p.2.n H2 args' g2.n t2
      refine Gives.mono ?_ (callA_sound ok n f args' H2 v0 H0 hc B 0 w0 w μ2 xs r2 (Nat.zero_le _) v2)
      rintro x w' ⟨μ3, s3, v3⟩
      have s4 := s3.rel.freeze (n0 := 0) (frzV_ids 6 hz)
      have v4 := frzV_rel s3.rel 6 _ _ _ hz (fun _ h => h) v3
      have s5 := Rel.forget (n0 := n0) s1.rel (Mu.le_trans g2.le (Mu.le_trans s3.le s4.le)) s4.rel (H := p.2) (fun i hi => by
        rw [killL_get, if_neg (fun hm => by have := hids i hm; omega), hget i (Nat.lt_of_lt_of_le hi g2.n), g2.get i hi]) s3.size (fun b hb hf => s3.keeps b hb fun i L e o => by
          rcases z2 i L e with e' | e'
          · exact hf i L e' (by rw [← g2.get i (s1.rel.dom i L e').1]; exact o)
          · rw [e'.1] at o; cases o) (fun b vs hb => by
          rcases s4.znew b vs hb with h4 | h4 | ⟨j, M, h4, h5, h6⟩
          · rcases s3.znew b vs h4 with h7 | h7 | ⟨j, M, h7, h8, h9⟩
            · rw [y2] at h7; exact .inl h7
            · exact .inr (.inl h7)
            · exact thaw_z s1.rel g2 z2 y2 (s3.le.z) (s4.le.z) hb h7 h8 h9
          · exact .inr (.inl (Nat.le_trans s3.size h4))
          · rcases s3.new j M h4 with ⟨f1, _, f2⟩ | ⟨_, f3 | ⟨j', M', f3, f4, _, f5⟩⟩
            · exact thaw_z s1.rel g2 z2 y2 (s3.le.z) (s4.le.z) hb f1 (f2 h5) h6
            · exact .inr (.inl (by omega))
            · exact thaw_z s1.rel g2 z2 y2 (s3.le.z) (s4.le.z) hb f3 (f5 h5) (by omega))
      exact ⟨_, s1.trans s5, VRel.free (μ := μ3.frz w' ids) (ν := μ1.mix (μ3.frz w' ids)) (fun b vs h => h) _ _ hfree v4⟩
    · cases hg
  · cases hg
end
end Go.AM
end
section
set_option linter.unusedVariables false
set_option linter.unusedSimpArgs false
namespace Go.AM
def bnd {α β : Type} (x : Option α) (f : α → Option β) : Option β :=
  match x with
  | some a => f a
  | none => none
@[simp] theorem bnd_some {α β : Type} (a : α) (f : α → Option β) : bnd (some a) f = f a := (Eq.refl _).trans (Eq.refl _)
@[simp] theorem bnd_none {α β : Type} (f : α → Option β) : bnd none f = none := (Eq.refl _).trans (Eq.refl _)
abbrev B2 := {α β : Type} → Option α → (α → Option β) → Option β
theorem bd_bnd {T : Type} {x : T} (f : B2 → T) (h : x = f @bd) : x = f @bnd := h.trans (by
  have : (@bd : B2) = @bnd := rfl
  rw [this])
def Tot (c : Nat → Option R) (Q : V → Heap → Prop) : Prop := ∃ v H, Q v H ∧ ∃ n0, ∀ n, n0 ≤ n → c n = some (v, H)
def Big (m : Nat → Nat) : Prop := ∀ k, ∃ n0, ∀ n, n0 ≤ n → k ≤ m n
theorem Big.id : Big fun n => n := fun k => ⟨k, fun _ h => h⟩
theorem Tot.eq {c c' : Nat → Option R} {Q : V → Heap → Prop} (he : ∀ n, c n = c' n) (h : Tot c' Q) : Tot c Q := by
  rw [show c = c' from funext he]; exact h
theorem Tot.ret {v : V} {H : Heap} {Q : V → Heap → Prop} (h : Q v H) : Tot (fun _ => some (v, H)) Q := ⟨v, H, h, 0, fun _ _ => rfl⟩
theorem Tot.mono {c : Nat → Option R} {Q Q' : V → Heap → Prop} (h : Tot c Q) (k : ∀ v H, Q v H → Q' v H) : Tot c Q' := by
  obtain ⟨v, H, h1, h2⟩ := h
  exact ⟨v, H, k _ _ h1, h2⟩
theorem Tot.of {c : Nat → Option R} {P : V → Heap → Prop} (h : ∀ Q : V → Heap → Prop, (∀ v H, P v H → Q v H) → Tot c Q) : Tot c P := h P fun _ _ x => x
theorem Tot.bind {f : Nat → Option R} {k : Nat → R → Option R} {Q Q' : V → Heap → Prop} (hf : Tot f Q') (hk : ∀ v H, Q' v H → Tot (fun n => k n (v, H)) Q) : Tot (fun n => bnd (f n) (k n)) Q := by
  obtain ⟨v, H, h1, n0, h2⟩ := hf
  obtain ⟨u, G, h3, n1, h4⟩ := hk v H h1
  refine ⟨u, G, h3, max n0 n1, fun n hn => ?_⟩
  show bnd (f n) (k n) = _
  rw [h2 n (by omega)]
  exact h4 n (by omega)
theorem Tot.fn {f g : Nat → Option R} {Q : V → Heap → Prop} (he : ∀ n, f (n + 1) = g n) (h : Tot g Q) : Tot f Q := by
  obtain ⟨v, H, h1, n0, h2⟩ := h
  refine ⟨v, H, h1, n0 + 1, fun n hn => ?_⟩
  obtain ⟨m, rfl⟩ : ∃ m, n = m + 1 := ⟨n - 1, by omega⟩
  rw [he]
  exact h2 m (by omega)
theorem Tot.loop {f g : Nat → Nat → Option R} {Q : V → Heap → Prop} {m : Nat → Nat} (hm : Big m) (he : ∀ n k, f n (k + 1) = g n k) (h : ∀ m', Big m' → Tot (fun n => g n (m' n)) Q) : Tot (fun n => f n (m n)) Q := by
  obtain ⟨v, H, h1, n0, h2⟩ := h (fun n => m n - 1) (fun k => by obtain ⟨n0, h⟩ := hm (k + 1); exact ⟨n0, fun n hn => by have := h n hn; show k ≤ m n - 1; omega⟩)
  obtain ⟨n1, h3⟩ := hm 1
  refine ⟨v, H, h1, max n0 n1, fun n hn => ?_⟩
  show f n (m n) = _
  have h4 := h3 n (by omega)
  have h5 := h2 n (by omega)
  have h6 := he n (m n - 1)
  rw [show m n - 1 + 1 = m n by omega] at h6
  rw [h6]; exact h5
theorem Tot.ite {c : Prop} [Decidable c] {a b : Nat → Option R} {Q : V → Heap → Prop} (ha : c → Tot a Q) (hb : ¬c → Tot b Q) : Tot (fun n => if c then a n else b n) Q := by
  by_cases h : c
  · simp only [h, if_true]; exact ha h
  · simp only [h, if_false]; exact hb h
theorem Tot.at {c : Nat → Option R} {v : V} {Q : Heap → Prop} (h : Tot c fun u H => u = v ∧ Q H) : ∃ n H, c n = some (v, H) := by
  obtain ⟨u, H, ⟨rfl, _⟩, n0, h2⟩ := h
  exact ⟨n0, H, h2 n0 (Nat.le_refl _)⟩
end Go.AM
end
section
set_option linter.unusedVariables false
set_option linter.unusedSimpArgs false
namespace Go.AM
def nth (l : List Nat) (i : Nat) : Nat := l.getD i 0
def val (b : Nat) : List Nat → Nat
  | [] => 0
  | x :: l => x + b * val b l
def Lim (b : Nat) (l : List Nat) : Prop := ∀ x, x ∈ l → x < b
def trimZ (l : List Nat) : List Nat := (l.reverse.dropWhile (· == 0)).reverse
def dig (b x : Nat) : List Nat := if h : 2 ≤ b ∧ x ≠ 0 then x % b :: dig b (x / b) else []
termination_by x
decreasing_by exact Nat.div_lt_self (by omega) (by omega)
theorem dig_zero {b : Nat} : dig b 0 = [] := by rw [dig]; simp
theorem dig_pos {b x : Nat} (hb : 2 ≤ b) (hx : x ≠ 0) : dig b x = x % b :: dig b (x / b) := by rw [dig]; simp [hb, hx]
theorem trimZ_zero {l : List Nat} : trimZ (l ++ [0]) = trimZ l := by simp [trimZ]
theorem trimZ_last {l : List Nat} {x : Nat} (h : x ≠ 0) : trimZ (l ++ [x]) = l ++ [x] := by simp [trimZ, h]
theorem Lim.nil {b : Nat} : Lim b [] := by intro x h; cases h
theorem Lim.cons {b x : Nat} {l : List Nat} : Lim b (x :: l) ↔ x < b ∧ Lim b l := by simp [Lim]
theorem Lim.app {b : Nat} {l l' : List Nat} : Lim b (l ++ l') ↔ Lim b l ∧ Lim b l' := by
  simp only [Lim, List.mem_append]
  exact ⟨fun h => ⟨fun x hx => h x (.inl hx), fun x hx => h x (.inr hx)⟩, fun h x hx => hx.elim (h.1 x) (h.2 x)⟩
theorem Lim.one {b x : Nat} : Lim b [x] ↔ x < b := by simp [Lim]
theorem Lim.take {b n : Nat} {l : List Nat} (h : Lim b l) : Lim b (l.take n) := fun x hx => h x (List.mem_of_mem_take hx)
theorem Lim.drop {b n : Nat} {l : List Nat} (h : Lim b l) : Lim b (l.drop n) := fun x hx => h x (List.mem_of_mem_drop hx)
theorem Lim.nth {b i : Nat} {l : List Nat} (h : Lim b l) (hb : 0 < b) : nth l i < b := by
  rw [AM.nth, List.getD_eq_getElem?_getD]
  cases e : l[i]? with
  | none => simpa using hb
  | some x => exact h x (List.mem_of_getElem? e)
theorem Lim.set {b i x : Nat} {l : List Nat} (h : Lim b l) (hx : x < b) : Lim b (l.set i x) := by
  intro y hy
  rcases List.mem_or_eq_of_mem_set hy with h1 | h1
  · exact h y h1
  · omega
theorem val_nil {b : Nat} : val b [] = 0 := rfl
theorem val_cons {b x : Nat} {l : List Nat} : val b (x :: l) = x + b * val b l := rfl
theorem val_app {b : Nat} : ∀ {l l' : List Nat}, val b (l ++ l') = val b l + b ^ l.length * val b l'
  | [], l' => by simp [val]
  | x :: l, l' => by
    simp only [List.cons_append, val, val_app (l := l), List.length_cons, Nat.pow_succ]
    rw [Nat.mul_add, Nat.add_assoc, ← Nat.mul_assoc, Nat.mul_comm b (b ^ l.length)]
theorem val_one {b x : Nat} : val b [x] = x := by simp [val]
theorem val_snoc {b x : Nat} {l : List Nat} : val b (l ++ [x]) = val b l + b ^ l.length * x := by rw [val_app, val_one]
theorem val_zero {b : Nat} : ∀ {n : Nat}, val b (List.replicate n 0) = 0
  | 0 => rfl
  | n + 1 => by simp [List.replicate_succ, val, val_zero (n := n)]
theorem val_lt {b : Nat} : ∀ {l : List Nat}, Lim b l → val b l < b ^ l.length
  | [], _ => by simp [val]
  | x :: l, h => by
    rw [Lim.cons] at h
    have := val_lt h.2
    simp only [val, List.length_cons, Nat.pow_succ]
    have h2 : b * (val b l + 1) ≤ b * b ^ l.length := Nat.mul_le_mul_left b this
    rw [Nat.mul_add, Nat.mul_one] at h2
    rw [Nat.mul_comm (b ^ l.length)]
    omega
theorem val_take_drop {b n : Nat} {l : List Nat} (h : n ≤ l.length) : val b l = val b (l.take n) + b ^ n * val b (l.drop n) := by
  conv => lhs; rw [← List.take_append_drop n l]
  rw [val_app]; simp [Nat.min_eq_left h]
theorem snoc_cases {α : Type} (l : List α) : l = [] ∨ ∃ l' x, l = l' ++ [x] := by
  rcases List.eq_nil_or_concat l with h | ⟨l', x, h⟩
  · exact .inl h
  · exact .inr ⟨l', x, by simpa using h⟩
theorem val_trimZ {b : Nat} : ∀ (n : Nat) {l : List Nat}, l.length = n → val b (trimZ l) = val b l
  | 0, l, h => by have := List.eq_nil_of_length_eq_zero h; subst this; rfl
  | n + 1, l, h => by
    rcases snoc_cases l with rfl | ⟨l', x, rfl⟩
    · simp at h
    · by_cases hx : x = 0
      · subst hx; rw [trimZ_zero, val_snoc, val_trimZ n (by simpa using h)]; simp
      · rw [trimZ_last hx]
theorem trimZ_len_le : ∀ (n : Nat) {l : List Nat}, l.length = n → (trimZ l).length ≤ l.length
  | 0, l, h => by have := List.eq_nil_of_length_eq_zero h; subst this; simp [trimZ]
  | n + 1, l, h => by
    rcases snoc_cases l with rfl | ⟨l', x, rfl⟩
    · simp at h
    · by_cases hx : x = 0
      · subst hx; rw [trimZ_zero]; have := trimZ_len_le n (l := l') (by simpa using h); simp; omega
      · rw [trimZ_last hx]; simp
theorem trimZ_take : ∀ (n : Nat) {l : List Nat}, l.length = n → trimZ l = l.take (trimZ l).length
  | 0, l, h => by have := List.eq_nil_of_length_eq_zero h; subst this; simp [trimZ]
  | n + 1, l, h => by
    rcases snoc_cases l with rfl | ⟨l', x, rfl⟩
    · simp at h
    · by_cases hx : x = 0
      · subst hx; rw [trimZ_zero]
        have h1 := trimZ_len_le n (l := l') (by simpa using h)
        have h2 := trimZ_take n (l := l') (by simpa using h)
        rw [List.take_append_of_le_length h1]; exact h2
      · rw [trimZ_last hx, List.take_length]
theorem Lim.trimZ {b : Nat} {l : List Nat} (h : Lim b l) : Lim b (trimZ l) := by rw [trimZ_take _ rfl]; exact h.take
def Trimmed (l : List Nat) : Prop := trimZ l = l
theorem Trimmed.last {l : List Nat} {x : Nat} (h : Trimmed (l ++ [x])) : x ≠ 0 := by
  intro e; subst e
  unfold Trimmed at h
  rw [trimZ_zero] at h
  have h1 := trimZ_len_le _ (l := l) rfl
  rw [h] at h1; simp at h1; omega
theorem trimZ_trimmed : ∀ (n : Nat) {l : List Nat}, l.length = n → Trimmed (trimZ l)
  | 0, l, h => by have := List.eq_nil_of_length_eq_zero h; subst this; rfl
  | n + 1, l, h => by
    rcases snoc_cases l with rfl | ⟨l', x, rfl⟩
    · simp at h
    · by_cases hx : x = 0
      · subst hx; rw [trimZ_zero]; exact trimZ_trimmed n (by simpa using h)
      · rw [trimZ_last hx]; exact trimZ_last hx
theorem dig_lim {b : Nat} (hb : 2 ≤ b) : ∀ (x : Nat), Lim b (dig b x) := by
  intro x
  induction x using Nat.strongRecOn with
  | ind x ih =>
    by_cases hx : x = 0
    · subst hx; rw [dig_zero]; exact Lim.nil
    · rw [dig_pos hb hx, Lim.cons]; exact ⟨Nat.mod_lt _ (by omega), ih _ (Nat.div_lt_self (by omega) (by omega))⟩
theorem val_dig {b : Nat} (hb : 2 ≤ b) : ∀ (x : Nat), val b (dig b x) = x := by
  intro x
  induction x using Nat.strongRecOn with
  | ind x ih =>
    by_cases hx : x = 0
    · subst hx; rw [dig_zero]; rfl
    · rw [dig_pos hb hx, val, ih _ (Nat.div_lt_self (by omega) (by omega))]; exact Nat.mod_add_div _ _
theorem dig_of_trimmed {b : Nat} (hb : 2 ≤ b) : ∀ {l : List Nat}, Lim b l → Trimmed l → dig b (val b l) = l
  | [], _, _ => by simp [val, dig_zero]
  | x :: l, h, ht => by
    rw [Lim.cons] at h
    have ht' : Trimmed l := by
      rcases snoc_cases l with rfl | ⟨l', y, rfl⟩
      · rfl
      · have : Trimmed ((x :: l') ++ [y]) := ht
        exact trimZ_last this.last
    have hne : val b (x :: l) ≠ 0 := by
      intro e
      simp only [val] at e
      have hx0 : x = 0 := by omega
      have hb0 : b * val b l = 0 := by omega
      have hv0 : val b l = 0 := by
        rcases Nat.mul_eq_zero.1 hb0 with h1 | h1
        · omega
        · exact h1
      have hl := dig_of_trimmed hb h.2 ht'
      rw [hv0, dig_zero] at hl
      subst hl; subst hx0
      exact (Trimmed.last (l := []) ht) rfl
    rw [dig_pos hb hne]
    simp only [val]
    rw [Nat.add_mul_mod_self_left, Nat.mod_eq_of_lt h.1, Nat.add_mul_div_left _ _ (by omega), Nat.div_eq_of_lt h.1, Nat.zero_add, dig_of_trimmed hb h.2 ht']
theorem trimZ_dig {b : Nat} (hb : 2 ≤ b) {l : List Nat} (h : Lim b l) : trimZ l = dig b (val b l) := by
  rw [← val_trimZ _ rfl, dig_of_trimmed hb h.trimZ (trimZ_trimmed _ rfl)]
theorem dig_trimmed {b : Nat} (hb : 2 ≤ b) (x : Nat) : Trimmed (dig b x) := by
  unfold Trimmed; rw [trimZ_dig hb (dig_lim hb x), val_dig hb]
theorem dig_eq_nil {b x : Nat} (hb : 2 ≤ b) : dig b x = [] ↔ x = 0 := by
  constructor
  · intro h
    have := val_dig hb x
    rw [h] at this; simpa [val] using this.symm
  · rintro rfl; exact dig_zero
theorem dig_len_le {b x n : Nat} (hb : 2 ≤ b) (h : x < b ^ n) : (dig b x).length ≤ n := by
  rcases snoc_cases (dig b x) with e | ⟨l, y, e⟩
  · rw [e]; simp
  · have ht := dig_trimmed hb x
    rw [e] at ht
    have hy := ht.last
    have hv := val_dig hb x
    rw [e, val_snoc] at hv
    rw [e]; simp
    apply Nat.lt_of_not_le
    intro hn
    have h1 : b ^ n ≤ b ^ l.length := Nat.pow_le_pow_right (by omega) hn
    have h2 : b ^ l.length * 1 ≤ b ^ l.length * y := Nat.mul_le_mul_left _ (by omega)
    omega
theorem dig_len_lt {b x : Nat} (hb : 2 ≤ b) : x < b ^ (dig b x).length := by
  have := val_lt (dig_lim hb x)
  rwa [val_dig hb] at this
theorem lt_of_len {b x y : Nat} (hb : 2 ≤ b) (h : (dig b x).length < (dig b y).length) : x < y := by
  have h1 := dig_len_lt (b := b) (x := x) hb
  apply Nat.lt_of_not_le
  intro hyx
  have := dig_len_le hb (Nat.lt_of_le_of_lt hyx h1)
  omega
theorem val_lt_of_top {b x y : Nat} {l l' : List Nat} (h : Lim b l) (he : l.length = l'.length) (hxy : x < y) : val b (l ++ [x]) < val b (l' ++ [y]) := by
  rw [val_snoc, val_snoc, ← he]
  have h1 := val_lt h
  have h2 : b ^ l.length * (x + 1) ≤ b ^ l.length * y := Nat.mul_le_mul_left _ hxy
  rw [Nat.mul_add, Nat.mul_one] at h2
  omega
theorem nth_app_len {l : List Nat} {x : Nat} : nth (l ++ [x]) l.length = x := by simp [nth, List.getD_eq_getElem?_getD]
theorem take_succ_nth {l : List Nat} {i : Nat} (h : i < l.length) : l.take (i + 1) = l.take i ++ [nth l i] := by
  rw [nth, List.take_add_one, List.getD_eq_getElem?_getD, List.getElem?_eq_getElem h]; rfl
theorem drop_eq_nth_cons {l : List Nat} {i : Nat} (h : i < l.length) : l.drop i = nth l i :: l.drop (i + 1) := by
  rw [nth, List.getD_eq_getElem?_getD, List.getElem?_eq_getElem h]; exact List.drop_eq_getElem_cons h
end Go.AM
end
section
set_option linter.unusedVariables false
set_option linter.unusedSimpArgs false
namespace Go.AM
theorem Tot.yes {c : Prop} [Decidable c] {a b : Nat → Option R} {Q : V → Heap → Prop} (h : c) (ha : Tot a Q) : Tot (fun n => if c then a n else b n) Q := Tot.ite (fun _ => ha) fun k => (k h).elim
theorem Tot.no {c : Prop} [Decidable c] {a b : Nat → Option R} {Q : V → Heap → Prop} (h : ¬ c) (hb : Tot b Q) : Tot (fun n => if c then a n else b n) Q := Tot.ite (fun k => (h k).elim) fun _ => hb
structure Ch (X : Nat → Prop) (H H' : Heap) : Prop where
  n : H.n ≤ H'.n
  get : ∀ i, i < H.n → ¬ X i → H'.get i = H.get i
abbrev Ext0 (H H' : Heap) : Prop := Ch (fun _ => False) H H'
theorem Ch.refl {X : Nat → Prop} {H : Heap} : Ch X H H := ⟨Nat.le_refl _, fun _ _ _ => rfl⟩
theorem Ch.trans {X Y : Nat → Prop} {H H' H'' : Heap} (h : Ch X H H') (k : Ch Y H' H'') (hXY : ∀ i, i < H.n → Y i → X i) : Ch X H H'' :=
  ⟨Nat.le_trans h.n k.n, fun i hi hx => (k.get i (Nat.lt_of_lt_of_le hi h.n) fun y => hx (hXY i hi y)).trans (h.get i hi hx)⟩
theorem Ch.t {X : Nat → Prop} {H H' H'' : Heap} (h : Ch X H H') (k : Ext0 H' H'') : Ch X H H'' := h.trans k fun _ _ f => f.elim
theorem Ch.mono {X Y : Nat → Prop} {H H' : Heap} (h : Ch X H H') (hXY : ∀ i, i < H.n → X i → Y i) : Ch Y H H' := ⟨h.n, fun i hi hy => h.get i hi fun x => hy (hXY i hi x)⟩
theorem Ch.ext {X : Nat → Prop} {H H' : Heap} (h : Ch X H H') (hX : ∀ i, i < H.n → ¬ X i) : Ext0 H H' := h.mono fun i hi x => (hX i hi x).elim
theorem Ch.push {X : Nat → Prop} {H : Heap} {o : O} : Ch X H (H.push o) := ⟨by simp, fun i hi _ => by rw [Heap.get_push, if_neg (by omega)]⟩
theorem Ch.push' {X : Nat → Prop} {H H' : Heap} {o : O} (h : Ch X H H') : Ch X H (H'.push o) := h.trans (Y := X) Ch.push fun _ _ y => y
theorem Ch.set {X : Nat → Prop} {H : Heap} {i : Nat} {o : O} (hi : X i) : Ch X H (H.set i o) := ⟨by simp, fun j hj hx => by rw [Heap.get_set, if_neg (fun e => hx (by rw [e]; exact hi))]⟩
theorem Ch.more {X : Nat → Prop} {H : Heap} {m : Nat} : Ch X H (H.more m) := ⟨by simp, fun i hi _ => rfl⟩
theorem npz {H : Heap} {o : O} : (H.push o).n = H.n + 1 := (Eq.refl _).trans (Eq.refl _)
theorem nsz {H : Heap} {i : Nat} {o : O} : (H.set i o).n = H.n := (Eq.refl _).trans (Eq.refl _)
theorem nmz {H : Heap} {m : Nat} : (H.more m).n = H.n + m := (Eq.refl _).trans (Eq.refl _)
theorem Heap.gqz {H : Heap} {i : Nat} {o : O} (h : i ≠ H.n) : (H.push o).get i = H.get i := by rw [Heap.get_push, if_neg h]
theorem Heap.gpz {H : Heap} {i : Nat} {o : O} (h : i = H.n) : (H.push o).get i = o := by rw [Heap.get_push, if_pos h]
theorem Heap.gtz {H : Heap} {i j : Nat} {o : O} (h : i ≠ j) : (H.set j o).get i = H.get i := by rw [Heap.get_set, if_neg h]
theorem Heap.gsz {H : Heap} {i j : Nat} {o : O} (h : i = j) : (H.set j o).get i = o := by rw [Heap.get_set, if_pos h]
abbrev nums (k : IntKind) (l : List Nat) : List V := l.map fun (x : Nat) => V.int k x
structure Row (H : Heap) (k : IntKind) (s : Sl) (l : List Nat) : Prop where
  len : s.len = l.length
  low : ∀ b o, s.ad = some (b, o) → b < H.n ∧ s.esz = 1
  mem : l ≠ [] → ∃ b o cs e ro, s.ad = some (b, o) ∧ H.get b = .cells cs e ro ∧ o + l.length ≤ cs.length ∧ (cs.drop o).take l.length = nums k l
def Sl.has (s : Sl) (i : Nat) : Prop := ∃ o, s.ad = some (i, o)
def Fr (n : Nat) (s : Sl) : Prop := ∀ i, s.has i → n ≤ i
def at_ (s : Sl) (i : Nat) : V := match s.ad with
  | some (b, o) => .ptr (some (b, o + i))
  | none => .dead
theorem Row.ch {X : Nat → Prop} {H H' : Heap} {k : IntKind} {s : Sl} {l : List Nat} (h : Row H k s l) (e : Ch X H H') (hX : ∀ i, s.has i → ¬ X i) : Row H' k s l := by
  refine ⟨h.len, fun b o hs => ⟨Nat.lt_of_lt_of_le (h.low b o hs).1 e.n, (h.low b o hs).2⟩, fun hl => ?_⟩
  obtain ⟨b, o, cs, e', ro, h1, h2, h3, h4⟩ := h.mem hl
  exact ⟨b, o, cs, e', ro, h1, by rw [e.get b (h.low b o h1).1 (hX b ⟨o, h1⟩)]; exact h2, h3, h4⟩
theorem Row.ext {H H' : Heap} {k : IntKind} {s : Sl} {l : List Nat} (h : Row H k s l) (e : Ext0 H H') : Row H' k s l := h.ch e fun _ _ f => f
theorem Row.lt {H : Heap} {k : IntKind} {s : Sl} {l : List Nat} (h : Row H k s l) {i : Nat} (hs : s.has i) : i < H.n := by
  obtain ⟨o, hs⟩ := hs; exact (h.low i o hs).1
theorem Row.nil {H : Heap} {k : IntKind} {z : Nat} {f : Bool} : Row H k ⟨none, 0, z, f⟩ [] := ⟨rfl, fun _ _ h => (by cases h), fun h => (h rfl).elim⟩
theorem Row.new {H : Heap} {k : IntKind} {l : List Nat} {b e : Nat} {ro f : Bool} (hb : b < H.n) (hg : H.get b = .cells (nums k l) e ro) : Row H k ⟨some (b, 0), l.length, 1, f⟩ l :=
  ⟨rfl, fun c o h => by (cases h; exact ⟨hb, rfl⟩), fun _ => ⟨b, 0, nums k l, e, ro, rfl, hg, by simp, by rw [List.drop_zero, List.take_of_length_le (by simp)]⟩⟩
theorem Row.lenSl {H : Heap} {k : IntKind} {s : Sl} {l : List Nat} (h : Row H k s l) : lenSl (.slice s) = some (.int .i64 (l.length : Int)) := by
  simp [AM.lenSl, h.len]
theorem Row.idx {H : Heap} {k : IntKind} {s : Sl} {l : List Nat} (h : Row H k s l) {q : IntKind} {i : Int} (h0 : 0 ≤ i) (h1 : i < (l.length : Int)) : idxS 1 (.slice s) (.int q i) = some (at_ s i.toNat) := by
  have hl : l ≠ [] := by intro e; subst e; simp at h1; omega
  obtain ⟨b, o, cs, e', ro, a1, a2, a3, a4⟩ := h.mem hl
  have := (h.low b o a1).2
  simp [idxS, a1, h0, h.len, h1, this, at_]
theorem Row.idxN {H : Heap} {k : IntKind} {s : Sl} {l : List Nat} (h : Row H k s l) {i : Nat} (hi : i < l.length) {q : IntKind} {iv : Int} (he : iv = (i : Int)) : idxS 1 (.slice s) (.int q iv) = some (at_ s i) := by
  rw [h.idx (by omega) (by omega)]; subst he; simp
theorem Row.get {H : Heap} {k : IntKind} {s : Sl} {l : List Nat} (h : Row H k s l) {i : Nat} (hi : i < l.length) : ld1 (at_ s i) H = some (.int k (nth l i : Nat)) := by
  have hl : l ≠ [] := by intro e; subst e; simp at hi
  obtain ⟨b, o, cs, e', ro, a1, a2, a3, a4⟩ := h.mem hl
  simp only [at_, a1, ld1, a2]
  have h5 : ((cs.drop o).take l.length)[i]? = (nums k l)[i]? := by rw [a4]
  rw [List.getElem?_take, if_pos hi, List.getElem?_drop] at h5
  rw [h5]
  simp [nums, nth, List.getElem?_eq_getElem hi, List.getD_eq_getElem?_getD]
theorem Row.ld {H : Heap} {k : IntKind} {s : Sl} {l : List Nat} (h : Row H k s l) {i : Int} (h0 : 0 ≤ i) (h1 : i < (l.length : Int)) : ld1 (at_ s i.toNat) H = some (.int k (nth l i.toNat : Nat)) :=
  h.get (by omega)
theorem Row.rd {H : Heap} {k : IntKind} {s : Sl} {l : List Nat} (h : Row H k s l) : rdS s H = some (nums k l) := by
  by_cases hl : l = []
  · subst hl
    have := h.len
    simp at this
    unfold rdS
    split <;> simp [this, nums]
  · obtain ⟨b, o, cs, e', ro, a1, a2, a3, a4⟩ := h.mem hl
    have h2 := (h.low b o a1).2
    have hn : ¬ s.len = 0 := by rw [h.len]; simpa using hl
    unfold rdS
    rw [a1]
    simp only [if_neg hn, a2, h2, Nat.mul_one]
    rw [h.len, if_pos a3, a4]
theorem Row.src {H : Heap} {k : IntKind} {s : Sl} {l : List Nat} (h : Row H k s l) : srcA 1 (.slice s) H = some (l.length, nums k l) := by
  have : s.ad.isNone = true ∨ s.esz = 1 := by
    cases hs : s.ad with
    | none => exact .inl rfl
    | some p => exact .inr (h.low p.1 p.2 (by rw [hs])).2
  simp only [srcA, if_pos this, h.rd, Option.map_some, h.len]
def subS (s : Sl) (lo hi : Nat) : Sl := ⟨s.ad.map fun (b, o) => (b, o + lo), hi - lo, 1, false⟩
theorem subS_has {s : Sl} {lo hi i : Nat} : (subS s lo hi).has i ↔ s.has i := by
  unfold Sl.has subS
  cases s.ad with
  | none => simp
  | some p => obtain ⟨b, o⟩ := p; simp
theorem Row.sub {H : Heap} {k : IntKind} {s : Sl} {l : List Nat} (h : Row H k s l) {lo hi : Nat} (h1 : lo ≤ hi) (h2 : hi ≤ l.length) : Row H k (subS s lo hi) ((l.drop lo).take (hi - lo)) := by
  refine ⟨by simp [subS]; omega, ?_, ?_⟩
  · intro b o hs
    unfold subS at hs ⊢
    cases ha : s.ad with
    | none => rw [ha] at hs; simp at hs
    | some p => rw [ha] at hs; simp at hs; exact ⟨by have := (h.low p.1 p.2 (by rw [ha])).1; omega, rfl⟩
  · intro hl
    have hne : l ≠ [] := by intro e; subst e; simp at hl
    obtain ⟨b, o, cs, e', ro, a1, a2, a3, a4⟩ := h.mem hne
    refine ⟨b, o + lo, cs, e', ro, by simp [subS, a1], a2, by simp; omega, ?_⟩
    have hlen : ((l.drop lo).take (hi - lo)).length = hi - lo := by simp; omega
    rw [hlen, ← List.drop_drop]
    have : ((cs.drop o).take l.length).drop lo = (nums k l).drop lo := by rw [a4]
    rw [List.drop_take] at this
    have h6 : (((cs.drop o).drop lo).take (l.length - lo)).take (hi - lo) = ((nums k l).drop lo).take (hi - lo) := by rw [this]
    rw [List.take_take, show min (hi - lo) (l.length - lo) = hi - lo by omega] at h6
    rw [h6]; simp [nums, List.map_drop, List.map_take]
theorem Row.slice {H : Heap} {k : IntKind} {s : Sl} {l : List Nat} (h : Row H k s l) {lo hi : Option V} {a b : Nat} (hlo : bndA 0 lo = some a) (hhi : bndA s.len hi = some b) (h1 : a ≤ b) (h2 : b ≤ l.length) :
    slSl 1 (.slice s) lo hi = some (.slice (subS s a b)) := by
  have : s.ad.isNone = true ∨ s.esz = 1 := by
    cases hs : s.ad with
    | none => exact .inl rfl
    | some p => exact .inr (h.low p.1 p.2 (by rw [hs])).2
  have h3 : b ≤ s.len := by rw [h.len]; exact h2
  simp only [slSl, hlo, hhi, Option.bind_some]
  rw [if_pos ⟨h1, h3, this⟩]
  simp [subS]
theorem bndA_int {d : Nat} {q : IntKind} {i : Int} (h : 0 ≤ i) : bndA d (some (.int q i)) = some i.toNat := by simp [bndA, h]
theorem bndA_none {d : Nat} : bndA d none = some d := rfl
theorem Fr.nil {n z l : Nat} {f : Bool} : Fr n ⟨none, l, z, f⟩ := fun i hi => by unfold Sl.has at hi; simp at hi
def Own (H : Heap) (k : IntKind) (e : Nat) (s : Sl) (l : List Nat) : Prop :=
  (s = ⟨none, 0, 0, false⟩ ∧ l = []) ∨ ∃ b, s = ⟨some (b, 0), l.length, 1, false⟩ ∧ b < H.n ∧ H.get b = .cells (nums k l) e false
theorem Own.row {H : Heap} {k : IntKind} {e : Nat} {s : Sl} {l : List Nat} (h : Own H k e s l) : Row H k s l := by
  rcases h with ⟨rfl, rfl⟩ | ⟨b, rfl, h1, h2⟩
  · exact Row.nil
  · exact Row.new h1 h2
theorem Own.ch {X : Nat → Prop} {H H' : Heap} {k : IntKind} {e : Nat} {s : Sl} {l : List Nat} (h : Own H k e s l) (c : Ch X H H') (hX : ∀ i, s.has i → ¬ X i) : Own H' k e s l := by
  rcases h with h | ⟨b, rfl, h1, h2⟩
  · exact .inl h
  · exact .inr ⟨b, rfl, Nat.lt_of_lt_of_le h1 c.n, by rw [c.get b h1 (hX b ⟨0, rfl⟩)]; exact h2⟩
theorem Own.ext {H H' : Heap} {k : IntKind} {e : Nat} {s : Sl} {l : List Nat} (h : Own H k e s l) (c : Ext0 H H') : Own H' k e s l := h.ch c fun _ _ f => f
theorem has_mk {b o len z : Nat} {f : Bool} {i : Nat} : (Sl.mk (some (b, o)) len z f).has i ↔ i = b := by
  unfold Sl.has; constructor
  · rintro ⟨o', h⟩; simp at h; exact h.1.symm
  · rintro rfl; exact ⟨o, rfl⟩
theorem has_none {len z : Nat} {f : Bool} {i : Nat} : (Sl.mk none len z f).has i ↔ False := by
  unfold Sl.has; simp
theorem rowA_nums {k : IntKind} : ∀ n, rowA [.int k 0] n = nums k (List.replicate n 0)
  | 0 => rfl
  | n + 1 => by
    have := rowA_nums (k := k) n
    simp only [rowA, this, nums, List.replicate_succ, List.map_cons, List.cons_append, List.nil_append]
    rfl
theorem appA_own {H : Heap} {k : IntKind} {e by_ : Nat} {s : Sl} {l l' : List Nat} (h : Own H k e s l) {x : V} (hx : srcA 1 x H = some (l'.length, nums k l')) (hl : l.length + l'.length < 2147483648) (hb : by_ ≤ 4096) :
    ∃ s' H', appA 1 by_ e (.slice s) x H = some (.slice s', H') ∧ Own H' k e s' (l ++ l') ∧ Ch s.has H H' ∧ (∀ i, s'.has i → s.has i ∨ H.n ≤ i) := by
  unfold appA
  simp only [hx, Option.bind_some]
  by_cases h0 : l'.length = 0
  · have : l' = [] := List.eq_nil_of_length_eq_zero h0
    subst this
    rw [if_pos (show ([] : List Nat).length = 0 from rfl)]
    refine ⟨_, H, rfl, ?_, Ch.refl, ?_⟩
    · rw [List.append_nil]
      rcases h with ⟨rfl, rfl⟩ | ⟨b, rfl, h1, h2⟩
      · exact .inl ⟨rfl, rfl⟩
      · exact .inr ⟨b, rfl, h1, h2⟩
    · rintro i ⟨o, ho⟩; exact .inl ⟨o, ho⟩
  · rw [if_neg h0]
    have hc : s.len + l'.length < 2147483648 ∧ by_ ≤ 4096 ∧ (s.ad.isNone = true ∨ s.esz = 1) := by
      refine ⟨by rw [h.row.len]; exact hl, hb, ?_⟩
      rcases h with ⟨rfl, rfl⟩ | ⟨b, rfl, h1, h2⟩
      · exact .inl rfl
      · exact .inr rfl
    rw [if_pos hc]
    simp only [h.row.rd, Option.bind_some]
    have hlen := h.row.len
    rcases h with ⟨rfl, rfl⟩ | ⟨b, rfl, h1, h2⟩
    · simp only [killA, Option.bind_some]
      refine ⟨_, _, rfl, .inr ⟨H.n, by simp, by simp, ?_⟩, Ch.push, ?_⟩
      · rw [Heap.gpz rfl]; simp [nums]
      · intro i hi; rw [has_mk] at hi; right; omega
    · simp only [killA, Bool.false_eq_true, if_false, h2, if_true, Option.bind_some]
      refine ⟨_, _, rfl, .inr ⟨H.n, by simp, by simp, ?_⟩, ?_, ?_⟩
      · rw [Heap.gpz (by simp)]; simp [nums]
      · exact (Ch.set (by rw [has_mk])).trans (Y := (Sl.mk (some (b, 0)) l.length 1 false).has) Ch.push fun _ _ y => y
      · intro i hi; rw [has_mk] at hi; right; simp at hi; omega
theorem Tot.app1 {H : Heap} {k : IntKind} {e by_ : Nat} {s : Sl} {l : List Nat} (h : Own H k e s l) {z : V} {x : Nat} {xi : Int} (hl : l.length < 2147483647) (hx : xi = (x : Int)) (hb : by_ ≤ 4096) (hz : [z].all V.one = true) {K : Nat → R → Option R} {Q : V → Heap → Prop}
    (hk : ∀ s' H', Own H' k e s' (l ++ [x]) → Ch s.has H H' → (∀ i, s'.has i → s.has i ∨ H.n ≤ i) → Tot (fun n => K n (.slice s', H')) Q) :
    Tot (fun n => bnd (bSl 1 e [z] 1 [(0, .int k xi)]) fun o => bnd (appA 1 by_ e (.slice s) (.slice ⟨some (H.n, 0), 1, 1, false⟩) (H.push o)) (K n)) Q := by
  subst hx
  have hz' : z.one = true := by simpa using hz
  have e1 : bSl 1 e [z] 1 [(0, .int k x)] = some (.cells [.int k x] e false) := by
    have h1 : ([z].length = 1) := rfl
    have h2 : V.cells (.int k (x : Int)) = [.int k x] := rfl
    simp [bSl, hz', rowA, fillA, h2, lset, show V.one (.int k (x : Int)) = true from rfl]
  rw [e1]
  show Tot (fun n => bnd (appA 1 by_ e (.slice s) (.slice ⟨some (H.n, 0), 1, 1, false⟩) (H.push (.cells [.int k x] e false))) (K n)) Q
  have hsrc : srcA 1 (.slice ⟨some (H.n, 0), 1, 1, false⟩) (H.push (.cells [.int k x] e false)) = some ([x].length, nums k [x]) := by
    have : Row (H.push (.cells [.int k x] e false)) k ⟨some (H.n, 0), 1, 1, false⟩ [x] := Row.new (l := [x]) (b := H.n) (e := e) (ro := false) (by simp) (by rw [Heap.gpz rfl]; simp [nums])
    exact this.src
  have h' : Own (H.push (.cells [.int k x] e false)) k e s l := h.ext Ch.push
  obtain ⟨s', H', a1, a2, a3, a4⟩ := appA_own (by_ := by_) h' hsrc (by simp; omega) hb
  rw [a1]
  refine hk s' H' a2 ((Ch.push (X := s.has)).trans a3 fun _ _ y => y) fun i hi => ?_
  rcases a4 i hi with h | h
  · exact .inl h
  · right; simp at h; omega
theorem Own.new {H : Heap} {k : IntKind} {e : Nat} {l : List Nat} : Own (H.push (.cells (nums k l) e false)) k e ⟨some (H.n, 0), l.length, 1, false⟩ l :=
  .inr ⟨H.n, rfl, by simp, Heap.gpz rfl⟩
theorem nums_rep {k : IntKind} {n : Nat} : nums k (List.replicate n 0) = List.replicate n (.int k 0) := by simp [nums]
theorem Own.make {H : Heap} {k : IntKind} {e n : Nat} : Own (H.push (.cells (List.replicate n (.int k 0)) e false)) k e ⟨some (H.n, 0), n, 1, false⟩ (List.replicate n 0) :=
  .inr ⟨H.n, by simp, by simp, by rw [nums_rep]; exact Heap.gpz rfl⟩
structure Mut (H : Heap) (k : IntKind) (e b : Nat) (p l q : List Nat) (s : Sl) : Prop where
  ad : s.ad = some (b, p.length)
  len : s.len = l.length
  esz : s.esz = 1
  lt : b < H.n
  get : H.get b = .cells (nums k (p ++ l ++ q)) e false
theorem Mut.row {H : Heap} {k : IntKind} {e b : Nat} {p l q : List Nat} {s : Sl} (h : Mut H k e b p l q s) : Row H k s l :=
  ⟨h.len, fun c o hs => by rw [h.ad] at hs; cases hs; exact ⟨h.lt, h.esz⟩, fun _ => ⟨b, p.length, _, e, false, h.ad, h.get, by simp <;> omega, by
    simp only [nums, List.map_append, List.append_assoc]
    rw [List.drop_left' (by simp)]
    rw [List.take_left' (by simp)]⟩⟩
theorem Mut.has {H : Heap} {k : IntKind} {e b : Nat} {p l q : List Nat} {s : Sl} (h : Mut H k e b p l q s) {i : Nat} : s.has i ↔ i = b := by
  unfold Sl.has; rw [h.ad]; constructor
  · rintro ⟨o, h⟩; simp at h; exact h.1.symm
  · rintro rfl; exact ⟨_, rfl⟩
theorem Mut.ch {X : Nat → Prop} {H H' : Heap} {k : IntKind} {e b : Nat} {p l q : List Nat} {s : Sl} (h : Mut H k e b p l q s) (c : Ch X H H') (hX : ¬ X b) : Mut H' k e b p l q s :=
  ⟨h.ad, h.len, h.esz, Nat.lt_of_lt_of_le h.lt c.n, by rw [c.get b h.lt hX]; exact h.get⟩
theorem Mut.ext {H H' : Heap} {k : IntKind} {e b : Nat} {p l q : List Nat} {s : Sl} (h : Mut H k e b p l q s) (c : Ext0 H H') : Mut H' k e b p l q s := h.ch c fun f => f
theorem Mut.own {H : Heap} {k : IntKind} {e b : Nat} {l : List Nat} {s : Sl} (h : Mut H k e b [] l [] s) (hf : s.full = false) : Own H k e s l := by
  refine .inr ⟨b, ?_, h.lt, by simpa using h.get⟩
  cases s with
  | mk a n z f =>
    have h1 := h.ad; have h2 := h.len; have h3 := h.esz
    simp at h1 h2 h3 hf
    subst h1 h2 h3 hf; rfl
theorem Own.mut {H : Heap} {k : IntKind} {e : Nat} {l : List Nat} {s : Sl} (h : Own H k e s l) (hl : l ≠ []) : ∃ b, Mut H k e b [] l [] s ∧ s.full = false := by
  rcases h with ⟨_, rfl⟩ | ⟨b, rfl, h1, h2⟩
  · exact (hl rfl).elim
  · exact ⟨b, ⟨rfl, rfl, rfl, h1, by simpa using h2⟩, rfl⟩
theorem Mut.make {H : Heap} {k : IntKind} {e n : Nat} : Mut (H.push (.cells (List.replicate n (.int k 0)) e false)) k e H.n [] (List.replicate n 0) [] ⟨some (H.n, 0), n, 1, false⟩ :=
  ⟨rfl, by simp, rfl, by simp, by rw [Heap.gpz rfl]; simp⟩
theorem Mut.part {H : Heap} {k : IntKind} {e b : Nat} {l p m q : List Nat} {s : Sl} (h : Mut H k e b [] l [] s) (he : l = p ++ m ++ q) : Mut H k e b p m q (subS s p.length (p.length + m.length)) :=
  ⟨by simp [subS, h.ad], by simp [subS], rfl, h.lt, by rw [h.get, he]; simp⟩
theorem Mut.whole {H : Heap} {k : IntKind} {e b : Nat} {l p m q : List Nat} {s t : Sl} (h : Mut H k e b p m q t) (hs : s.ad = some (b, 0)) (hz : s.esz = 1) (he : l = p ++ m ++ q) (hn : s.len = l.length) : Mut H k e b [] l [] s :=
  ⟨hs, hn, hz, h.lt, by rw [h.get, he]; simp⟩
theorem Mut.cut {H : Heap} {k : IntKind} {e b i j : Nat} {l : List Nat} {s : Sl} (h : Mut H k e b [] l [] s) (h1 : i ≤ j) (h2 : j ≤ l.length) : Mut H k e b (l.take i) ((l.drop i).take (j - i)) (l.drop j) (subS s i j) := by
  have he : l = l.take i ++ (l.drop i).take (j - i) ++ l.drop j := by
    have e1 : l.drop j = (l.drop i).drop (j - i) := by rw [List.drop_drop]; congr 1; omega
    rw [e1, List.append_assoc, List.take_append_drop, List.take_append_drop]
  have := h.part he
  have e1 : (l.take i).length = i := by simp; omega
  have e2 : ((l.drop i).take (j - i)).length = j - i := by simp; omega
  rw [e1, e2, show i + (j - i) = j by omega] at this
  exact this
theorem Mut.pre {H : Heap} {k : IntKind} {e b : Nat} {l l1 l2 q : List Nat} {s t : Sl} (h : Mut H k e b [] l q s) (he : l = l1 ++ l2) (h1 : t.ad = s.ad) (h2 : t.esz = 1) (h3 : t.len = l1.length) : Mut H k e b [] l1 (l2 ++ q) t :=
  ⟨by rw [h1, h.ad], h3, h2, h.lt, by rw [h.get, he]; simp⟩
theorem lset_one {cs : List V} {o : Nat} {x : V} : lset cs o [x] = cs.set o x := rfl
theorem Mut.st {H : Heap} {k : IntKind} {e b : Nat} {p l q : List Nat} {s : Sl} (h : Mut H k e b p l q s) {i x : Nat} {xi : Int} (hi : i < l.length) (hx : xi = (x : Int)) :
    ∃ H', stA 1 (at_ s i) (.int k xi) H = some H' ∧ Mut H' k e b p (l.set i x) q s ∧ Ch (· = b) H H' := by
  subst hx
  refine ⟨H.set b (.cells (nums k (p ++ l.set i x ++ q)) e false), ?_, ⟨h.ad, by simp [h.len], h.esz, by simp [h.lt], by rw [Heap.gsz rfl]⟩, Ch.set rfl⟩
  have hc : V.cells (.int k (x : Int)) = [.int k x] := rfl
  simp only [at_, h.ad, stA, h.get, hc]
  rw [if_pos ⟨rfl, by simp; omega, by simp [V.one]⟩, lset_one]
  congr 3
  simp only [nums, ← List.map_set (f := fun (x : Nat) => V.int k x)]
  congr 1
  rw [List.append_assoc, List.append_assoc, List.set_append_right _ _ (by omega), show p.length + i - p.length = i by omega, List.set_append_left _ _ hi]
theorem Tot.st {H : Heap} {k : IntKind} {e b : Nat} {p l q : List Nat} {s : Sl} (h : Mut H k e b p l q s) {i x : Nat} {xi : Int} (hi : i < l.length) (hx : xi = (x : Int)) {K : Nat → Heap → Option R} {Q : V → Heap → Prop}
    (hk : ∀ H', Mut H' k e b p (l.set i x) q s → Ch (· = b) H H' → Tot (fun n => K n H') Q) : Tot (fun n => bnd (stA 1 (at_ s i) (.int k xi) H) (K n)) Q := by
  obtain ⟨H', h1, h2, h3⟩ := h.st hi hx
  simp only [h1, bnd_some]
  exact hk H' h2 h3
theorem mkSl_nums {by_ e : Nat} {k q q' : IntKind} {l c : Int} (h : 0 ≤ l ∧ l ≤ c ∧ c < 2147483648 ∧ by_ ≤ 4096) :
    mkSl 1 by_ e [.int k 0] (.int q l) (.int q' c) = some (.cells (List.replicate l.toNat (.int k 0)) e false, l.toNat) := by
  simp only [mkSl]
  rw [if_pos ⟨h.1, h.2.1, h.2.2.1, h.2.2.2, rfl, rfl⟩, rowA_nums, nums_rep]
theorem mkSl_zero {by_ e : Nat} {k q q' : IntKind} {c : Int} (h : 0 ≤ c ∧ c < 2147483648 ∧ by_ ≤ 4096) :
    mkSl 1 by_ e [.int k 0] (.int q 0) (.int q' c) = some (.cells (nums k []) e false, 0) := by
  rw [mkSl_nums (by omega)]; rfl
end Go.AM
end
section
set_option linter.unusedVariables false
set_option linter.unusedSimpArgs false
namespace Go.AM
theorem wrap_i64 {n : Int} (h : -9223372036854775808 ≤ n ∧ n ≤ 9223372036854775807) : IntKind.i64.wrap n = n := IntWalk.i64_in n h
theorem wrap_u64 {n : Int} (h : 0 ≤ n ∧ n ≤ 18446744073709551615) : IntKind.u64.wrap n = n := IntWalk.u64_in n h
theorem wrap_u32 {n : Int} (h : 0 ≤ n ∧ n ≤ 4294967295) : IntKind.u32.wrap n = n := IntWalk.u32_in n h
theorem wrap_u8 {n : Int} (h : 0 ≤ n ∧ n ≤ 255) : IntKind.u8.wrap n = n := IntWalk.u8_in n h
theorem wrap_u32m (n : Int) : IntKind.u32.wrap n = n % 4294967296 := IntKind.wrap_u32 n
theorem wrap_u64m (n : Int) : IntKind.u64.wrap n = n % 18446744073709551616 := rfl
theorem ar_add {k : IntKind} {a b : Int} : arA .add (.int k a) (.int k b) = some (.int k (k.wrap (a + b))) := by simp [arA, intA]
theorem ar_sub {k : IntKind} {a b : Int} : arA .sub (.int k a) (.int k b) = some (.int k (k.wrap (a - b))) := by simp [arA, intA]
theorem ar_mul {k : IntKind} {a b : Int} : arA .mul (.int k a) (.int k b) = some (.int k (k.wrap (a * b))) := by simp [arA, intA]
theorem ar_quo {k : IntKind} {a b : Int} (h : 0 ≤ a ∧ 1 ≤ b) : arA .quo (.int k a) (.int k b) = some (.int k (k.wrap (a / b))) := by
  have : b ≠ 0 := by omega
  simp [arA, intA, this, Int.tdiv_eq_ediv_of_nonneg h.1]
theorem ar_rem {k : IntKind} {a b : Int} (h : 0 ≤ a ∧ 1 ≤ b) : arA .rem (.int k a) (.int k b) = some (.int k (a % b)) := by
  have : b ≠ 0 := by omega
  simp [arA, intA, this, Int.tmod_eq_emod_of_nonneg h.1]
theorem ar_lss {k : IntKind} {a b : Int} : arA .lss (.int k a) (.int k b) = some (.bool (decide (a < b))) := by simp [arA, intA]
theorem ar_leq {k : IntKind} {a b : Int} : arA .leq (.int k a) (.int k b) = some (.bool (decide (a ≤ b))) := by simp [arA, intA]
theorem ar_gtr {k : IntKind} {a b : Int} : arA .gtr (.int k a) (.int k b) = some (.bool (decide (a > b))) := by simp [arA, intA]
theorem ar_geq {k : IntKind} {a b : Int} : arA .geq (.int k a) (.int k b) = some (.bool (decide (a ≥ b))) := by simp [arA, intA]
theorem ar_eql {k : IntKind} {a b : Int} : arA .eql (.int k a) (.int k b) = some (.bool (decide (a = b))) := by
  have : (a == b) = decide (a = b) := by by_cases h : a = b <;> simp [h]
  simp [arA, intA, this]
theorem ar_neq {k : IntKind} {a b : Int} : arA .neq (.int k a) (.int k b) = some (.bool (decide (a ≠ b))) := by
  have : (a != b) = decide (a ≠ b) := by by_cases h : a = b <;> simp [h]
  simp [arA, intA, this]
theorem shr_u64 {q : IntKind} {a : Int} (h : 0 ≤ a) : shA .shr (.int .u64 a) (.int q 32) = some (.int .u64 (a / 4294967296)) := by
  simp [shA, shiftA, IntKind.bits, Int.fdiv_eq_ediv_of_nonneg]
theorem shr_u64_63 {q : IntKind} {a : Int} (h : 0 ≤ a) : shA .shr (.int .u64 a) (.int q 63) = some (.int .u64 (a / 9223372036854775808)) := by
  simp [shA, shiftA, IntKind.bits, Int.fdiv_eq_ediv_of_nonneg]
theorem wrap_u64_pos (z : Int) : 0 ≤ IntKind.u64.wrap z := by rw [wrap_u64m]; exact Int.emod_nonneg _ (by decide)
theorem shr_u64w {q : IntKind} {a : Int} : shA .shr (.int .u64 (IntKind.u64.wrap a)) (.int q 32) = some (.int .u64 (IntKind.u64.wrap a / 4294967296)) := shr_u64 (wrap_u64_pos _)
theorem shr_u64_63w {q : IntKind} {a : Int} : shA .shr (.int .u64 (IntKind.u64.wrap a)) (.int q 63) = some (.int .u64 (IntKind.u64.wrap a / 9223372036854775808)) := shr_u64_63 (wrap_u64_pos _)
theorem asB_bool {b : Bool} : asB (.bool b) = some b := (Eq.refl _).trans (Eq.refl _)
theorem cv_int {k k' : IntKind} {n : Int} : cvInt k (.int k' n) = some (.int k (k.wrap n)) := (Eq.refl _).trans (Eq.refl _)
theorem ext_tuple {vs : List V} {i : Nat} : extA (.tuple vs) i = vs[i]? := (Eq.refl _).trans (Eq.refl _)
theorem lenSl_mk {a : Option (Nat × Nat)} {l z : Nat} {f : Bool} : lenSl (.slice ⟨a, l, z, f⟩) = some (.int .i64 (l : Int)) := (Eq.refl _).trans (Eq.refl _)
theorem faA_mk {b o off : Nat} : faA off (.ptr (some (b, o))) = some (.ptr (some (b, o + off))) := (Eq.refl _).trans (Eq.refl _)
attribute [simp] ar_add ar_sub ar_mul ar_quo ar_rem ar_lss ar_leq ar_gtr ar_geq ar_eql ar_neq shr_u64 shr_u64_63 shr_u64w shr_u64_63w asB_bool cv_int ext_tuple lenSl_mk faA_mk
theorem carry (b p t r : Nat) : p * (t % b) + p * b * (t / b + r) = p * (t + b * r) := by
  have h := Nat.mod_add_div t b
  generalize t % b = u at *
  generalize t / b = v at *
  subst h
  grind
theorem more_zero {H : Heap} : H.more 0 = H := (Eq.refl _).trans (Eq.refl _)
attribute [simp] more_zero mkSl_nums
attribute [simp high] mkSl_zero
attribute [simp] wrap_i64 wrap_u64 wrap_u32 wrap_u8 bndA_int bndA_none
theorem one_bool {b : Bool} : V.one (.bool b) = true := (Eq.refl _).trans (Eq.refl _)
theorem one_int {k : IntKind} {n : Int} : V.one (.int k n) = true := (Eq.refl _).trans (Eq.refl _)
theorem one_slice {s : Sl} : V.one (.slice s) = true := (Eq.refl _).trans (Eq.refl _)
theorem one_str {s : List UInt8} : V.one (.str s) = true := (Eq.refl _).trans (Eq.refl _)
theorem cells_bool {b : Bool} : V.cells (.bool b) = [.bool b] := (Eq.refl _).trans (Eq.refl _)
theorem cells_int {k : IntKind} {n : Int} : V.cells (.int k n) = [.int k n] := (Eq.refl _).trans (Eq.refl _)
theorem cells_slice {s : Sl} : V.cells (.slice s) = [.slice s] := (Eq.refl _).trans (Eq.refl _)
theorem cells_agg {l : List V} : V.cells (.agg l) = l := (Eq.refl _).trans (Eq.refl _)
theorem boxA_agg {e : Nat} {cs : List V} (h : cs.all V.one = true) : boxA e (.agg cs) = some (.cells cs e false) := by simp only [boxA, cells_agg, h, if_true]
theorem un_not {b : Bool} : unA .not (.bool b) = some (.bool !b) := (Eq.refl _).trans (Eq.refl _)
theorem un_neg {k : IntKind} {n : Int} : unA .neg (.int k n) = some (.int k (k.wrap (0 - n))) := (Eq.refl _).trans (Eq.refl _)
theorem chk_bool {b : Bool} : chk (some (.bool b)) (.bool b) = some () := by simp [chk, V.beq]
theorem chk_int {k : IntKind} {n : Int} : chk (some (.int k n)) (.int k n) = some () := by simp [chk, V.beq]
theorem chk_slice {s : Sl} : chk (some (.slice s)) (.slice s) = some () := by simp [chk, V.beq]
theorem beqs_self : ∀ (l : List V), (∀ v, v ∈ l → V.beq v v = true) → V.beqs l l = true
  | [], _ => by simp [V.beqs]
  | v :: l, h => by simp [V.beqs, h v (by simp), beqs_self l fun u hu => h u (by simp [hu])]
theorem ld1_push_ne {H : Heap} {i o : Nat} {ob : O} (h : i ≠ H.n) : ld1 (.ptr (some (i, o))) (H.push ob) = ld1 (.ptr (some (i, o))) H := by simp only [ld1, Heap.gqz h]
theorem ld1_push_eq {H : Heap} {i o e : Nat} {cs : List V} {r : Bool} (h : i = H.n) : ld1 (.ptr (some (i, o))) (H.push (.cells cs e r)) = cs[o]? := by simp only [ld1, Heap.gpz h]
theorem ldN_push_ne {H : Heap} {n i o : Nat} {ob : O} (h : i ≠ H.n) : ldN n (.ptr (some (i, o))) (H.push ob) = ldN n (.ptr (some (i, o))) H := by simp only [ldN, Heap.gqz h]
theorem ldN_push_eq {H : Heap} {n i o e : Nat} {cs : List V} {r : Bool} (h : i = H.n) (hn : o + n ≤ cs.length) : ldN n (.ptr (some (i, o))) (H.push (.cells cs e r)) = some (.agg ((cs.drop o).take n)) := by simp only [ldN, Heap.gpz h, if_pos hn]
theorem Ch.ld1 {X : Nat → Prop} {H H' : Heap} (c : Ch X H H') {i o : Nat} (h : i < H.n) (hx : ¬ X i) : ld1 (.ptr (some (i, o))) H' = ld1 (.ptr (some (i, o))) H := by simp only [AM.ld1, c.get i h hx]
theorem Ch.ldN {X : Nat → Prop} {H H' : Heap} (c : Ch X H H') {n i o : Nat} (h : i < H.n) (hx : ¬ X i) : ldN n (.ptr (some (i, o))) H' = ldN n (.ptr (some (i, o))) H := by simp only [AM.ldN, c.get i h hx]
theorem Ch.l1 {H H' : Heap} (c : Ext0 H H') {i o : Nat} (h : i < H.n) : AM.ld1 (.ptr (some (i, o))) H' = AM.ld1 (.ptr (some (i, o))) H := c.ld1 h fun f => f
theorem Ch.g {H H' : Heap} (c : Ext0 H H') {i : Nat} (h : i < H.n) : H'.get i = H.get i := c.get i h fun f => f
attribute [simp] one_bool one_int one_slice one_str cells_bool cells_int cells_slice cells_agg boxA_agg un_not un_neg chk_bool chk_int chk_slice ld1_push_ne ld1_push_eq ldN_push_ne ldN_push_eq flA flE fillA lset Heap.gqz Heap.gpz
end Go.AM
end
section
set_option linter.unusedVariables false
set_option linter.unusedSimpArgs false
namespace Go.AM
end Go.AM
end
section
set_option linter.unusedVariables false
set_option linter.unusedSimpArgs false
namespace Go.AM
noncomputable abbrev P : Program := Go.Proofs.Tryz.prog
abbrev ty_int : Nat := 3
abbrev ty_bool : Nat := 4
abbrev ty_api_Nat : Nat := 24
abbrev ty_api_Int : Nat := 26
abbrev ty_api_Rat : Nat := 28
abbrev ty_ref04_Int : Nat := 38
abbrev ty_ref05_Rat : Nat := 40
abbrev ty_uint32 : Nat := 57
@[simp] theorem eqlA_ty_bool (a b : Bool) : eqlA P ty_bool (.bool a) (.bool b) = some (.bool (a == b)) := by kernel_rfl
@[simp] theorem eqlA_ty_api_Nat (s : Sl) : eqlA P ty_api_Nat (.slice s) (.slice ⟨none, 0, 0, false⟩) = some (.bool s.ad.isNone) := by rcases s with ⟨_ | a, l, z, f⟩ <;> kernel_rfl
@[simp] theorem neqA_ty_bool (a b : Bool) : neqA P ty_bool (.bool a) (.bool b) = some (.bool (!(a == b))) := by kernel_rfl
def tabList : List (Nat × List (Nat × List Nat)) := [(15, []),
 (16, []),
 (17, []),
 (19, []),
 (20, []),
 (21, []),
 (25, []),
 (35, []),
 (36, []),
 (37, [(6, [2, 3, 4])]),
 (38, []),
 (39, []),
 (40, [(3, [0, 3, 4])]),
 (41, []),
 (43, [(7, [5, 6, 7, 8]), (9, [5, 6, 7, 8]), (10, [5, 6, 7, 8]), (12, [5, 6, 7, 8]), (14, [5, 6, 7, 8]), (17, [5, 7, 8]), (18, [5, 7, 8, 9]), (21, [5, 7])]),
 (44, [(3, [0, 1, 6, 7, 8]), (8, [0, 1, 6, 7, 8]), (11, [6, 7])]),
 (56, []),
 (57, []),
 (58, [(3, [0, 1, 5, 6]), (7, [0, 1, 5, 6, 7, 8]), (11, [0, 1, 5, 6, 7])]),
 (59, [(3, [0, 1, 5, 6, 7]), (7, [0, 1, 5, 6, 7]), (9, [0, 1, 5, 6, 7]), (10, [5, 6])]),
 (60, [(6, [0, 1, 5])]),
 (61, [(3, [0, 1, 5, 6, 7]), (8, [0, 1, 5, 7, 8])]),
 (62, []),
 (63, [(2, [0, 3]), (4, [0, 3])]),
 (64, [(3, [0, 3, 4, 5])]),
 (65, []),
 (67, []),
 (69, []),
 (76, [(2, [3, 4]), (5, [3, 4, 5, 6]), (9, [3, 4, 5])]),
 (77, []),
 (78, []),
 (79, []),
 (80, []),
 (82, [(3, [1, 5, 17, 18, 19]), (7, [1, 5, 6, 7, 8, 17, 18, 19, 24, 25, 26]), (13, [1, 5, 6, 8, 17, 18, 19])]),
 (84, []),
 (92, []),
 (93, []),
 (94, [(1, [0])]),
 (95, []),
 (96, [(2, [0, 1])]),
 (97, []),
 (98, []),
 (99, []),
 (100, []),
 (114, []),
 (115, [(3, [0, 1]), (6, [1, 5, 6, 20, 21, 22]), (11, [1, 5, 6, 20, 21, 22]), (14, [5, 6])]),
 (116, []),
 (117, []),
 (133, []),
 (138, [(7, [0, 1, 5])]),
 (139, [(3, [0, 1, 5, 6])]),
 (140, [(7, [6, 7, 8, 9, 10, 11, 12, 13]), (15, [6, 7, 10]), (18, [6, 10, 16, 17, 18]), (22, [10, 16])]),
 (141, [(4, [1, 5, 6, 13, 14, 15]), (9, [1, 5, 9, 13, 14, 15])]),
 (153, []),
 (166, []),
 (167, [(4, [1, 5, 6, 13, 14, 15]), (10, [5, 6])]),
 (168, [(4, [0, 1, 2, 7, 9, 10])]),
 (169, [(3, [0, 1, 2, 7, 8, 12, 13]), (7, [0, 1, 2, 7, 8, 9, 12, 13])]),
 (170, [(2, [0, 1, 4, 7, 8]), (7, [0, 1, 4, 5, 7, 8])]),
 (179, []),
 (183, [(4, [0, 2]), (7, [0, 2])]),
 (188, []),
 (189, [])]
def tabs (f : FuncId) : Option (List (Nat × List Nat)) := tabList.lookup f
noncomputable def ext (f : FuncId) : Option (List V → Heap → Option R) := [].lookup f
noncomputable def C : Cfg := { P, tabs, ext }
abbrev i_ref05_Sub : Nat := 15
abbrev i_ref05_Mul : Nat := 16
abbrev i_ref05_Long : Nat := 17
abbrev i_ref05_Add : Nat := 19
abbrev i_ref05_Cmp : Nat := 20
abbrev i_ref05_Of : Nat := 21
abbrev i_ref05_Low : Nat := 25
abbrev i_ref05_Neg : Nat := 35
abbrev i_ref04_Mul : Nat := 36
abbrev i_ref04_Long : Nat := 37
abbrev i_ref04_Add : Nat := 38
abbrev i_ref04_Cmp : Nat := 39
abbrev i_ref04_Of : Nat := 41
abbrev i_ref04_Neg : Nat := 56
abbrev i_ref04_Sub : Nat := 62
abbrev i_whole_Of : Nat := 65
abbrev i_rat_norm : Nat := 67
abbrev i_rat_Mul : Nat := 69
abbrev i_ref03_Show : Nat := 76
abbrev i_whole_norm : Nat := 77
abbrev i_rat_lowest : Nat := 79
abbrev i_whole_Add : Nat := 80
abbrev i_nat_Mul : Nat := 82
abbrev i_whole_Mul : Nat := 84
abbrev i_nat_Trim : Nat := 92
abbrev i_nat_trim : Nat := 94
abbrev i_whole_Norm : Nat := 95
abbrev i_whole_add : Nat := 98
abbrev i_rat_plain : Nat := 99
abbrev i_whole_Neg : Nat := 100
abbrev i_nat_Add : Nat := 115
abbrev i_nat_Sub : Nat := 116
abbrev i_whole_neg : Nat := 117
abbrev i_rat_Make : Nat := 133
abbrev i_nat_cmp : Nat := 138
abbrev i_nat_sub : Nat := 141
abbrev i_whole_Sign : Nat := 153
@[irreducible] noncomputable def f_ref05_Sub (n : Nat) (args : List V) (H : Heap) : Option R := callA C n 15 args H
@[irreducible] noncomputable def f_ref05_Mul (n : Nat) (args : List V) (H : Heap) : Option R := callA C n 16 args H
@[irreducible] noncomputable def f_ref05_Long (n : Nat) (args : List V) (H : Heap) : Option R := callA C n 17 args H
@[irreducible] noncomputable def f_ref05_Add (n : Nat) (args : List V) (H : Heap) : Option R := callA C n 19 args H
@[irreducible] noncomputable def f_ref05_Cmp (n : Nat) (args : List V) (H : Heap) : Option R := callA C n 20 args H
@[irreducible] noncomputable def f_ref05_Of (n : Nat) (args : List V) (H : Heap) : Option R := callA C n 21 args H
@[irreducible] noncomputable def f_ref05_Low (n : Nat) (args : List V) (H : Heap) : Option R := callA C n 25 args H
@[irreducible] noncomputable def f_ref05_Neg (n : Nat) (args : List V) (H : Heap) : Option R := callA C n 35 args H
@[irreducible] noncomputable def f_ref04_Mul (n : Nat) (args : List V) (H : Heap) : Option R := callA C n 36 args H
@[irreducible] noncomputable def f_ref04_Long (n : Nat) (args : List V) (H : Heap) : Option R := callA C n 37 args H
@[irreducible] noncomputable def f_ref04_Add (n : Nat) (args : List V) (H : Heap) : Option R := callA C n 38 args H
@[irreducible] noncomputable def f_ref04_Cmp (n : Nat) (args : List V) (H : Heap) : Option R := callA C n 39 args H
@[irreducible] noncomputable def f_ref03_Of (n : Nat) (args : List V) (H : Heap) : Option R := callA C n 40 args H
@[irreducible] noncomputable def f_ref04_Of (n : Nat) (args : List V) (H : Heap) : Option R := callA C n 41 args H
@[irreducible] noncomputable def f_ref03_Gcd (n : Nat) (args : List V) (H : Heap) : Option R := callA C n 43 args H
@[irreducible] noncomputable def f_ref03_DivMod (n : Nat) (args : List V) (H : Heap) : Option R := callA C n 44 args H
@[irreducible] noncomputable def f_ref04_Neg (n : Nat) (args : List V) (H : Heap) : Option R := callA C n 56 args H
@[irreducible] noncomputable def f_ref04_make1 (n : Nat) (args : List V) (H : Heap) : Option R := callA C n 57 args H
@[irreducible] noncomputable def f_ref03_Mul (n : Nat) (args : List V) (H : Heap) : Option R := callA C n 58 args H
@[irreducible] noncomputable def f_ref03_Add (n : Nat) (args : List V) (H : Heap) : Option R := callA C n 59 args H
@[irreducible] noncomputable def f_ref03_Cmp (n : Nat) (args : List V) (H : Heap) : Option R := callA C n 60 args H
@[irreducible] noncomputable def f_ref03_Sub (n : Nat) (args : List V) (H : Heap) : Option R := callA C n 61 args H
@[irreducible] noncomputable def f_ref04_Sub (n : Nat) (args : List V) (H : Heap) : Option R := callA C n 62 args H
@[irreducible] noncomputable def f_ref03_Trim (n : Nat) (args : List V) (H : Heap) : Option R := callA C n 63 args H
@[irreducible] noncomputable def f_ref03_Half (n : Nat) (args : List V) (H : Heap) : Option R := callA C n 64 args H
@[irreducible] noncomputable def f_whole_Of (n : Nat) (args : List V) (H : Heap) : Option R := callA C n 65 args H
@[irreducible] noncomputable def f_rat_norm (n : Nat) (args : List V) (H : Heap) : Option R := callA C n 67 args H
@[irreducible] noncomputable def f_rat_Mul (n : Nat) (args : List V) (H : Heap) : Option R := callA C n 69 args H
@[irreducible] noncomputable def f_ref03_Show (n : Nat) (args : List V) (H : Heap) : Option R := callA C n 76 args H
@[irreducible] noncomputable def f_whole_norm (n : Nat) (args : List V) (H : Heap) : Option R := callA C n 77 args H
@[irreducible] noncomputable def f_nat_Of (n : Nat) (args : List V) (H : Heap) : Option R := callA C n 78 args H
@[irreducible] noncomputable def f_rat_lowest (n : Nat) (args : List V) (H : Heap) : Option R := callA C n 79 args H
@[irreducible] noncomputable def f_whole_Add (n : Nat) (args : List V) (H : Heap) : Option R := callA C n 80 args H
@[irreducible] noncomputable def f_nat_Mul (n : Nat) (args : List V) (H : Heap) : Option R := callA C n 82 args H
@[irreducible] noncomputable def f_whole_Mul (n : Nat) (args : List V) (H : Heap) : Option R := callA C n 84 args H
@[irreducible] noncomputable def f_nat_Trim (n : Nat) (args : List V) (H : Heap) : Option R := callA C n 92 args H
@[irreducible] noncomputable def f_slices_Clone_api_Nat_uint32 (n : Nat) (args : List V) (H : Heap) : Option R := callA C n 93 args H
@[irreducible] noncomputable def f_nat_trim (n : Nat) (args : List V) (H : Heap) : Option R := callA C n 94 args H
@[irreducible] noncomputable def f_whole_Norm (n : Nat) (args : List V) (H : Heap) : Option R := callA C n 95 args H
@[irreducible] noncomputable def f_nat_Gcd (n : Nat) (args : List V) (H : Heap) : Option R := callA C n 96 args H
@[irreducible] noncomputable def f_nat_DivMod (n : Nat) (args : List V) (H : Heap) : Option R := callA C n 97 args H
@[irreducible] noncomputable def f_whole_add (n : Nat) (args : List V) (H : Heap) : Option R := callA C n 98 args H
@[irreducible] noncomputable def f_rat_plain (n : Nat) (args : List V) (H : Heap) : Option R := callA C n 99 args H
@[irreducible] noncomputable def f_whole_Neg (n : Nat) (args : List V) (H : Heap) : Option R := callA C n 100 args H
@[irreducible] noncomputable def f_nat_divmod (n : Nat) (args : List V) (H : Heap) : Option R := callA C n 114 args H
@[irreducible] noncomputable def f_nat_Add (n : Nat) (args : List V) (H : Heap) : Option R := callA C n 115 args H
@[irreducible] noncomputable def f_nat_Sub (n : Nat) (args : List V) (H : Heap) : Option R := callA C n 116 args H
@[irreducible] noncomputable def f_whole_neg (n : Nat) (args : List V) (H : Heap) : Option R := callA C n 117 args H
@[irreducible] noncomputable def f_rat_Make (n : Nat) (args : List V) (H : Heap) : Option R := callA C n 133 args H
@[irreducible] noncomputable def f_nat_cmp (n : Nat) (args : List V) (H : Heap) : Option R := callA C n 138 args H
@[irreducible] noncomputable def f_nat_short (n : Nat) (args : List V) (H : Heap) : Option R := callA C n 139 args H
@[irreducible] noncomputable def f_nat_long (n : Nat) (args : List V) (H : Heap) : Option R := callA C n 140 args H
@[irreducible] noncomputable def f_nat_sub (n : Nat) (args : List V) (H : Heap) : Option R := callA C n 141 args H
@[irreducible] noncomputable def f_whole_Sign (n : Nat) (args : List V) (H : Heap) : Option R := callA C n 153 args H
@[irreducible] noncomputable def f_math_bits_LeadingZeros32 (n : Nat) (args : List V) (H : Heap) : Option R := callA C n 166 args H
@[irreducible] noncomputable def f_nat_shift (n : Nat) (args : List V) (H : Heap) : Option R := callA C n 167 args H
@[irreducible] noncomputable def f_nat_guess (n : Nat) (args : List V) (H : Heap) : Option R := callA C n 168 args H
@[irreducible] noncomputable def f_nat_off (n : Nat) (args : List V) (H : Heap) : Option R := callA C n 169 args H
@[irreducible] noncomputable def f_nat_back (n : Nat) (args : List V) (H : Heap) : Option R := callA C n 170 args H
@[irreducible] noncomputable def f_whole_sign (n : Nat) (args : List V) (H : Heap) : Option R := callA C n 179 args H
@[irreducible] noncomputable def f_math_bits_Len32 (n : Nat) (args : List V) (H : Heap) : Option R := callA C n 183 args H
@[irreducible] noncomputable def f_nat_Bits (n : Nat) (args : List V) (H : Heap) : Option R := callA C n 188 args H
@[irreducible] noncomputable def f_nat_size (n : Nat) (args : List V) (H : Heap) : Option R := callA C n 189 args H
end Go.AM
end
section
set_option linter.unusedVariables false
set_option linter.unusedSimpArgs false
set_option maxRecDepth 1000000
set_option linter.unusedVariables false
namespace Go.AM
@[simp] noncomputable def ref05_Sub_b (bd : B2) (n : Nat) (v0 v1 : V) (H : Heap) : Option R :=
 (bd (boxA ty_ref05_Rat v0) fun o1 =>
 (bd (boxA ty_ref05_Rat v1) fun o2 =>
 (bd (ldN 4 (.ptr (some ((H.push o1).n, 0))) ((((H.push o1).push o2).push (.cells [(.int .i64 0), (.slice ⟨none, 0, 0, false⟩), (.int .i64 0), (.slice ⟨none, 0, 0, false⟩)] ty_ref05_Rat false)).more 0)) fun t6_3 =>
 (bd (f_ref05_Neg n [t6_3] ((((H.push o1).push o2).push (.cells [(.int .i64 0), (.slice ⟨none, 0, 0, false⟩), (.int .i64 0), (.slice ⟨none, 0, 0, false⟩)] ty_ref05_Rat false)).more 0)) fun r4 =>
 (bd (ldN 4 (.ptr (some (H.n, 0))) r4.2) fun t5_5 =>
 (bd (chk (ldN 4 (.ptr (some (H.n, 0))) ((((H.push o1).push o2).push (.cells [(.int .i64 0), (.slice ⟨none, 0, 0, false⟩), (.int .i64 0), (.slice ⟨none, 0, 0, false⟩)] ty_ref05_Rat false)).more 0)) t5_5) fun _ =>
 (bd (f_ref05_Add n [t5_5, r4.1] r4.2) fun r6 =>
 (bd (stA 4 (.ptr (some (((H.push o1).push o2).n, 0))) r6.1 r6.2) fun H7 =>
 (bd (ldN 4 (.ptr (some (((H.push o1).push o2).n, 0))) H7) fun t8 =>
 (some (t8, H7)))))))))))
theorem ref05_Sub_tot {v0 v1 : V} {H : Heap} {Q : V → Heap → Prop} (h : Tot (fun n => ref05_Sub_b @bnd n v0 v1 H) Q) : Tot (fun n => f_ref05_Sub n [v0, v1] H) Q := Tot.fn (fun n => bd_bnd (fun bd => ref05_Sub_b bd n v0 v1 H) (by kernel_rfl)) h
@[simp] noncomputable def ref05_Mul_b (bd : B2) (n : Nat) (v0 v1 : V) (H : Heap) : Option R :=
 (bd (boxA ty_ref05_Rat v0) fun o1 =>
 (bd (boxA ty_ref05_Rat v1) fun o2 =>
 (bd (faA 0 (.ptr (some (H.n, 0)))) fun t5_3 =>
 (bd (ldN 2 t5_3 ((((H.push o1).push o2).push (.cells [(.int .i64 0), (.slice ⟨none, 0, 0, false⟩), (.int .i64 0), (.slice ⟨none, 0, 0, false⟩)] ty_ref05_Rat false)).more 0)) fun t6_4 =>
 (bd (faA 0 (.ptr (some ((H.push o1).n, 0)))) fun t7_5 =>
 (bd (ldN 2 t7_5 ((((H.push o1).push o2).push (.cells [(.int .i64 0), (.slice ⟨none, 0, 0, false⟩), (.int .i64 0), (.slice ⟨none, 0, 0, false⟩)] ty_ref05_Rat false)).more 0)) fun t8_6 =>
 (bd (f_ref04_Mul n [t6_4, t8_6] ((((H.push o1).push o2).push (.cells [(.int .i64 0), (.slice ⟨none, 0, 0, false⟩), (.int .i64 0), (.slice ⟨none, 0, 0, false⟩)] ty_ref05_Rat false)).more 0)) fun r7 =>
 (bd (faA 2 (.ptr (some (H.n, 0)))) fun t10_8 =>
 (bd (ldN 2 t10_8 r7.2) fun t11_9 =>
 (bd (chk (ldN 2 t10_8 ((((H.push o1).push o2).push (.cells [(.int .i64 0), (.slice ⟨none, 0, 0, false⟩), (.int .i64 0), (.slice ⟨none, 0, 0, false⟩)] ty_ref05_Rat false)).more 0)) t11_9) fun _ =>
 (bd (faA 2 (.ptr (some ((H.push o1).n, 0)))) fun t12_10 =>
 (bd (ldN 2 t12_10 r7.2) fun t13_11 =>
 (bd (chk (ldN 2 t12_10 ((((H.push o1).push o2).push (.cells [(.int .i64 0), (.slice ⟨none, 0, 0, false⟩), (.int .i64 0), (.slice ⟨none, 0, 0, false⟩)] ty_ref05_Rat false)).more 0)) t13_11) fun _ =>
 (bd (f_ref04_Mul n [t11_9, t13_11] r7.2) fun r12 =>
 (bd (flA [(0, 2), (2, 2)] [(.int .i64 0), (.slice ⟨none, 0, 0, false⟩), (.int .i64 0), (.slice ⟨none, 0, 0, false⟩)] [(0, r7.1), (1, r12.1)]) fun t15_13 =>
 (bd (stA 4 (.ptr (some (((H.push o1).push o2).n, 0))) t15_13 r12.2) fun H14 =>
 (bd (ldN 4 (.ptr (some (((H.push o1).push o2).n, 0))) H14) fun t15 =>
 (some (t15, H14)))))))))))))))))))
theorem ref05_Mul_tot {v0 v1 : V} {H : Heap} {Q : V → Heap → Prop} (h : Tot (fun n => ref05_Mul_b @bnd n v0 v1 H) Q) : Tot (fun n => f_ref05_Mul n [v0, v1] H) Q := Tot.fn (fun n => bd_bnd (fun bd => ref05_Mul_b bd n v0 v1 H) (by kernel_rfl)) h
@[simp] noncomputable def ref05_Long_b (bd : B2) (n : Nat) (v0 : V) (H : Heap) : Option R :=
 (bd (f_ref04_Long n [v0] (H.push (.cells [(.int .i64 0), (.slice ⟨none, 0, 0, false⟩), (.int .i64 0), (.slice ⟨none, 0, 0, false⟩)] ty_ref05_Rat false))) fun r1 =>
 (bd (f_ref04_Long n [(.int .i64 1)] r1.2) fun r2 =>
 (bd (flA [(0, 2), (2, 2)] [(.int .i64 0), (.slice ⟨none, 0, 0, false⟩), (.int .i64 0), (.slice ⟨none, 0, 0, false⟩)] [(0, r1.1), (1, r2.1)]) fun t6_3 =>
 (bd (stA 4 (.ptr (some (H.n, 0))) t6_3 r2.2) fun H4 =>
 (bd (ldN 4 (.ptr (some (H.n, 0))) H4) fun t5 =>
 (some (t5, H4)))))))
theorem ref05_Long_tot {v0 : V} {H : Heap} {Q : V → Heap → Prop} (h : Tot (fun n => ref05_Long_b @bnd n v0 H) Q) : Tot (fun n => f_ref05_Long n [v0] H) Q := Tot.fn (fun n => bd_bnd (fun bd => ref05_Long_b bd n v0 H) (by kernel_rfl)) h
@[simp] noncomputable def ref05_Add_b (bd : B2) (n : Nat) (v0 v1 : V) (H : Heap) : Option R :=
 (bd (boxA ty_ref05_Rat v0) fun o1 =>
 (bd (boxA ty_ref05_Rat v1) fun o2 =>
 (bd (faA 0 (.ptr (some (H.n, 0)))) fun t5_3 =>
 (bd (ldN 2 t5_3 ((((H.push o1).push o2).push (.cells [(.int .i64 0), (.slice ⟨none, 0, 0, false⟩), (.int .i64 0), (.slice ⟨none, 0, 0, false⟩)] ty_ref05_Rat false)).more 0)) fun t6_4 =>
 (bd (faA 2 (.ptr (some ((H.push o1).n, 0)))) fun t7_5 =>
 (bd (ldN 2 t7_5 ((((H.push o1).push o2).push (.cells [(.int .i64 0), (.slice ⟨none, 0, 0, false⟩), (.int .i64 0), (.slice ⟨none, 0, 0, false⟩)] ty_ref05_Rat false)).more 0)) fun t8_6 =>
 (bd (f_ref04_Mul n [t6_4, t8_6] ((((H.push o1).push o2).push (.cells [(.int .i64 0), (.slice ⟨none, 0, 0, false⟩), (.int .i64 0), (.slice ⟨none, 0, 0, false⟩)] ty_ref05_Rat false)).more 0)) fun r7 =>
 (bd (faA 0 (.ptr (some ((H.push o1).n, 0)))) fun t10_8 =>
 (bd (ldN 2 t10_8 r7.2) fun t11_9 =>
 (bd (chk (ldN 2 t10_8 ((((H.push o1).push o2).push (.cells [(.int .i64 0), (.slice ⟨none, 0, 0, false⟩), (.int .i64 0), (.slice ⟨none, 0, 0, false⟩)] ty_ref05_Rat false)).more 0)) t11_9) fun _ =>
 (bd (faA 2 (.ptr (some (H.n, 0)))) fun t12_10 =>
 (bd (ldN 2 t12_10 r7.2) fun t13_11 =>
 (bd (chk (ldN 2 t12_10 ((((H.push o1).push o2).push (.cells [(.int .i64 0), (.slice ⟨none, 0, 0, false⟩), (.int .i64 0), (.slice ⟨none, 0, 0, false⟩)] ty_ref05_Rat false)).more 0)) t13_11) fun _ =>
 (bd (f_ref04_Mul n [t11_9, t13_11] r7.2) fun r12 =>
 (bd (f_ref04_Add n [r7.1, r12.1] r12.2) fun r13 =>
 (bd (faA 2 (.ptr (some (H.n, 0)))) fun t16_14 =>
 (bd (ldN 2 t16_14 r13.2) fun t17_15 =>
 (bd (chk (ldN 2 t16_14 r12.2) t17_15) fun _ =>
 (bd (chk (ldN 2 t16_14 r7.2) t17_15) fun _ =>
 (bd (chk (ldN 2 t16_14 ((((H.push o1).push o2).push (.cells [(.int .i64 0), (.slice ⟨none, 0, 0, false⟩), (.int .i64 0), (.slice ⟨none, 0, 0, false⟩)] ty_ref05_Rat false)).more 0)) t17_15) fun _ =>
 (bd (faA 2 (.ptr (some ((H.push o1).n, 0)))) fun t18_16 =>
 (bd (ldN 2 t18_16 r13.2) fun t19_17 =>
 (bd (chk (ldN 2 t18_16 r12.2) t19_17) fun _ =>
 (bd (chk (ldN 2 t18_16 r7.2) t19_17) fun _ =>
 (bd (chk (ldN 2 t18_16 ((((H.push o1).push o2).push (.cells [(.int .i64 0), (.slice ⟨none, 0, 0, false⟩), (.int .i64 0), (.slice ⟨none, 0, 0, false⟩)] ty_ref05_Rat false)).more 0)) t19_17) fun _ =>
 (bd (f_ref04_Mul n [t17_15, t19_17] r13.2) fun r18 =>
 (bd (flA [(0, 2), (2, 2)] [(.int .i64 0), (.slice ⟨none, 0, 0, false⟩), (.int .i64 0), (.slice ⟨none, 0, 0, false⟩)] [(0, r13.1), (1, r18.1)]) fun t21_19 =>
 (bd (stA 4 (.ptr (some (((H.push o1).push o2).n, 0))) t21_19 r18.2) fun H20 =>
 (bd (ldN 4 (.ptr (some (((H.push o1).push o2).n, 0))) H20) fun t21 =>
 (some (t21, H20)))))))))))))))))))))))))))))))
theorem ref05_Add_tot {v0 v1 : V} {H : Heap} {Q : V → Heap → Prop} (h : Tot (fun n => ref05_Add_b @bnd n v0 v1 H) Q) : Tot (fun n => f_ref05_Add n [v0, v1] H) Q := Tot.fn (fun n => bd_bnd (fun bd => ref05_Add_b bd n v0 v1 H) (by kernel_rfl)) h
@[simp] noncomputable def ref05_Cmp_b (bd : B2) (n : Nat) (v0 v1 : V) (H : Heap) : Option R :=
 (bd (boxA ty_ref05_Rat v0) fun o1 =>
 (bd (boxA ty_ref05_Rat v1) fun o2 =>
 (bd (faA 0 (.ptr (some (H.n, 0)))) fun t5_3 =>
 (bd (ldN 2 t5_3 (((H.push o1).push o2).more 0)) fun t6_4 =>
 (bd (faA 2 (.ptr (some ((H.push o1).n, 0)))) fun t7_5 =>
 (bd (ldN 2 t7_5 (((H.push o1).push o2).more 0)) fun t8_6 =>
 (bd (f_ref04_Mul n [t6_4, t8_6] (((H.push o1).push o2).more 0)) fun r7 =>
 (bd (faA 0 (.ptr (some ((H.push o1).n, 0)))) fun t10_8 =>
 (bd (ldN 2 t10_8 r7.2) fun t11_9 =>
 (bd (chk (ldN 2 t10_8 (((H.push o1).push o2).more 0)) t11_9) fun _ =>
 (bd (faA 2 (.ptr (some (H.n, 0)))) fun t12_10 =>
 (bd (ldN 2 t12_10 r7.2) fun t13_11 =>
 (bd (chk (ldN 2 t12_10 (((H.push o1).push o2).more 0)) t13_11) fun _ =>
 (bd (f_ref04_Mul n [t11_9, t13_11] r7.2) fun r12 =>
 (bd (f_ref04_Cmp n [r7.1, r12.1] r12.2) fun r13 =>
 (some (r13.1, r13.2)))))))))))))))))
theorem ref05_Cmp_tot {v0 v1 : V} {H : Heap} {Q : V → Heap → Prop} (h : Tot (fun n => ref05_Cmp_b @bnd n v0 v1 H) Q) : Tot (fun n => f_ref05_Cmp n [v0, v1] H) Q := Tot.fn (fun n => bd_bnd (fun bd => ref05_Cmp_b bd n v0 v1 H) (by kernel_rfl)) h
@[simp] noncomputable def ref05_Of_b (bd : B2) (n : Nat) (v0 : V) (H : Heap) : Option R :=
 (bd (boxA ty_api_Rat v0) fun o1 =>
 (bd (faA 2 (.ptr (some (H.n, 0)))) fun t4_2 =>
 (bd (ld1 t4_2 ((H.push o1).push (.cells [(.int .i64 0), (.slice ⟨none, 0, 0, false⟩), (.int .i64 0), (.slice ⟨none, 0, 0, false⟩)] ty_ref05_Rat false))) fun t5_3 =>
 (bd (f_ref03_Of n [t5_3] ((H.push o1).push (.cells [(.int .i64 0), (.slice ⟨none, 0, 0, false⟩), (.int .i64 0), (.slice ⟨none, 0, 0, false⟩)] ty_ref05_Rat false))) fun r4 =>
 (bd (lenSl r4.1) fun t8_5 =>
 (bd (arA .eql t8_5 (.int .i64 0)) fun t9_6 =>
 (bd (asB t9_6) fun b7 =>
 if b7 = true then
 (bd (flA [(0, 1), (1, 1)] [(.int .i64 0), (.slice ⟨none, 0, 0, false⟩)] []) fun t10_8 =>
 (bd (f_ref04_Long n [(.int .i64 1)] r4.2) fun r9 =>
 (bd (flA [(0, 2), (2, 2)] [(.int .i64 0), (.slice ⟨none, 0, 0, false⟩), (.int .i64 0), (.slice ⟨none, 0, 0, false⟩)] [(0, t10_8), (1, r9.1)]) fun t12_10 =>
 (bd (stA 4 (.ptr (some ((H.push o1).n, 0))) t12_10 r9.2) fun H11 =>
 (bd (ldN 4 (.ptr (some ((H.push o1).n, 0))) H11) fun t12 =>
 (some (t12, H11)))))))
 else
 (bd (faA 0 (.ptr (some (H.n, 0)))) fun t13_13 =>
 (bd (ldN 2 t13_13 r4.2) fun t14_14 =>
 (bd (f_ref04_Of n [t14_14] r4.2) fun r15 =>
 (bd (flA [(0, 1), (1, 1)] [(.int .i64 0), (.slice ⟨none, 0, 0, false⟩)] [(0, (.int .i64 1)), (1, r4.1)]) fun t17_16 =>
 (bd (flA [(0, 2), (2, 2)] [(.int .i64 0), (.slice ⟨none, 0, 0, false⟩), (.int .i64 0), (.slice ⟨none, 0, 0, false⟩)] [(0, r15.1), (1, t17_16)]) fun t18_17 =>
 (bd (stA 4 (.ptr (some ((H.push o1).n, 0))) t18_17 r15.2) fun H18 =>
 (bd (ldN 4 (.ptr (some ((H.push o1).n, 0))) H18) fun t19 =>
 (some (t19, H18))))))))))))))))
theorem ref05_Of_tot {v0 : V} {H : Heap} {Q : V → Heap → Prop} (h : Tot (fun n => ref05_Of_b @bnd n v0 H) Q) : Tot (fun n => f_ref05_Of n [v0] H) Q := Tot.fn (fun n => bd_bnd (fun bd => ref05_Of_b bd n v0 H) (by kernel_rfl)) h
@[simp] noncomputable def ref05_Low_b (bd : B2) (n : Nat) (v0 : V) (H : Heap) : Option R :=
 (bd (boxA ty_ref05_Rat v0) fun o1 =>
 (bd (faA 0 (.ptr (some (H.n, 0)))) fun t8_2 =>
 (bd (faA 0 t8_2) fun t9_3 =>
 (bd (ld1 t9_3 ((H.push o1).push (.cells [(.int .i64 0), (.slice ⟨none, 0, 0, false⟩), (.int .i64 0), (.slice ⟨none, 0, 0, false⟩)] ty_ref05_Rat false))) fun t10_4 =>
 (bd (arA .eql t10_4 (.int .i64 0)) fun t11_5 =>
 (bd (asB t11_5) fun b6 =>
 if b6 = true then
 (bd (flA [(0, 1), (1, 1)] [(.int .i64 0), (.slice ⟨none, 0, 0, false⟩)] []) fun t12_7 =>
 (bd (f_ref04_Long n [(.int .i64 1)] ((H.push o1).push (.cells [(.int .i64 0), (.slice ⟨none, 0, 0, false⟩), (.int .i64 0), (.slice ⟨none, 0, 0, false⟩)] ty_ref05_Rat false))) fun r8 =>
 (bd (flA [(0, 2), (2, 2)] [(.int .i64 0), (.slice ⟨none, 0, 0, false⟩), (.int .i64 0), (.slice ⟨none, 0, 0, false⟩)] [(0, t12_7), (1, r8.1)]) fun t14_9 =>
 (bd (stA 4 (.ptr (some ((H.push o1).n, 0))) t14_9 r8.2) fun H10 =>
 (bd (ldN 4 (.ptr (some ((H.push o1).n, 0))) H10) fun t11 =>
 (some (t11, H10)))))))
 else
 (bd (faA 0 (.ptr (some (H.n, 0)))) fun t15_12 =>
 (bd (faA 1 t15_12) fun t16_13 =>
 (bd (ld1 t16_13 ((H.push o1).push (.cells [(.int .i64 0), (.slice ⟨none, 0, 0, false⟩), (.int .i64 0), (.slice ⟨none, 0, 0, false⟩)] ty_ref05_Rat false))) fun t17_14 =>
 (bd (faA 2 (.ptr (some (H.n, 0)))) fun t18_15 =>
 (bd (faA 1 t18_15) fun t19_16 =>
 (bd (ld1 t19_16 ((H.push o1).push (.cells [(.int .i64 0), (.slice ⟨none, 0, 0, false⟩), (.int .i64 0), (.slice ⟨none, 0, 0, false⟩)] ty_ref05_Rat false))) fun t20_17 =>
 (bd (f_ref03_Gcd n [t17_14, t20_17] ((H.push o1).push (.cells [(.int .i64 0), (.slice ⟨none, 0, 0, false⟩), (.int .i64 0), (.slice ⟨none, 0, 0, false⟩)] ty_ref05_Rat false))) fun r18 =>
 (bd (faA 0 (.ptr (some (H.n, 0)))) fun t23_19 =>
 (bd (faA 1 t23_19) fun t24_20 =>
 (bd (ld1 t24_20 r18.2) fun t25_21 =>
 (bd (f_ref03_DivMod n [t25_21, r18.1] r18.2) fun r22 =>
 (bd (extA r22.1 0) fun t28_23 =>
 (bd (extA r22.1 1) fun t29_24 =>
 (bd (faA 2 (.ptr (some (H.n, 0)))) fun t31_25 =>
 (bd (faA 1 t31_25) fun t32_26 =>
 (bd (ld1 t32_26 r22.2) fun t33_27 =>
 (bd (f_ref03_DivMod n [t33_27, r18.1] r22.2) fun r28 =>
 (bd (extA r28.1 0) fun t36_29 =>
 (bd (extA r28.1 1) fun t37_30 =>
 (bd (faA 0 (.ptr (some (H.n, 0)))) fun t38_31 =>
 (bd (faA 0 t38_31) fun t39_32 =>
 (bd (ld1 t39_32 r28.2) fun t40_33 =>
 (bd (flA [(0, 1), (1, 1)] [(.int .i64 0), (.slice ⟨none, 0, 0, false⟩)] [(0, t40_33), (1, t28_23)]) fun t42_34 =>
 (bd (flA [(0, 1), (1, 1)] [(.int .i64 0), (.slice ⟨none, 0, 0, false⟩)] [(0, (.int .i64 1)), (1, t36_29)]) fun t44_35 =>
 (bd (flA [(0, 2), (2, 2)] [(.int .i64 0), (.slice ⟨none, 0, 0, false⟩), (.int .i64 0), (.slice ⟨none, 0, 0, false⟩)] [(0, t42_34), (1, t44_35)]) fun t45_36 =>
 (bd (stA 4 (.ptr (some ((H.push o1).n, 0))) t45_36 r28.2) fun H37 =>
 (bd (ldN 4 (.ptr (some ((H.push o1).n, 0))) H37) fun t38 =>
 (some (t38, H37)))))))))))))))))))))))))))))))))))
theorem ref05_Low_tot {v0 : V} {H : Heap} {Q : V → Heap → Prop} (h : Tot (fun n => ref05_Low_b @bnd n v0 H) Q) : Tot (fun n => f_ref05_Low n [v0] H) Q := Tot.fn (fun n => bd_bnd (fun bd => ref05_Low_b bd n v0 H) (by kernel_rfl)) h
@[simp] noncomputable def ref05_Neg_b (bd : B2) (n : Nat) (v0 : V) (H : Heap) : Option R :=
 (bd (boxA ty_ref05_Rat v0) fun o1 =>
 (bd (faA 0 (.ptr (some (H.n, 0)))) fun t3_2 =>
 (bd (ldN 2 t3_2 (((H.push o1).push (.cells [(.int .i64 0), (.slice ⟨none, 0, 0, false⟩), (.int .i64 0), (.slice ⟨none, 0, 0, false⟩)] ty_ref05_Rat false)).more 0)) fun t4_3 =>
 (bd (f_ref04_Neg n [t4_3] (((H.push o1).push (.cells [(.int .i64 0), (.slice ⟨none, 0, 0, false⟩), (.int .i64 0), (.slice ⟨none, 0, 0, false⟩)] ty_ref05_Rat false)).more 0)) fun r4 =>
 (bd (faA 2 (.ptr (some (H.n, 0)))) fun t6_5 =>
 (bd (ldN 2 t6_5 r4.2) fun t7_6 =>
 (bd (chk (ldN 2 t6_5 (((H.push o1).push (.cells [(.int .i64 0), (.slice ⟨none, 0, 0, false⟩), (.int .i64 0), (.slice ⟨none, 0, 0, false⟩)] ty_ref05_Rat false)).more 0)) t7_6) fun _ =>
 (bd (flA [(0, 2), (2, 2)] [(.int .i64 0), (.slice ⟨none, 0, 0, false⟩), (.int .i64 0), (.slice ⟨none, 0, 0, false⟩)] [(0, r4.1), (1, t7_6)]) fun t8_7 =>
 (bd (stA 4 (.ptr (some ((H.push o1).n, 0))) t8_7 r4.2) fun H8 =>
 (bd (ldN 4 (.ptr (some ((H.push o1).n, 0))) H8) fun t9 =>
 (some (t9, H8))))))))))))
theorem ref05_Neg_tot {v0 : V} {H : Heap} {Q : V → Heap → Prop} (h : Tot (fun n => ref05_Neg_b @bnd n v0 H) Q) : Tot (fun n => f_ref05_Neg n [v0] H) Q := Tot.fn (fun n => bd_bnd (fun bd => ref05_Neg_b bd n v0 H) (by kernel_rfl)) h
@[simp] noncomputable def ref04_Mul_b (bd : B2) (n : Nat) (v0 v1 : V) (H : Heap) : Option R :=
 (bd (boxA ty_ref04_Int v0) fun o1 =>
 (bd (boxA ty_ref04_Int v1) fun o2 =>
 (bd (faA 1 (.ptr (some (H.n, 0)))) fun t10_3 =>
 (bd (ld1 t10_3 ((((H.push o1).push o2).push (.cells [(.int .i64 0), (.slice ⟨none, 0, 0, false⟩)] ty_ref04_Int false)).more 0)) fun t11_4 =>
 (bd (faA 1 (.ptr (some ((H.push o1).n, 0)))) fun t12_5 =>
 (bd (ld1 t12_5 ((((H.push o1).push o2).push (.cells [(.int .i64 0), (.slice ⟨none, 0, 0, false⟩)] ty_ref04_Int false)).more 0)) fun t13_6 =>
 (bd (f_ref03_Mul n [t11_4, t13_6] ((((H.push o1).push o2).push (.cells [(.int .i64 0), (.slice ⟨none, 0, 0, false⟩)] ty_ref04_Int false)).more 0)) fun r7 =>
 (bd (faA 0 (.ptr (some (H.n, 0)))) fun t5_8 =>
 (bd (ld1 t5_8 r7.2) fun t6_9 =>
 (bd (chk (ld1 t5_8 ((((H.push o1).push o2).push (.cells [(.int .i64 0), (.slice ⟨none, 0, 0, false⟩)] ty_ref04_Int false)).more 0)) t6_9) fun _ =>
 (bd (faA 0 (.ptr (some ((H.push o1).n, 0)))) fun t7_10 =>
 (bd (ld1 t7_10 r7.2) fun t8_11 =>
 (bd (chk (ld1 t7_10 ((((H.push o1).push o2).push (.cells [(.int .i64 0), (.slice ⟨none, 0, 0, false⟩)] ty_ref04_Int false)).more 0)) t8_11) fun _ =>
 (bd (arA .mul t6_9 t8_11) fun t9_12 =>
 (bd (f_ref04_make1 n [t9_12, r7.1] r7.2) fun r13 =>
 (bd (stA 2 (.ptr (some (((H.push o1).push o2).n, 0))) r13.1 r13.2) fun H14 =>
 (bd (ldN 2 (.ptr (some (((H.push o1).push o2).n, 0))) H14) fun t15 =>
 (some (t15, H14)))))))))))))))))))
theorem ref04_Mul_tot {v0 v1 : V} {H : Heap} {Q : V → Heap → Prop} (h : Tot (fun n => ref04_Mul_b @bnd n v0 v1 H) Q) : Tot (fun n => f_ref04_Mul n [v0, v1] H) Q := Tot.fn (fun n => bd_bnd (fun bd => ref04_Mul_b bd n v0 v1 H) (by kernel_rfl)) h
@[irreducible] noncomputable def ref04_Long.p0 (n : Nat) (v2 v3 v4 : V) (H : Heap) : Option R := E C n 37 [1, 1, 1, 1] [(2, v2), (3, v3), (4, v4)] H (kR C 37)
@[simp] noncomputable def ref04_Long.p0_b (bd : B2) (n : Nat) (v2 v3 v4 : V) (H : Heap) : Option R :=
 (bd (cvInt .u32 v4) fun t17_1 =>
 (bd (shA .shr v4 (.int .u64 32)) fun t19_2 =>
 (bd (cvInt .u32 t19_2) fun t20_3 =>
 (bd (bSl 1 ty_uint32 [(.int .u32 0)] 2 [(0, t17_1), (1, t20_3)]) fun o4 =>
 (bd (f_ref03_Of n [(.slice ⟨some (H.n, 0), 2, 1, false⟩)] (H.push o4)) fun r5 =>
 (bd (flA [(0, 1), (1, 1)] [(.int .i64 0), (.slice ⟨none, 0, 0, false⟩)] [(0, v3), (1, r5.1)]) fun t23_6 =>
 (bd (stA 2 v2 t23_6 r5.2) fun H7 =>
 (bd (ldN 2 v2 H7) fun t8 =>
 (some (t8, H7))))))))))
theorem ref04_Long.p0_tot {v2 v3 v4 : V} {H : Heap} {Q : V → Heap → Prop} (h : Tot (fun n => ref04_Long.p0_b @bnd n v2 v3 v4 H) Q) : Tot (fun n => ref04_Long.p0 n v2 v3 v4 H) Q := Tot.eq (fun n => bd_bnd (fun bd => ref04_Long.p0_b bd n v2 v3 v4 H) (by kernel_rfl)) h
@[simp] noncomputable def ref04_Long_b (bd : B2) (n : Nat) (v0 : V) (H : Heap) : Option R :=
 (bd (arA .eql v0 (.int .i64 0)) fun t6_1 =>
 (bd (asB t6_1) fun b2 =>
 if b2 = true then
 (bd (flA [(0, 1), (1, 1)] [(.int .i64 0), (.slice ⟨none, 0, 0, false⟩)] []) fun t7_3 =>
 (bd (stA 2 (.ptr (some (H.n, 0))) t7_3 (H.push (.cells [(.int .i64 0), (.slice ⟨none, 0, 0, false⟩)] ty_ref04_Int false))) fun H4 =>
 (bd (ldN 2 (.ptr (some (H.n, 0))) H4) fun t5 =>
 (some (t5, H4)))))
 else
 (bd (cvInt .u64 v0) fun t9_6 =>
 (bd (arA .lss v0 (.int .i64 0)) fun t11_7 =>
 (bd (asB t11_7) fun b8 =>
 if b8 = true then
 (bd (cvInt .u64 v0) fun t13_9 =>
 (bd (arA .sub (.int .u64 0) t13_9) fun t14_10 =>
 (ref04_Long.p0 n (.ptr (some (H.n, 0))) (.int .i64 (-1)) t14_10 (H.push (.cells [(.int .i64 0), (.slice ⟨none, 0, 0, false⟩)] ty_ref04_Int false)))))
 else
 (ref04_Long.p0 n (.ptr (some (H.n, 0))) (.int .i64 1) t9_6 (H.push (.cells [(.int .i64 0), (.slice ⟨none, 0, 0, false⟩)] ty_ref04_Int false))))))))
theorem ref04_Long_tot {v0 : V} {H : Heap} {Q : V → Heap → Prop} (h : Tot (fun n => ref04_Long_b @bnd n v0 H) Q) : Tot (fun n => f_ref04_Long n [v0] H) Q := Tot.fn (fun n => bd_bnd (fun bd => ref04_Long_b bd n v0 H) (by kernel_rfl)) h
@[simp] noncomputable def ref04_Add_b (bd : B2) (n : Nat) (v0 v1 : V) (H : Heap) : Option R :=
 (bd (boxA ty_ref04_Int v0) fun o1 =>
 (bd (boxA ty_ref04_Int v1) fun o2 =>
 (bd (faA 0 (.ptr (some (H.n, 0)))) fun t5_3 =>
 (bd (ld1 t5_3 (((H.push o1).push o2).push (.cells [(.int .i64 0), (.slice ⟨none, 0, 0, false⟩)] ty_ref04_Int false))) fun t6_4 =>
 (bd (arA .eql t6_4 (.int .i64 0)) fun t7_5 =>
 (bd (asB t7_5) fun b6 =>
 if b6 = true then
 (bd (ldN 2 (.ptr (some ((H.push o1).n, 0))) (((H.push o1).push o2).push (.cells [(.int .i64 0), (.slice ⟨none, 0, 0, false⟩)] ty_ref04_Int false))) fun t8_7 =>
 (bd (stA 2 (.ptr (some (((H.push o1).push o2).n, 0))) t8_7 (((H.push o1).push o2).push (.cells [(.int .i64 0), (.slice ⟨none, 0, 0, false⟩)] ty_ref04_Int false))) fun H8 =>
 (bd (ldN 2 (.ptr (some (((H.push o1).push o2).n, 0))) H8) fun t9 =>
 (some (t9, H8)))))
 else
 (bd (faA 0 (.ptr (some ((H.push o1).n, 0)))) fun t9_10 =>
 (bd (ld1 t9_10 (((H.push o1).push o2).push (.cells [(.int .i64 0), (.slice ⟨none, 0, 0, false⟩)] ty_ref04_Int false))) fun t10_11 =>
 (bd (arA .eql t10_11 (.int .i64 0)) fun t11_12 =>
 (bd (asB t11_12) fun b13 =>
 if b13 = true then
 (bd (ldN 2 (.ptr (some (H.n, 0))) (((H.push o1).push o2).push (.cells [(.int .i64 0), (.slice ⟨none, 0, 0, false⟩)] ty_ref04_Int false))) fun t12_14 =>
 (bd (stA 2 (.ptr (some (((H.push o1).push o2).n, 0))) t12_14 (((H.push o1).push o2).push (.cells [(.int .i64 0), (.slice ⟨none, 0, 0, false⟩)] ty_ref04_Int false))) fun H15 =>
 (bd (ldN 2 (.ptr (some (((H.push o1).push o2).n, 0))) H15) fun t16 =>
 (some (t16, H15)))))
 else
 (bd (faA 0 (.ptr (some (H.n, 0)))) fun t13_17 =>
 (bd (ld1 t13_17 (((H.push o1).push o2).push (.cells [(.int .i64 0), (.slice ⟨none, 0, 0, false⟩)] ty_ref04_Int false))) fun t14_18 =>
 (bd (faA 0 (.ptr (some ((H.push o1).n, 0)))) fun t15_19 =>
 (bd (ld1 t15_19 (((H.push o1).push o2).push (.cells [(.int .i64 0), (.slice ⟨none, 0, 0, false⟩)] ty_ref04_Int false))) fun t16_20 =>
 (bd (arA .eql t14_18 t16_20) fun t17_21 =>
 (bd (asB t17_21) fun b22 =>
 if b22 = true then
 (bd (faA 1 (.ptr (some (H.n, 0)))) fun t20_23 =>
 (bd (ld1 t20_23 ((((H.push o1).push o2).push (.cells [(.int .i64 0), (.slice ⟨none, 0, 0, false⟩)] ty_ref04_Int false)).more 0)) fun t21_24 =>
 (bd (faA 1 (.ptr (some ((H.push o1).n, 0)))) fun t22_25 =>
 (bd (ld1 t22_25 ((((H.push o1).push o2).push (.cells [(.int .i64 0), (.slice ⟨none, 0, 0, false⟩)] ty_ref04_Int false)).more 0)) fun t23_26 =>
 (bd (f_ref03_Add n [t21_24, t23_26] ((((H.push o1).push o2).push (.cells [(.int .i64 0), (.slice ⟨none, 0, 0, false⟩)] ty_ref04_Int false)).more 0)) fun r27 =>
 (bd (faA 0 (.ptr (some (H.n, 0)))) fun t18_28 =>
 (bd (ld1 t18_28 r27.2) fun t19_29 =>
 (bd (chk (ld1 t18_28 ((((H.push o1).push o2).push (.cells [(.int .i64 0), (.slice ⟨none, 0, 0, false⟩)] ty_ref04_Int false)).more 0)) t19_29) fun _ =>
 (bd (flA [(0, 1), (1, 1)] [(.int .i64 0), (.slice ⟨none, 0, 0, false⟩)] [(0, t19_29), (1, r27.1)]) fun t25_30 =>
 (bd (stA 2 (.ptr (some (((H.push o1).push o2).n, 0))) t25_30 r27.2) fun H31 =>
 (bd (ldN 2 (.ptr (some (((H.push o1).push o2).n, 0))) H31) fun t32 =>
 (some (t32, H31)))))))))))))
 else
 (bd (faA 1 (.ptr (some (H.n, 0)))) fun t26_33 =>
 (bd (ld1 t26_33 (((H.push o1).push o2).push (.cells [(.int .i64 0), (.slice ⟨none, 0, 0, false⟩)] ty_ref04_Int false))) fun t27_34 =>
 (bd (faA 1 (.ptr (some ((H.push o1).n, 0)))) fun t28_35 =>
 (bd (ld1 t28_35 (((H.push o1).push o2).push (.cells [(.int .i64 0), (.slice ⟨none, 0, 0, false⟩)] ty_ref04_Int false))) fun t29_36 =>
 (bd (f_ref03_Cmp n [t27_34, t29_36] (((H.push o1).push o2).push (.cells [(.int .i64 0), (.slice ⟨none, 0, 0, false⟩)] ty_ref04_Int false))) fun r37 =>
 (bd (arA .geq r37.1 (.int .i64 0)) fun t31_38 =>
 (bd (asB t31_38) fun b39 =>
 if b39 = true then
 (bd (faA 1 (.ptr (some (H.n, 0)))) fun t34_40 =>
 (bd (ld1 t34_40 (r37.2.more 0)) fun t35_41 =>
 (bd (faA 1 (.ptr (some ((H.push o1).n, 0)))) fun t36_42 =>
 (bd (ld1 t36_42 (r37.2.more 0)) fun t37_43 =>
 (bd (f_ref03_Sub n [t35_41, t37_43] (r37.2.more 0)) fun r44 =>
 (bd (faA 0 (.ptr (some (H.n, 0)))) fun t32_45 =>
 (bd (ld1 t32_45 r44.2) fun t33_46 =>
 (bd (chk (ld1 t32_45 (r37.2.more 0)) t33_46) fun _ =>
 (bd (f_ref04_make1 n [t33_46, r44.1] r44.2) fun r47 =>
 (bd (stA 2 (.ptr (some (((H.push o1).push o2).n, 0))) r47.1 r47.2) fun H48 =>
 (bd (ldN 2 (.ptr (some (((H.push o1).push o2).n, 0))) H48) fun t49 =>
 (some (t49, H48)))))))))))))
 else
 (bd (faA 1 (.ptr (some ((H.push o1).n, 0)))) fun t42_50 =>
 (bd (ld1 t42_50 (r37.2.more 0)) fun t43_51 =>
 (bd (faA 1 (.ptr (some (H.n, 0)))) fun t44_52 =>
 (bd (ld1 t44_52 (r37.2.more 0)) fun t45_53 =>
 (bd (f_ref03_Sub n [t43_51, t45_53] (r37.2.more 0)) fun r54 =>
 (bd (faA 0 (.ptr (some ((H.push o1).n, 0)))) fun t40_55 =>
 (bd (ld1 t40_55 r54.2) fun t41_56 =>
 (bd (chk (ld1 t40_55 (r37.2.more 0)) t41_56) fun _ =>
 (bd (f_ref04_make1 n [t41_56, r54.1] r54.2) fun r57 =>
 (bd (stA 2 (.ptr (some (((H.push o1).push o2).n, 0))) r57.1 r57.2) fun H58 =>
 (bd (ldN 2 (.ptr (some (((H.push o1).push o2).n, 0))) H58) fun t59 =>
 (some (t59, H58))))))))))))))))))))))))))))))))))))
theorem ref04_Add_tot {v0 v1 : V} {H : Heap} {Q : V → Heap → Prop} (h : Tot (fun n => ref04_Add_b @bnd n v0 v1 H) Q) : Tot (fun n => f_ref04_Add n [v0, v1] H) Q := Tot.fn (fun n => bd_bnd (fun bd => ref04_Add_b bd n v0 v1 H) (by kernel_rfl)) h
@[simp] noncomputable def ref04_Cmp_b (bd : B2) (n : Nat) (v0 v1 : V) (H : Heap) : Option R :=
 (bd (boxA ty_ref04_Int v0) fun o1 =>
 (bd (boxA ty_ref04_Int v1) fun o2 =>
 (bd (ldN 2 (.ptr (some (H.n, 0))) ((H.push o1).push o2)) fun t5_3 =>
 (bd (ldN 2 (.ptr (some ((H.push o1).n, 0))) ((H.push o1).push o2)) fun t6_4 =>
 (bd (f_ref04_Sub n [t5_3, t6_4] ((H.push o1).push o2)) fun r5 =>
 (bd (fd1 0 r5.1) fun t8_6 =>
 (some (t8_6, r5.2))))))))
theorem ref04_Cmp_tot {v0 v1 : V} {H : Heap} {Q : V → Heap → Prop} (h : Tot (fun n => ref04_Cmp_b @bnd n v0 v1 H) Q) : Tot (fun n => f_ref04_Cmp n [v0, v1] H) Q := Tot.fn (fun n => bd_bnd (fun bd => ref04_Cmp_b bd n v0 v1 H) (by kernel_rfl)) h
@[irreducible] noncomputable def ref03_Of.l0 (n m0 : Nat) (v0 v3 v4 : V) (H : Heap) : Option R := Lp C n 40 [1, 1, 0, 1, 0, 0] m0 [(0, v0), (3, v3), (4, v4)] H (kB 0 (kC C n 40 [1, 1, 1] (kR C 40)))
@[simp] noncomputable def ref03_Of.l0_b (bd : B2) (n m0 : Nat) (v0 v3 v4 : V) (H : Heap) : Option R :=
 (bd (lenSl v0) fun t8_1 =>
 (bd (arA .lss v4 t8_1) fun t9_2 =>
 (bd (asB t9_2) fun b3 =>
 if b3 = true then
 (bd (idxS 1 v0 v4) fun t15_4 =>
 (bd (ld1 t15_4 (H.more 1)) fun t16_5 =>
 (bd (arA .rem t16_5 (.int .u32 65536)) fun t17_6 =>
 (bd (cvInt .i64 t17_6) fun t18_7 =>
 (bd (idxS 1 v0 v4) fun t21_8 =>
 (bd (ld1 t21_8 (H.more 1)) fun t22_9 =>
 (bd (arA .quo t22_9 (.int .u32 65536)) fun t23_10 =>
 (bd (cvInt .i64 t23_10) fun t24_11 =>
 (bd (bSl 1 ty_int [(.int .i64 0)] 2 [(0, t18_7), (1, t24_11)]) fun o12 =>
 (bd (appA 1 8 ty_int v3 (.slice ⟨some ((H.n + 0), 0), 2, 1, false⟩) ((H.more 1).set (H.n + 0) o12)) fun p13 =>
 (bd (arA .add v4 (.int .i64 1)) fun t11_14 =>
 (ref03_Of.l0 n m0 v0 p13.1 t11_14 p13.2))))))))))))
 else
 (bd (f_ref03_Trim n [v3] H) fun r15 =>
 (some (r15.1, r15.2))))))
theorem ref03_Of.l0_tot {m0 : Nat → Nat} {v0 v3 v4 : V} {H : Heap} {Q : V → Heap → Prop} (hb : Big m0) (h : ∀ m0', Big m0' → Tot (fun n => ref03_Of.l0_b @bnd n (m0' n) v0 v3 v4 H) Q) : Tot (fun n => ref03_Of.l0 n (m0 n) v0 v3 v4 H) Q :=
  Tot.loop (f := fun n k => ref03_Of.l0 n k v0 v3 v4 H) (g := fun n k => ref03_Of.l0_b @bnd n k v0 v3 v4 H) hb (fun n k => bd_bnd (fun bd => ref03_Of.l0_b bd n k v0 v3 v4 H) (by kernel_rfl)) h
@[simp] noncomputable def ref03_Of_b (bd : B2) (n : Nat) (v0 : V) (H : Heap) : Option R :=
 (bd (bSl 1 ty_int [(.int .i64 0)] 0 []) fun o1 =>
 (ref03_Of.l0 n n v0 (.slice ⟨some (H.n, 0), 0, 1, false⟩) (.int .i64 0) (H.push o1)))
theorem ref03_Of_tot {v0 : V} {H : Heap} {Q : V → Heap → Prop} (h : Tot (fun n => ref03_Of_b @bnd n v0 H) Q) : Tot (fun n => f_ref03_Of n [v0] H) Q := Tot.fn (fun n => bd_bnd (fun bd => ref03_Of_b bd n v0 H) (by kernel_rfl)) h
@[simp] noncomputable def ref04_Of_b (bd : B2) (n : Nat) (v0 : V) (H : Heap) : Option R :=
 (bd (boxA ty_api_Int v0) fun o1 =>
 (bd (faA 1 (.ptr (some (H.n, 0)))) fun t4_2 =>
 (bd (ld1 t4_2 ((H.push o1).push (.cells [(.int .i64 0), (.slice ⟨none, 0, 0, false⟩)] ty_ref04_Int false))) fun t5_3 =>
 (bd (f_ref03_Of n [t5_3] ((H.push o1).push (.cells [(.int .i64 0), (.slice ⟨none, 0, 0, false⟩)] ty_ref04_Int false))) fun r4 =>
 (bd (lenSl r4.1) fun t8_5 =>
 (bd (arA .eql t8_5 (.int .i64 0)) fun t9_6 =>
 (bd (asB t9_6) fun b7 =>
 if b7 = true then
 (bd (flA [(0, 1), (1, 1)] [(.int .i64 0), (.slice ⟨none, 0, 0, false⟩)] []) fun t10_8 =>
 (bd (stA 2 (.ptr (some ((H.push o1).n, 0))) t10_8 r4.2) fun H9 =>
 (bd (ldN 2 (.ptr (some ((H.push o1).n, 0))) H9) fun t10 =>
 (some (t10, H9)))))
 else
 (bd (faA 0 (.ptr (some (H.n, 0)))) fun t11_11 =>
 (bd (ld1 t11_11 r4.2) fun t12_12 =>
 (bd (asB t12_12) fun b13 =>
 if b13 = true then
 (bd (flA [(0, 1), (1, 1)] [(.int .i64 0), (.slice ⟨none, 0, 0, false⟩)] [(0, (.int .i64 (-1))), (1, r4.1)]) fun t14_14 =>
 (bd (stA 2 (.ptr (some ((H.push o1).n, 0))) t14_14 r4.2) fun H15 =>
 (bd (ldN 2 (.ptr (some ((H.push o1).n, 0))) H15) fun t16 =>
 (some (t16, H15)))))
 else
 (bd (flA [(0, 1), (1, 1)] [(.int .i64 0), (.slice ⟨none, 0, 0, false⟩)] [(0, (.int .i64 1)), (1, r4.1)]) fun t16_17 =>
 (bd (stA 2 (.ptr (some ((H.push o1).n, 0))) t16_17 r4.2) fun H18 =>
 (bd (ldN 2 (.ptr (some ((H.push o1).n, 0))) H18) fun t19 =>
 (some (t19, H18)))))))))))))))
theorem ref04_Of_tot {v0 : V} {H : Heap} {Q : V → Heap → Prop} (h : Tot (fun n => ref04_Of_b @bnd n v0 H) Q) : Tot (fun n => f_ref04_Of n [v0] H) Q := Tot.fn (fun n => bd_bnd (fun bd => ref04_Of_b bd n v0 H) (by kernel_rfl)) h
@[irreducible] noncomputable def ref03_Gcd.l0 (n m0 : Nat) (v5 v6 v7 v8 : V) (H : Heap) : Option R := Lp C n 43 [1, 1, 1, 1, 1, 0, 0, 0] m0 [(5, v5), (6, v6), (7, v7), (8, v8)] H (kB 0 (kC C n 43 [1, 1, 1, 1, 1, 1] (kR C 43)))
@[irreducible] noncomputable def ref03_Gcd.p1 (n : Nat) (v5 v6 v7 v8 : V) (H : Heap) : Option R := E C n 43 [1, 1, 1, 1, 1, 1] [(5, v5), (6, v6), (7, v7), (8, v8)] H (kR C 43)
@[irreducible] noncomputable def ref03_Gcd.l2 (n m0 : Nat) (v5 v6 v7 v8 : V) (H : Heap) : Option R := Lp C n 43 [1, 1, 1, 1, 1, 1, 0, 0, 0] m0 [(5, v5), (6, v6), (7, v7), (8, v8)] H (kB 2 (kC C n 43 [1, 1, 1, 1, 1, 1, 1] (kR C 43)))
@[irreducible] noncomputable def ref03_Gcd.l3 (n m0 m1 : Nat) (v5 v6 v7 v8 : V) (H : Heap) : Option R := Lp C n 43 [1, 1, 1, 1, 1, 1, 0, 0, 0, 1, 0, 0, 0, 0] m1 [(5, v5), (6, v6), (7, v7), (8, v8)] H (kB 4 (kC C n 43 [1, 1, 1, 1, 1, 1, 0, 0, 0, 1, 0, 1] (kB 3 (kL C n 43 [1, 1, 1, 1, 1, 1, 0, 0, 0] m0 (kB 2 (kC C n 43 [1, 1, 1, 1, 1, 1, 1] (kR C 43)))))))
@[irreducible] noncomputable def ref03_Gcd.p4 (n : Nat) (v5 v7 v8 : V) (H : Heap) : Option R := E C n 43 [1, 1, 1, 1, 1, 1, 1] [(5, v5), (7, v7), (8, v8)] H (kR C 43)
@[irreducible] noncomputable def ref03_Gcd.p5 (n m0 : Nat) (v5 v6 v7 v8 : V) (H : Heap) : Option R := E C n 43 [1, 1, 1, 1, 1, 1, 0, 0, 0, 1, 0, 1] [(5, v5), (6, v6), (7, v7), (8, v8)] H (kB 3 (kL C n 43 [1, 1, 1, 1, 1, 1, 0, 0, 0] m0 (kB 2 (kC C n 43 [1, 1, 1, 1, 1, 1, 1] (kR C 43)))))
@[irreducible] noncomputable def ref03_Gcd.l6 (n m0 : Nat) (v5 v7 v8 v9 : V) (H : Heap) : Option R := Lp C n 43 [1, 1, 1, 1, 1, 1, 1, 0, 1, 0, 0] m0 [(5, v5), (7, v7), (8, v8), (9, v9)] H (kB 8 (kC C n 43 [1, 1, 1, 1, 1, 1, 1, 1] (kR C 43)))
@[irreducible] noncomputable def ref03_Gcd.l7 (n m0 m1 : Nat) (v5 v6 v7 v8 : V) (H : Heap) : Option R := Lp C n 43 [1, 1, 1, 1, 1, 1, 0, 0, 0, 1, 0, 1, 0, 0, 0] m1 [(5, v5), (6, v6), (7, v7), (8, v8)] H (kB 6 (kC C n 43 [1, 1, 1, 1, 1, 1, 0, 0, 0, 1, 0, 1, 1] (kB 3 (kL C n 43 [1, 1, 1, 1, 1, 1, 0, 0, 0] m0 (kB 2 (kC C n 43 [1, 1, 1, 1, 1, 1, 1] (kR C 43)))))))
@[irreducible] noncomputable def ref03_Gcd.p8 (n : Nat) (v5 v7 : V) (H : Heap) : Option R := E C n 43 [1, 1, 1, 1, 1, 1, 1, 1] [(5, v5), (7, v7)] H (kR C 43)
@[irreducible] noncomputable def ref03_Gcd.p9 (n m0 : Nat) (v5 v6 v7 v8 : V) (H : Heap) : Option R := E C n 43 [1, 1, 1, 1, 1, 1, 0, 0, 0, 1, 0, 1, 1] [(5, v5), (6, v6), (7, v7), (8, v8)] H (kB 3 (kL C n 43 [1, 1, 1, 1, 1, 1, 0, 0, 0] m0 (kB 2 (kC C n 43 [1, 1, 1, 1, 1, 1, 1] (kR C 43)))))
@[simp] noncomputable def ref03_Gcd.l0_b (bd : B2) (n m0 : Nat) (v5 v6 v7 v8 : V) (H : Heap) : Option R :=
 (bd (idxS 1 v6 (.int .i64 0)) fun t22_1 =>
 (bd (ld1 t22_1 H) fun t23_2 =>
 (bd (arA .rem t23_2 (.int .i64 2)) fun t24_3 =>
 (bd (arA .eql t24_3 (.int .i64 0)) fun t25_4 =>
 (bd (asB t25_4) fun b5 =>
 if b5 = true then
 (bd (idxS 1 v7 (.int .i64 0)) fun t28_6 =>
 (bd (ld1 t28_6 H) fun t29_7 =>
 (bd (arA .rem t29_7 (.int .i64 2)) fun t30_8 =>
 (bd (arA .eql t30_8 (.int .i64 0)) fun t31_9 =>
 (bd (asB t31_9) fun b10 =>
 if b10 = true then
 (bd (f_ref03_Half n [v6] H) fun r11 =>
 (bd (f_ref03_Half n [v7] r11.2) fun r12 =>
 (bd (arA .add v8 (.int .i64 1)) fun t38_13 =>
 (ref03_Gcd.l0 n m0 v5 r11.1 r12.1 t38_13 r12.2))))
 else
 (ref03_Gcd.p1 n v5 v6 v7 v8 H))))))
 else
 (ref03_Gcd.p1 n v5 v6 v7 v8 H))))))
theorem ref03_Gcd.l0_tot {m0 : Nat → Nat} {v5 v6 v7 v8 : V} {H : Heap} {Q : V → Heap → Prop} (hb : Big m0) (h : ∀ m0', Big m0' → Tot (fun n => ref03_Gcd.l0_b @bnd n (m0' n) v5 v6 v7 v8 H) Q) : Tot (fun n => ref03_Gcd.l0 n (m0 n) v5 v6 v7 v8 H) Q :=
  Tot.loop (f := fun n k => ref03_Gcd.l0 n k v5 v6 v7 v8 H) (g := fun n k => ref03_Gcd.l0_b @bnd n k v5 v6 v7 v8 H) hb (fun n k => bd_bnd (fun bd => ref03_Gcd.l0_b bd n k v5 v6 v7 v8 H) (by kernel_rfl)) h
@[simp] noncomputable def ref03_Gcd.p1_b (bd : B2) (n : Nat) (v5 v6 v7 v8 : V) (H : Heap) : Option R :=
 (ref03_Gcd.l2 n n v5 v6 v7 v8 H)
theorem ref03_Gcd.p1_tot {v5 v6 v7 v8 : V} {H : Heap} {Q : V → Heap → Prop} (h : Tot (fun n => ref03_Gcd.p1_b @bnd n v5 v6 v7 v8 H) Q) : Tot (fun n => ref03_Gcd.p1 n v5 v6 v7 v8 H) Q := Tot.eq (fun n => bd_bnd (fun bd => ref03_Gcd.p1_b bd n v5 v6 v7 v8 H) (by kernel_rfl)) h
@[simp] noncomputable def ref03_Gcd.l2_b (bd : B2) (n m0 : Nat) (v5 v6 v7 v8 : V) (H : Heap) : Option R :=
 (bd (lenSl v6) fun t40_1 =>
 (bd (arA .gtr t40_1 (.int .i64 0)) fun t41_2 =>
 (bd (asB t41_2) fun b3 =>
 if b3 = true then
 (ref03_Gcd.l3 n m0 n v5 v6 v7 v8 H)
 else
 (ref03_Gcd.p4 n v5 v7 v8 H))))
theorem ref03_Gcd.l2_tot {m0 : Nat → Nat} {v5 v6 v7 v8 : V} {H : Heap} {Q : V → Heap → Prop} (hb : Big m0) (h : ∀ m0', Big m0' → Tot (fun n => ref03_Gcd.l2_b @bnd n (m0' n) v5 v6 v7 v8 H) Q) : Tot (fun n => ref03_Gcd.l2 n (m0 n) v5 v6 v7 v8 H) Q :=
  Tot.loop (f := fun n k => ref03_Gcd.l2 n k v5 v6 v7 v8 H) (g := fun n k => ref03_Gcd.l2_b @bnd n k v5 v6 v7 v8 H) hb (fun n k => bd_bnd (fun bd => ref03_Gcd.l2_b bd n k v5 v6 v7 v8 H) (by kernel_rfl)) h
@[simp] noncomputable def ref03_Gcd.l3_b (bd : B2) (n m0 m1 : Nat) (v5 v6 v7 v8 : V) (H : Heap) : Option R :=
 (bd (idxS 1 v6 (.int .i64 0)) fun t43_1 =>
 (bd (ld1 t43_1 H) fun t44_2 =>
 (bd (arA .rem t44_2 (.int .i64 2)) fun t45_3 =>
 (bd (arA .eql t45_3 (.int .i64 0)) fun t46_4 =>
 (bd (asB t46_4) fun b5 =>
 if b5 = true then
 (bd (f_ref03_Half n [v6] H) fun r6 =>
 (ref03_Gcd.l3 n m0 m1 v5 r6.1 v7 v8 r6.2))
 else
 (ref03_Gcd.p5 n m0 v5 v6 v7 v8 H))))))
theorem ref03_Gcd.l3_tot {m0 : Nat → Nat} {m1 : Nat → Nat} {v5 v6 v7 v8 : V} {H : Heap} {Q : V → Heap → Prop} (hb : Big m1) (h : ∀ m1', Big m1' → Tot (fun n => ref03_Gcd.l3_b @bnd n (m0 n) (m1' n) v5 v6 v7 v8 H) Q) : Tot (fun n => ref03_Gcd.l3 n (m0 n) (m1 n) v5 v6 v7 v8 H) Q :=
  Tot.loop (f := fun n k => ref03_Gcd.l3 n (m0 n) k v5 v6 v7 v8 H) (g := fun n k => ref03_Gcd.l3_b @bnd n (m0 n) k v5 v6 v7 v8 H) hb (fun n k => bd_bnd (fun bd => ref03_Gcd.l3_b bd n (m0 n) k v5 v6 v7 v8 H) (by kernel_rfl)) h
@[simp] noncomputable def ref03_Gcd.p4_b (bd : B2) (n : Nat) (v5 v7 v8 : V) (H : Heap) : Option R :=
 (ref03_Gcd.l6 n n v5 v7 v8 (.int .i64 0) H)
theorem ref03_Gcd.p4_tot {v5 v7 v8 : V} {H : Heap} {Q : V → Heap → Prop} (h : Tot (fun n => ref03_Gcd.p4_b @bnd n v5 v7 v8 H) Q) : Tot (fun n => ref03_Gcd.p4 n v5 v7 v8 H) Q := Tot.eq (fun n => bd_bnd (fun bd => ref03_Gcd.p4_b bd n v5 v7 v8 H) (by kernel_rfl)) h
@[simp] noncomputable def ref03_Gcd.p5_b (bd : B2) (n m0 : Nat) (v5 v6 v7 v8 : V) (H : Heap) : Option R :=
 (ref03_Gcd.l7 n m0 n v5 v6 v7 v8 H)
theorem ref03_Gcd.p5_tot {m0 : Nat → Nat} {v5 v6 v7 v8 : V} {H : Heap} {Q : V → Heap → Prop} (h : Tot (fun n => ref03_Gcd.p5_b @bnd n (m0 n) v5 v6 v7 v8 H) Q) : Tot (fun n => ref03_Gcd.p5 n (m0 n) v5 v6 v7 v8 H) Q := Tot.eq (fun n => bd_bnd (fun bd => ref03_Gcd.p5_b bd n (m0 n) v5 v6 v7 v8 H) (by kernel_rfl)) h
@[simp] noncomputable def ref03_Gcd.l6_b (bd : B2) (n m0 : Nat) (v5 v7 v8 v9 : V) (H : Heap) : Option R :=
 (bd (arA .lss v9 v8) fun t67_1 =>
 (bd (asB t67_1) fun b2 =>
 if b2 = true then
 (bd (f_ref03_Add n [v5, v5] H) fun r3 =>
 (bd (arA .add v9 (.int .i64 1)) fun t69_4 =>
 (ref03_Gcd.l6 n m0 r3.1 v7 v8 t69_4 r3.2)))
 else
 (ref03_Gcd.p8 n v5 v7 H)))
theorem ref03_Gcd.l6_tot {m0 : Nat → Nat} {v5 v7 v8 v9 : V} {H : Heap} {Q : V → Heap → Prop} (hb : Big m0) (h : ∀ m0', Big m0' → Tot (fun n => ref03_Gcd.l6_b @bnd n (m0' n) v5 v7 v8 v9 H) Q) : Tot (fun n => ref03_Gcd.l6 n (m0 n) v5 v7 v8 v9 H) Q :=
  Tot.loop (f := fun n k => ref03_Gcd.l6 n k v5 v7 v8 v9 H) (g := fun n k => ref03_Gcd.l6_b @bnd n k v5 v7 v8 v9 H) hb (fun n k => bd_bnd (fun bd => ref03_Gcd.l6_b bd n k v5 v7 v8 v9 H) (by kernel_rfl)) h
@[simp] noncomputable def ref03_Gcd.l7_b (bd : B2) (n m0 m1 : Nat) (v5 v6 v7 v8 : V) (H : Heap) : Option R :=
 (bd (idxS 1 v7 (.int .i64 0)) fun t50_1 =>
 (bd (ld1 t50_1 H) fun t51_2 =>
 (bd (arA .rem t51_2 (.int .i64 2)) fun t52_3 =>
 (bd (arA .eql t52_3 (.int .i64 0)) fun t53_4 =>
 (bd (asB t53_4) fun b5 =>
 if b5 = true then
 (bd (f_ref03_Half n [v7] H) fun r6 =>
 (ref03_Gcd.l7 n m0 m1 v5 v6 r6.1 v8 r6.2))
 else
 (ref03_Gcd.p9 n m0 v5 v6 v7 v8 H))))))
theorem ref03_Gcd.l7_tot {m0 : Nat → Nat} {m1 : Nat → Nat} {v5 v6 v7 v8 : V} {H : Heap} {Q : V → Heap → Prop} (hb : Big m1) (h : ∀ m1', Big m1' → Tot (fun n => ref03_Gcd.l7_b @bnd n (m0 n) (m1' n) v5 v6 v7 v8 H) Q) : Tot (fun n => ref03_Gcd.l7 n (m0 n) (m1 n) v5 v6 v7 v8 H) Q :=
  Tot.loop (f := fun n k => ref03_Gcd.l7 n (m0 n) k v5 v6 v7 v8 H) (g := fun n k => ref03_Gcd.l7_b @bnd n (m0 n) k v5 v6 v7 v8 H) hb (fun n k => bd_bnd (fun bd => ref03_Gcd.l7_b bd n (m0 n) k v5 v6 v7 v8 H) (by kernel_rfl)) h
@[simp] noncomputable def ref03_Gcd.p8_b (bd : B2) (n : Nat) (v5 v7 : V) (H : Heap) : Option R :=
 (bd (f_ref03_Mul n [v7, v5] H) fun r1 =>
 (some (r1.1, r1.2)))
theorem ref03_Gcd.p8_tot {v5 v7 : V} {H : Heap} {Q : V → Heap → Prop} (h : Tot (fun n => ref03_Gcd.p8_b @bnd n v5 v7 H) Q) : Tot (fun n => ref03_Gcd.p8 n v5 v7 H) Q := Tot.eq (fun n => bd_bnd (fun bd => ref03_Gcd.p8_b bd n v5 v7 H) (by kernel_rfl)) h
@[simp] noncomputable def ref03_Gcd.p9_b (bd : B2) (n m0 : Nat) (v5 v6 v7 v8 : V) (H : Heap) : Option R :=
 (bd (f_ref03_Cmp n [v6, v7] H) fun r1 =>
 (bd (arA .lss r1.1 (.int .i64 0)) fun t59_2 =>
 (bd (asB t59_2) fun b3 =>
 if b3 = true then
 (bd (f_ref03_Sub n [v7, v6] r1.2) fun r4 =>
 (ref03_Gcd.l2 n m0 v5 r4.1 v6 v8 r4.2))
 else
 (bd (f_ref03_Sub n [v6, v7] r1.2) fun r5 =>
 (ref03_Gcd.l2 n m0 v5 r5.1 v7 v8 r5.2)))))
theorem ref03_Gcd.p9_tot {m0 : Nat → Nat} {v5 v6 v7 v8 : V} {H : Heap} {Q : V → Heap → Prop} (h : Tot (fun n => ref03_Gcd.p9_b @bnd n (m0 n) v5 v6 v7 v8 H) Q) : Tot (fun n => ref03_Gcd.p9 n (m0 n) v5 v6 v7 v8 H) Q := Tot.eq (fun n => bd_bnd (fun bd => ref03_Gcd.p9_b bd n (m0 n) v5 v6 v7 v8 H) (by kernel_rfl)) h
@[simp] noncomputable def ref03_Gcd_b (bd : B2) (n : Nat) (v0 v1 : V) (H : Heap) : Option R :=
 (bd (bSl 1 ty_int [(.int .i64 0)] 1 [(0, (.int .i64 1))]) fun o1 =>
 (bd (lenSl v0) fun t14_2 =>
 (bd (arA .eql t14_2 (.int .i64 0)) fun t15_3 =>
 (bd (asB t15_3) fun b4 =>
 if b4 = true then
 (some (v1, (H.push o1)))
 else
 (bd (lenSl v1) fun t18_5 =>
 (bd (arA .eql t18_5 (.int .i64 0)) fun t19_6 =>
 (bd (asB t19_6) fun b7 =>
 if b7 = true then
 (some (v0, (H.push o1)))
 else
 (ref03_Gcd.l0 n n (.slice ⟨some (H.n, 0), 1, 1, false⟩) v0 v1 (.int .i64 0) (H.push o1)))))))))
theorem ref03_Gcd_tot {v0 v1 : V} {H : Heap} {Q : V → Heap → Prop} (h : Tot (fun n => ref03_Gcd_b @bnd n v0 v1 H) Q) : Tot (fun n => f_ref03_Gcd n [v0, v1] H) Q := Tot.fn (fun n => bd_bnd (fun bd => ref03_Gcd_b bd n v0 v1 H) (by kernel_rfl)) h
@[irreducible] noncomputable def ref03_DivMod.l0 (n m0 : Nat) (v0 v1 v6 v7 v8 : V) (H : Heap) : Option R := Lp C n 44 [1, 1, 0, 1, 0, 0] m0 [(0, v0), (1, v1), (6, v6), (7, v7), (8, v8)] H (kB 0 (kC C n 44 [1, 1, 1] (kR C 44)))
@[irreducible] noncomputable def ref03_DivMod.p1 (n m0 : Nat) (v0 v1 v6 v7 v8 : V) (H : Heap) : Option R := E C n 44 [1, 1, 0, 1, 0, 0, 1, 0, 0, 1, 1] [(0, v0), (1, v1), (6, v6), (7, v7), (8, v8)] H (kB 1 (kC C n 44 [1, 1, 0, 1, 0, 0, 1, 1] (kL C n 44 [1, 1, 0, 1, 0, 0] m0 (kB 0 (kC C n 44 [1, 1, 1] (kR C 44))))))
@[irreducible] noncomputable def ref03_DivMod.p2 (n : Nat) (v6 v7 : V) (H : Heap) : Option R := E C n 44 [1, 1, 1] [(6, v6), (7, v7)] H (kR C 44)
@[simp] noncomputable def ref03_DivMod.l0_b (bd : B2) (n m0 : Nat) (v0 v1 v6 v7 v8 : V) (H : Heap) : Option R :=
 (bd (arA .geq v8 (.int .i64 0)) fun t18_1 =>
 (bd (asB t18_1) fun b2 =>
 if b2 = true then
 (bd (f_ref03_Add n [v7, v7] H) fun r3 =>
 (bd (arA .quo v8 (.int .i64 16)) fun t26_4 =>
 (bd (idxS 1 v0 t26_4) fun t27_5 =>
 (bd (ld1 t27_5 r3.2) fun t28_6 =>
 (bd (arA .rem v8 (.int .i64 16)) fun t30_7 =>
 (bd (cvInt .u64 t30_7) fun t31_8 =>
 (bd (shA .shr t28_6 t31_8) fun t32_9 =>
 (bd (arA .rem t32_9 (.int .i64 2)) fun t33_10 =>
 (bd (arA .eql t33_10 (.int .i64 1)) fun t34_11 =>
 (bd (asB t34_11) fun b12 =>
 if b12 = true then
 (bd (bSl 1 ty_int [(.int .i64 0)] 1 [(0, (.int .i64 1))]) fun o13 =>
 (bd (f_ref03_Add n [r3.1, (.slice ⟨some (r3.2.n, 0), 1, 1, false⟩)] (r3.2.push o13)) fun r14 =>
 (ref03_DivMod.p1 n m0 v0 v1 v6 r14.1 v8 r14.2)))
 else
 (ref03_DivMod.p1 n m0 v0 v1 v6 r3.1 v8 r3.2)))))))))))
 else
 (ref03_DivMod.p2 n v6 v7 H)))
theorem ref03_DivMod.l0_tot {m0 : Nat → Nat} {v0 v1 v6 v7 v8 : V} {H : Heap} {Q : V → Heap → Prop} (hb : Big m0) (h : ∀ m0', Big m0' → Tot (fun n => ref03_DivMod.l0_b @bnd n (m0' n) v0 v1 v6 v7 v8 H) Q) : Tot (fun n => ref03_DivMod.l0 n (m0 n) v0 v1 v6 v7 v8 H) Q :=
  Tot.loop (f := fun n k => ref03_DivMod.l0 n k v0 v1 v6 v7 v8 H) (g := fun n k => ref03_DivMod.l0_b @bnd n k v0 v1 v6 v7 v8 H) hb (fun n k => bd_bnd (fun bd => ref03_DivMod.l0_b bd n k v0 v1 v6 v7 v8 H) (by kernel_rfl)) h
@[simp] noncomputable def ref03_DivMod.p1_b (bd : B2) (n m0 : Nat) (v0 v1 v6 v7 v8 : V) (H : Heap) : Option R :=
 (bd (f_ref03_Cmp n [v7, v1] H) fun r1 =>
 (bd (arA .geq r1.1 (.int .i64 0)) fun t41_2 =>
 (bd (asB t41_2) fun b3 =>
 if b3 = true then
 (bd (f_ref03_Sub n [v7, v1] r1.2) fun r4 =>
 (bd (arA .quo v8 (.int .i64 16)) fun t47_5 =>
 (bd (arA .quo v8 (.int .i64 16)) fun t50_6 =>
 (bd (idxS 1 v6 t50_6) fun t51_7 =>
 (bd (ld1 t51_7 r4.2) fun t52_8 =>
 (bd (arA .rem v8 (.int .i64 16)) fun t54_9 =>
 (bd (cvInt .u64 t54_9) fun t55_10 =>
 (bd (shA .shl (.int .i64 1) t55_10) fun t56_11 =>
 (bd (arA .add t52_8 t56_11) fun t57_12 =>
 (bd (idxS 1 v6 t47_5) fun t58_13 =>
 (bd (stA 1 t58_13 t57_12 r4.2) fun H14 =>
 (bd (arA .sub v8 (.int .i64 1)) fun t20_15 =>
 (ref03_DivMod.l0 n m0 v0 v1 v6 r4.1 t20_15 H14)))))))))))))
 else
 (bd (arA .sub v8 (.int .i64 1)) fun t20_16 =>
 (ref03_DivMod.l0 n m0 v0 v1 v6 v7 t20_16 r1.2)))))
theorem ref03_DivMod.p1_tot {m0 : Nat → Nat} {v0 v1 v6 v7 v8 : V} {H : Heap} {Q : V → Heap → Prop} (h : Tot (fun n => ref03_DivMod.p1_b @bnd n (m0 n) v0 v1 v6 v7 v8 H) Q) : Tot (fun n => ref03_DivMod.p1 n (m0 n) v0 v1 v6 v7 v8 H) Q := Tot.eq (fun n => bd_bnd (fun bd => ref03_DivMod.p1_b bd n (m0 n) v0 v1 v6 v7 v8 H) (by kernel_rfl)) h
@[simp] noncomputable def ref03_DivMod.p2_b (bd : B2) (n : Nat) (v6 v7 : V) (H : Heap) : Option R :=
 (bd (f_ref03_Trim n [v6] H) fun r1 =>
 (some (.tuple [r1.1, v7], r1.2)))
theorem ref03_DivMod.p2_tot {v6 v7 : V} {H : Heap} {Q : V → Heap → Prop} (h : Tot (fun n => ref03_DivMod.p2_b @bnd n v6 v7 H) Q) : Tot (fun n => ref03_DivMod.p2 n v6 v7 H) Q := Tot.eq (fun n => bd_bnd (fun bd => ref03_DivMod.p2_b bd n v6 v7 H) (by kernel_rfl)) h
@[simp] noncomputable def ref03_DivMod_b (bd : B2) (n : Nat) (v0 v1 : V) (H : Heap) : Option R :=
 (bd (lenSl v0) fun t10_1 =>
 (bd (mkSl 1 8 ty_int [(.int .i64 0)] t10_1 t10_1) fun o2 =>
 (bd (bSl 1 ty_int [(.int .i64 0)] 0 []) fun o3 =>
 (bd (lenSl v0) fun t14_4 =>
 (bd (arA .mul (.int .i64 16) t14_4) fun t15_5 =>
 (bd (arA .sub t15_5 (.int .i64 1)) fun t16_6 =>
 (ref03_DivMod.l0 n n v0 v1 (.slice ⟨some (H.n, 0), o2.2, 1, false⟩) (.slice ⟨some ((H.push o2.1).n, 0), 0, 1, false⟩) t16_6 ((H.push o2.1).push o3))))))))
theorem ref03_DivMod_tot {v0 v1 : V} {H : Heap} {Q : V → Heap → Prop} (h : Tot (fun n => ref03_DivMod_b @bnd n v0 v1 H) Q) : Tot (fun n => f_ref03_DivMod n [v0, v1] H) Q := Tot.fn (fun n => bd_bnd (fun bd => ref03_DivMod_b bd n v0 v1 H) (by kernel_rfl)) h
@[simp] noncomputable def ref04_Neg_b (bd : B2) (n : Nat) (v0 : V) (H : Heap) : Option R :=
 (bd (boxA ty_ref04_Int v0) fun o1 =>
 (bd (faA 0 (.ptr (some (H.n, 0)))) fun t3_2 =>
 (bd (ld1 t3_2 ((H.push o1).push (.cells [(.int .i64 0), (.slice ⟨none, 0, 0, false⟩)] ty_ref04_Int false))) fun t4_3 =>
 (bd (arA .sub (.int .i64 0) t4_3) fun t5_4 =>
 (bd (faA 1 (.ptr (some (H.n, 0)))) fun t6_5 =>
 (bd (ld1 t6_5 ((H.push o1).push (.cells [(.int .i64 0), (.slice ⟨none, 0, 0, false⟩)] ty_ref04_Int false))) fun t7_6 =>
 (bd (flA [(0, 1), (1, 1)] [(.int .i64 0), (.slice ⟨none, 0, 0, false⟩)] [(0, t5_4), (1, t7_6)]) fun t8_7 =>
 (bd (stA 2 (.ptr (some ((H.push o1).n, 0))) t8_7 ((H.push o1).push (.cells [(.int .i64 0), (.slice ⟨none, 0, 0, false⟩)] ty_ref04_Int false))) fun H8 =>
 (bd (ldN 2 (.ptr (some ((H.push o1).n, 0))) H8) fun t9 =>
 (some (t9, H8)))))))))))
theorem ref04_Neg_tot {v0 : V} {H : Heap} {Q : V → Heap → Prop} (h : Tot (fun n => ref04_Neg_b @bnd n v0 H) Q) : Tot (fun n => f_ref04_Neg n [v0] H) Q := Tot.fn (fun n => bd_bnd (fun bd => ref04_Neg_b bd n v0 H) (by kernel_rfl)) h
@[simp] noncomputable def ref04_make1_b (bd : B2) (n : Nat) (v0 v1 : V) (H : Heap) : Option R :=
 (bd (lenSl v1) fun t6_1 =>
 (bd (arA .eql t6_1 (.int .i64 0)) fun t7_2 =>
 (bd (asB t7_2) fun b3 =>
 if b3 = true then
 (bd (flA [(0, 1), (1, 1)] [(.int .i64 0), (.slice ⟨none, 0, 0, false⟩)] []) fun t8_4 =>
 (bd (stA 2 (.ptr (some (H.n, 0))) t8_4 (H.push (.cells [(.int .i64 0), (.slice ⟨none, 0, 0, false⟩)] ty_ref04_Int false))) fun H5 =>
 (bd (ldN 2 (.ptr (some (H.n, 0))) H5) fun t6 =>
 (some (t6, H5)))))
 else
 (bd (flA [(0, 1), (1, 1)] [(.int .i64 0), (.slice ⟨none, 0, 0, false⟩)] [(0, v0), (1, v1)]) fun t11_7 =>
 (bd (stA 2 (.ptr (some (H.n, 0))) t11_7 (H.push (.cells [(.int .i64 0), (.slice ⟨none, 0, 0, false⟩)] ty_ref04_Int false))) fun H8 =>
 (bd (ldN 2 (.ptr (some (H.n, 0))) H8) fun t9 =>
 (some (t9, H8))))))))
theorem ref04_make1_tot {v0 v1 : V} {H : Heap} {Q : V → Heap → Prop} (h : Tot (fun n => ref04_make1_b @bnd n v0 v1 H) Q) : Tot (fun n => f_ref04_make1 n [v0, v1] H) Q := Tot.fn (fun n => bd_bnd (fun bd => ref04_make1_b bd n v0 v1 H) (by kernel_rfl)) h
@[irreducible] noncomputable def ref03_Mul.l0 (n m0 : Nat) (v0 v1 v5 v6 : V) (H : Heap) : Option R := Lp C n 58 [1, 1, 0, 1, 0, 0] m0 [(0, v0), (1, v1), (5, v5), (6, v6)] H (kB 0 (kC C n 58 [1, 1, 1] (kR C 58)))
@[irreducible] noncomputable def ref03_Mul.l1 (n m0 m1 : Nat) (v0 v1 v5 v6 v7 v8 : V) (H : Heap) : Option R := Lp C n 58 [1, 1, 0, 1, 0, 0, 1, 0, 0, 1, 0, 1, 0, 0] m1 [(0, v0), (1, v1), (5, v5), (6, v6), (7, v7), (8, v8)] H (kB 2 (kC C n 58 [1, 1, 0, 1, 0, 0, 1, 0, 0, 1, 1] (kB 1 (kC C n 58 [1, 1, 0, 1, 0, 0, 1, 1] (kL C n 58 [1, 1, 0, 1, 0, 0] m0 (kB 0 (kC C n 58 [1, 1, 1] (kR C 58))))))))
@[irreducible] noncomputable def ref03_Mul.p2 (n m0 : Nat) (v0 v1 v5 v6 v7 : V) (H : Heap) : Option R := E C n 58 [1, 1, 0, 1, 0, 0, 1, 0, 0, 1, 1] [(0, v0), (1, v1), (5, v5), (6, v6), (7, v7)] H (kB 1 (kC C n 58 [1, 1, 0, 1, 0, 0, 1, 1] (kL C n 58 [1, 1, 0, 1, 0, 0] m0 (kB 0 (kC C n 58 [1, 1, 1] (kR C 58))))))
@[simp] noncomputable def ref03_Mul.l0_b (bd : B2) (n m0 : Nat) (v0 v1 v5 v6 : V) (H : Heap) : Option R :=
 (bd (lenSl v0) fun t17_1 =>
 (bd (arA .lss v6 t17_1) fun t18_2 =>
 (bd (asB t18_2) fun b3 =>
 if b3 = true then
 (ref03_Mul.l1 n m0 n v0 v1 v5 v6 (.int .i64 0) (.int .i64 0) H)
 else
 (bd (f_ref03_Trim n [v5] H) fun r4 =>
 (some (r4.1, r4.2))))))
theorem ref03_Mul.l0_tot {m0 : Nat → Nat} {v0 v1 v5 v6 : V} {H : Heap} {Q : V → Heap → Prop} (hb : Big m0) (h : ∀ m0', Big m0' → Tot (fun n => ref03_Mul.l0_b @bnd n (m0' n) v0 v1 v5 v6 H) Q) : Tot (fun n => ref03_Mul.l0 n (m0 n) v0 v1 v5 v6 H) Q :=
  Tot.loop (f := fun n k => ref03_Mul.l0 n k v0 v1 v5 v6 H) (g := fun n k => ref03_Mul.l0_b @bnd n k v0 v1 v5 v6 H) hb (fun n k => bd_bnd (fun bd => ref03_Mul.l0_b bd n k v0 v1 v5 v6 H) (by kernel_rfl)) h
@[simp] noncomputable def ref03_Mul.l1_b (bd : B2) (n m0 m1 : Nat) (v0 v1 v5 v6 v7 v8 : V) (H : Heap) : Option R :=
 (bd (lenSl v1) fun t23_1 =>
 (bd (arA .lss v8 t23_1) fun t24_2 =>
 (bd (asB t24_2) fun b3 =>
 if b3 = true then
 (bd (arA .add v6 v8) fun t31_4 =>
 (bd (idxS 1 v5 t31_4) fun t32_5 =>
 (bd (ld1 t32_5 (H.more 0)) fun t33_6 =>
 (bd (arA .add v7 t33_6) fun t34_7 =>
 (bd (idxS 1 v0 v6) fun t37_8 =>
 (bd (ld1 t37_8 (H.more 0)) fun t38_9 =>
 (bd (idxS 1 v1 v8) fun t41_10 =>
 (bd (ld1 t41_10 (H.more 0)) fun t42_11 =>
 (bd (arA .mul t38_9 t42_11) fun t43_12 =>
 (bd (arA .add t34_7 t43_12) fun t44_13 =>
 (bd (arA .add v6 v8) fun t48_14 =>
 (bd (arA .rem t44_13 (.int .i64 65536)) fun t50_15 =>
 (bd (arA .quo t44_13 (.int .i64 65536)) fun t52_16 =>
 (bd (idxS 1 v5 t48_14) fun t53_17 =>
 (bd (stA 1 t53_17 t50_15 (H.more 0)) fun H18 =>
 (bd (arA .add v8 (.int .i64 1)) fun t26_19 =>
 (ref03_Mul.l1 n m0 m1 v0 v1 v5 v6 t52_16 t26_19 H18)))))))))))))))))
 else
 (ref03_Mul.p2 n m0 v0 v1 v5 v6 v7 H))))
theorem ref03_Mul.l1_tot {m0 : Nat → Nat} {m1 : Nat → Nat} {v0 v1 v5 v6 v7 v8 : V} {H : Heap} {Q : V → Heap → Prop} (hb : Big m1) (h : ∀ m1', Big m1' → Tot (fun n => ref03_Mul.l1_b @bnd n (m0 n) (m1' n) v0 v1 v5 v6 v7 v8 H) Q) : Tot (fun n => ref03_Mul.l1 n (m0 n) (m1 n) v0 v1 v5 v6 v7 v8 H) Q :=
  Tot.loop (f := fun n k => ref03_Mul.l1 n (m0 n) k v0 v1 v5 v6 v7 v8 H) (g := fun n k => ref03_Mul.l1_b @bnd n (m0 n) k v0 v1 v5 v6 v7 v8 H) hb (fun n k => bd_bnd (fun bd => ref03_Mul.l1_b bd n (m0 n) k v0 v1 v5 v6 v7 v8 H) (by kernel_rfl)) h
@[simp] noncomputable def ref03_Mul.p2_b (bd : B2) (n m0 : Nat) (v0 v1 v5 v6 v7 : V) (H : Heap) : Option R :=
 (bd (lenSl v1) fun t57_1 =>
 (bd (arA .add v6 t57_1) fun t58_2 =>
 (bd (idxS 1 v5 t58_2) fun t60_3 =>
 (bd (stA 1 t60_3 v7 H) fun H4 =>
 (bd (arA .add v6 (.int .i64 1)) fun t20_5 =>
 (ref03_Mul.l0 n m0 v0 v1 v5 t20_5 H4))))))
theorem ref03_Mul.p2_tot {m0 : Nat → Nat} {v0 v1 v5 v6 v7 : V} {H : Heap} {Q : V → Heap → Prop} (h : Tot (fun n => ref03_Mul.p2_b @bnd n (m0 n) v0 v1 v5 v6 v7 H) Q) : Tot (fun n => ref03_Mul.p2 n (m0 n) v0 v1 v5 v6 v7 H) Q := Tot.eq (fun n => bd_bnd (fun bd => ref03_Mul.p2_b bd n (m0 n) v0 v1 v5 v6 v7 H) (by kernel_rfl)) h
@[simp] noncomputable def ref03_Mul_b (bd : B2) (n : Nat) (v0 v1 : V) (H : Heap) : Option R :=
 (bd (lenSl v0) fun t10_1 =>
 (bd (lenSl v1) fun t12_2 =>
 (bd (arA .add t10_1 t12_2) fun t13_3 =>
 (bd (mkSl 1 8 ty_int [(.int .i64 0)] t13_3 t13_3) fun o4 =>
 (ref03_Mul.l0 n n v0 v1 (.slice ⟨some (H.n, 0), o4.2, 1, false⟩) (.int .i64 0) (H.push o4.1))))))
theorem ref03_Mul_tot {v0 v1 : V} {H : Heap} {Q : V → Heap → Prop} (h : Tot (fun n => ref03_Mul_b @bnd n v0 v1 H) Q) : Tot (fun n => f_ref03_Mul n [v0, v1] H) Q := Tot.fn (fun n => bd_bnd (fun bd => ref03_Mul_b bd n v0 v1 H) (by kernel_rfl)) h
@[irreducible] noncomputable def ref03_Add.l0 (n m0 : Nat) (v0 v1 v5 v6 v7 : V) (H : Heap) : Option R := Lp C n 59 [1, 1, 0, 1, 0, 0] m0 [(0, v0), (1, v1), (5, v5), (6, v6), (7, v7)] H (kB 0 (kC C n 59 [1, 1, 1] (kR C 59)))
@[irreducible] noncomputable def ref03_Add.p1 (n m0 : Nat) (v0 v1 v5 v6 v7 : V) (H : Heap) : Option R := E C n 59 [1, 1, 0, 1, 0, 0, 1, 0, 0, 1] [(0, v0), (1, v1), (5, v5), (6, v6), (7, v7)] H (kB 1 (kC C n 59 [1, 1, 0, 1, 0, 0, 1, 1] (kL C n 59 [1, 1, 0, 1, 0, 0] m0 (kB 0 (kC C n 59 [1, 1, 1] (kR C 59))))))
@[irreducible] noncomputable def ref03_Add.p2 (n : Nat) (v5 v6 : V) (H : Heap) : Option R := E C n 59 [1, 1, 1] [(5, v5), (6, v6)] H (kR C 59)
@[irreducible] noncomputable def ref03_Add.p3 (n m0 : Nat) (v0 v1 v5 v6 v7 : V) (H : Heap) : Option R := E C n 59 [1, 1, 0, 1, 0, 0, 1, 0, 0, 1, 1] [(0, v0), (1, v1), (5, v5), (6, v6), (7, v7)] H (kB 1 (kC C n 59 [1, 1, 0, 1, 0, 0, 1, 1] (kL C n 59 [1, 1, 0, 1, 0, 0] m0 (kB 0 (kC C n 59 [1, 1, 1] (kR C 59))))))
@[simp] noncomputable def ref03_Add.l0_b (bd : B2) (n m0 : Nat) (v0 v1 v5 v6 v7 : V) (H : Heap) : Option R :=
 (bd (lenSl v0) fun t11_1 =>
 (bd (arA .lss v7 t11_1) fun t12_2 =>
 (bd (asB t12_2) fun b3 =>
 if b3 = true then
 (bd (lenSl v0) fun t23_4 =>
 (bd (arA .lss v7 t23_4) fun t24_5 =>
 (bd (asB t24_5) fun b6 =>
 if b6 = true then
 (bd (idxS 1 v0 v7) fun t28_7 =>
 (bd (ld1 t28_7 H) fun t29_8 =>
 (bd (arA .add v6 t29_8) fun t30_9 =>
 (ref03_Add.p1 n m0 v0 v1 v5 t30_9 v7 H))))
 else
 (ref03_Add.p1 n m0 v0 v1 v5 v6 v7 H))))
 else
 (bd (lenSl v1) fun t16_10 =>
 (bd (arA .lss v7 t16_10) fun t17_11 =>
 (bd (asB t17_11) fun b12 =>
 if b12 = true then
 (bd (lenSl v0) fun t23_13 =>
 (bd (arA .lss v7 t23_13) fun t24_14 =>
 (bd (asB t24_14) fun b15 =>
 if b15 = true then
 (bd (idxS 1 v0 v7) fun t28_16 =>
 (bd (ld1 t28_16 H) fun t29_17 =>
 (bd (arA .add v6 t29_17) fun t30_18 =>
 (ref03_Add.p1 n m0 v0 v1 v5 t30_18 v7 H))))
 else
 (ref03_Add.p1 n m0 v0 v1 v5 v6 v7 H))))
 else
 (ref03_Add.p2 n v5 v6 H)))))))
theorem ref03_Add.l0_tot {m0 : Nat → Nat} {v0 v1 v5 v6 v7 : V} {H : Heap} {Q : V → Heap → Prop} (hb : Big m0) (h : ∀ m0', Big m0' → Tot (fun n => ref03_Add.l0_b @bnd n (m0' n) v0 v1 v5 v6 v7 H) Q) : Tot (fun n => ref03_Add.l0 n (m0 n) v0 v1 v5 v6 v7 H) Q :=
  Tot.loop (f := fun n k => ref03_Add.l0 n k v0 v1 v5 v6 v7 H) (g := fun n k => ref03_Add.l0_b @bnd n k v0 v1 v5 v6 v7 H) hb (fun n k => bd_bnd (fun bd => ref03_Add.l0_b bd n k v0 v1 v5 v6 v7 H) (by kernel_rfl)) h
@[simp] noncomputable def ref03_Add.p1_b (bd : B2) (n m0 : Nat) (v0 v1 v5 v6 v7 : V) (H : Heap) : Option R :=
 (bd (lenSl v1) fun t33_1 =>
 (bd (arA .lss v7 t33_1) fun t34_2 =>
 (bd (asB t34_2) fun b3 =>
 if b3 = true then
 (bd (idxS 1 v1 v7) fun t38_4 =>
 (bd (ld1 t38_4 H) fun t39_5 =>
 (bd (arA .add v6 t39_5) fun t40_6 =>
 (ref03_Add.p3 n m0 v0 v1 v5 t40_6 v7 H))))
 else
 (ref03_Add.p3 n m0 v0 v1 v5 v6 v7 H))))
theorem ref03_Add.p1_tot {m0 : Nat → Nat} {v0 v1 v5 v6 v7 : V} {H : Heap} {Q : V → Heap → Prop} (h : Tot (fun n => ref03_Add.p1_b @bnd n (m0 n) v0 v1 v5 v6 v7 H) Q) : Tot (fun n => ref03_Add.p1 n (m0 n) v0 v1 v5 v6 v7 H) Q := Tot.eq (fun n => bd_bnd (fun bd => ref03_Add.p1_b bd n (m0 n) v0 v1 v5 v6 v7 H) (by kernel_rfl)) h
@[simp] noncomputable def ref03_Add.p2_b (bd : B2) (n : Nat) (v5 v6 : V) (H : Heap) : Option R :=
 (bd (bSl 1 ty_int [(.int .i64 0)] 1 [(0, v6)]) fun o1 =>
 (bd (appA 1 8 ty_int v5 (.slice ⟨some (H.n, 0), 1, 1, false⟩) (H.push o1)) fun p2 =>
 (bd (f_ref03_Trim n [p2.1] p2.2) fun r3 =>
 (some (r3.1, r3.2)))))
theorem ref03_Add.p2_tot {v5 v6 : V} {H : Heap} {Q : V → Heap → Prop} (h : Tot (fun n => ref03_Add.p2_b @bnd n v5 v6 H) Q) : Tot (fun n => ref03_Add.p2 n v5 v6 H) Q := Tot.eq (fun n => bd_bnd (fun bd => ref03_Add.p2_b bd n v5 v6 H) (by kernel_rfl)) h
@[simp] noncomputable def ref03_Add.p3_b (bd : B2) (n m0 : Nat) (v0 v1 v5 v6 v7 : V) (H : Heap) : Option R :=
 (bd (arA .rem v6 (.int .i64 65536)) fun t43_1 =>
 (bd (bSl 1 ty_int [(.int .i64 0)] 1 [(0, t43_1)]) fun o2 =>
 (bd (appA 1 8 ty_int v5 (.slice ⟨some (H.n, 0), 1, 1, false⟩) (H.push o2)) fun p3 =>
 (bd (arA .quo v6 (.int .i64 65536)) fun t47_4 =>
 (bd (arA .add v7 (.int .i64 1)) fun t20_5 =>
 (ref03_Add.l0 n m0 v0 v1 p3.1 t47_4 t20_5 p3.2))))))
theorem ref03_Add.p3_tot {m0 : Nat → Nat} {v0 v1 v5 v6 v7 : V} {H : Heap} {Q : V → Heap → Prop} (h : Tot (fun n => ref03_Add.p3_b @bnd n (m0 n) v0 v1 v5 v6 v7 H) Q) : Tot (fun n => ref03_Add.p3 n (m0 n) v0 v1 v5 v6 v7 H) Q := Tot.eq (fun n => bd_bnd (fun bd => ref03_Add.p3_b bd n (m0 n) v0 v1 v5 v6 v7 H) (by kernel_rfl)) h
@[simp] noncomputable def ref03_Add_b (bd : B2) (n : Nat) (v0 v1 : V) (H : Heap) : Option R :=
 (bd (bSl 1 ty_int [(.int .i64 0)] 0 []) fun o1 =>
 (ref03_Add.l0 n n v0 v1 (.slice ⟨some (H.n, 0), 0, 1, false⟩) (.int .i64 0) (.int .i64 0) (H.push o1)))
theorem ref03_Add_tot {v0 v1 : V} {H : Heap} {Q : V → Heap → Prop} (h : Tot (fun n => ref03_Add_b @bnd n v0 v1 H) Q) : Tot (fun n => f_ref03_Add n [v0, v1] H) Q := Tot.fn (fun n => bd_bnd (fun bd => ref03_Add_b bd n v0 v1 H) (by kernel_rfl)) h
@[irreducible] noncomputable def ref03_Cmp.l0 (n m0 : Nat) (v0 v1 v5 : V) (H : Heap) : Option R := Lp C n 60 [1, 1, 1, 0, 1, 0, 0] m0 [(0, v0), (1, v1), (5, v5)] H (kB 0 (kC C n 60 [1, 1, 1, 1] (kR C 60)))
@[simp] noncomputable def ref03_Cmp.l0_b (bd : B2) (n m0 : Nat) (v0 v1 v5 : V) (H : Heap) : Option R :=
 (bd (arA .geq v5 (.int .i64 0)) fun t20_1 =>
 (bd (asB t20_1) fun b2 =>
 if b2 = true then
 (bd (idxS 1 v0 v5) fun t25_3 =>
 (bd (ld1 t25_3 (H.more 0)) fun t26_4 =>
 (bd (idxS 1 v1 v5) fun t29_5 =>
 (bd (ld1 t29_5 (H.more 0)) fun t30_6 =>
 (bd (arA .lss t26_4 t30_6) fun t31_7 =>
 (bd (asB t31_7) fun b8 =>
 if b8 = true then
 (some ((.int .i64 (-1)), (H.more 0)))
 else
 (bd (idxS 1 v0 v5) fun t34_9 =>
 (bd (ld1 t34_9 ((H.more 0).more 0)) fun t35_10 =>
 (bd (idxS 1 v1 v5) fun t38_11 =>
 (bd (ld1 t38_11 ((H.more 0).more 0)) fun t39_12 =>
 (bd (arA .gtr t35_10 t39_12) fun t40_13 =>
 (bd (asB t40_13) fun b14 =>
 if b14 = true then
 (some ((.int .i64 1), ((H.more 0).more 0)))
 else
 (bd (arA .sub v5 (.int .i64 1)) fun t22_15 =>
 (ref03_Cmp.l0 n m0 v0 v1 t22_15 ((H.more 0).more 0)))))))))))))))
 else
 (some ((.int .i64 0), H))))
theorem ref03_Cmp.l0_tot {m0 : Nat → Nat} {v0 v1 v5 : V} {H : Heap} {Q : V → Heap → Prop} (hb : Big m0) (h : ∀ m0', Big m0' → Tot (fun n => ref03_Cmp.l0_b @bnd n (m0' n) v0 v1 v5 H) Q) : Tot (fun n => ref03_Cmp.l0 n (m0 n) v0 v1 v5 H) Q :=
  Tot.loop (f := fun n k => ref03_Cmp.l0 n k v0 v1 v5 H) (g := fun n k => ref03_Cmp.l0_b @bnd n k v0 v1 v5 H) hb (fun n k => bd_bnd (fun bd => ref03_Cmp.l0_b bd n k v0 v1 v5 H) (by kernel_rfl)) h
@[simp] noncomputable def ref03_Cmp_b (bd : B2) (n : Nat) (v0 v1 : V) (H : Heap) : Option R :=
 (bd (lenSl v0) fun t7_1 =>
 (bd (lenSl v1) fun t9_2 =>
 (bd (arA .lss t7_1 t9_2) fun t10_3 =>
 (bd (asB t10_3) fun b4 =>
 if b4 = true then
 (some ((.int .i64 (-1)), H))
 else
 (bd (lenSl v0) fun t12_5 =>
 (bd (lenSl v1) fun t14_6 =>
 (bd (arA .gtr t12_5 t14_6) fun t15_7 =>
 (bd (asB t15_7) fun b8 =>
 if b8 = true then
 (some ((.int .i64 1), H))
 else
 (bd (lenSl v0) fun t17_9 =>
 (bd (arA .sub t17_9 (.int .i64 1)) fun t18_10 =>
 (ref03_Cmp.l0 n n v0 v1 t18_10 H)))))))))))
theorem ref03_Cmp_tot {v0 v1 : V} {H : Heap} {Q : V → Heap → Prop} (h : Tot (fun n => ref03_Cmp_b @bnd n v0 v1 H) Q) : Tot (fun n => f_ref03_Cmp n [v0, v1] H) Q := Tot.fn (fun n => bd_bnd (fun bd => ref03_Cmp_b bd n v0 v1 H) (by kernel_rfl)) h
end Go.AM
end
