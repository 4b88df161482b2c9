/- Contracts of functions of the program, walked: c_trace_name, c_trace_what, c_cenotaphref04_Compare, c_cenotaphref07_rows, c_cenotaphref07_Compare, c_slices_Equal_sint_int, c_cenotaphref09_Same, c_cenotaphref04_Same. By an AI agent. -/
import Derived.Test.YtknekkemmbgceaaGreatDoorW13
import Derived.Test.YtknekkemmbgceaaGreatDoorSp
set_option linter.all false
/-! W14 -/
namespace Go.Aw
open Go.RowKit Go.Proofs
private theorem ar77 : arrF Pr 77 = some (8, 3, 1) := by kernel_rfl
private theorem ar86 : arrF Pr 86 = some (3, 3, 1) := by kernel_rfl
private theorem e24 : elemF Pr 24 = some (3, 1) := by kernel_rfl
private theorem e30 : elemF Pr 30 = some (29, 3) := by kernel_rfl
private theorem e33 : elemF Pr 33 = some (32, 10) := by kernel_rfl
private theorem e37 : elemF Pr 37 = some (49, 5) := by kernel_rfl
private theorem f29_0 : fldF Pr 29 0 = some (0, 1, false) := by kernel_rfl
private theorem f29_1 : fldF Pr 29 1 = some (1, 1, false) := by kernel_rfl
private theorem f29_2 : fldF Pr 29 2 = some (2, 1, false) := by kernel_rfl
private theorem f32_0 : fldF Pr 32 0 = some (0, 1, false) := by kernel_rfl
private theorem f32_1 : fldF Pr 32 1 = some (1, 1, false) := by kernel_rfl
private theorem f32_2 : fldF Pr 32 2 = some (2, 1, false) := by kernel_rfl
private theorem f32_3 : fldF Pr 32 3 = some (3, 1, false) := by kernel_rfl
private theorem f32_4 : fldF Pr 32 4 = some (4, 1, false) := by kernel_rfl
private theorem f32_5 : fldF Pr 32 5 = some (5, 1, false) := by kernel_rfl
private theorem f32_6 : fldF Pr 32 6 = some (6, 3, true) := by kernel_rfl
private theorem f32_7 : fldF Pr 32 7 = some (9, 1, false) := by kernel_rfl
private theorem fq29 : EqF Pr 29 3 [.int .i64, .int .i64, .int .i64] := ⟨by kernel_rfl, by kernel_rfl, by kernel_rfl⟩
private theorem fq49 : EqF Pr 49 5 [.str, .str, .int .i64, .int .i64, .int .i64] := ⟨by kernel_rfl, by kernel_rfl, by kernel_rfl⟩
private theorem t26 : tyF Pr 26 = some (1, false) := by kernel_rfl
private theorem t27 : tyF Pr 27 = some (1, false) := by kernel_rfl
private theorem t29 : tyF Pr 29 = some (3, true) := by kernel_rfl
private theorem t3 : tyF Pr 3 = some (1, false) := by kernel_rfl
private theorem t30 : tyF Pr 30 = some (1, false) := by kernel_rfl
private theorem t32 : tyF Pr 32 = some (10, true) := by kernel_rfl
private theorem t49 : tyF Pr 49 = some (5, true) := by kernel_rfl
private theorem t77 : tyF Pr 77 = some (8, true) := by kernel_rfl
private theorem t86 : tyF Pr 86 = some (3, true) := by kernel_rfl
private theorem t9 : tyF Pr 9 = some (1, false) := by kernel_rfl
private theorem zo77 : ZeroOk Pr 77 [.d (.int .i64 0), .d (.int .i64 0), .d (.int .i64 0), .d (.int .i64 0), .d (.int .i64 0), .d (.int .i64 0), .d (.int .i64 0), .d (.int .i64 0)] := ⟨.agg #[.int .i64 0, .int .i64 0, .int .i64 0, .int .i64 0, .int .i64 0, .int .i64 0, .int .i64 0, .int .i64 0], fun _ => by kernel_rfl, fun μ ρ => (rcc zi (rcc zi (rcc zi (rcc zi (rcc zi (rcc zi (rcc zi (rcc zi rcn)))))))), by simp [Value.cells, Value.oneCell']⟩
private theorem zo86 : ZeroOk Pr 86 [.d (.int .i64 0), .d (.int .i64 0), .d (.int .i64 0)] := ⟨.agg #[.int .i64 0, .int .i64 0, .int .i64 0], fun _ => by kernel_rfl, fun μ ρ => (rcc zi (rcc zi (rcc zi rcn))), by simp [Value.cells, Value.oneCell']⟩
set_option maxRecDepth 20000 in
theorem c_trace_name (n : Int) : Pure Pr 20 [I n] (.str (kindWord n)) := by
  refine pure_of Tryz.func20 (by kernel_rfl) rfl Tryz.ntmps20 (by simp) fun w μ => ?_
  refine ok_seq ?_
  refine ok_region rfl ?_
  refine k (asg gs) ?_
  refine ok_end (ok_then ?_)
  refine ok_seq ?_
  refine ok_seq ?_
  refine ok_region rfl ?_
  refine k (mv (g rfl)) ?_
  refine ok_end (ok_then ?_)
  refine ok_block ?_
  refine ok_seq ?_
  refine ok_region rfl ?_
  refine k (bn (g rfl) gi rfl) ?_
  refine k (asg (g rfl)) ?_
  refine ok_end (ok_then ?_)
  refine ok_cond (g rfl) (fun h1 => ?_) (fun h1 => ?_)
  · refine ok_seq ?_
    refine ok_region rfl ?_
    refine k (asg gs) ?_
    refine ok_end (ok_then ?_)
    exact ok_ret (ok_inBlock_ret (ok_then_ret (ret_tmp rfl rfl (by simp_all [AV.toD, kindWord]))))
  · refine ok_seq ?_
    refine ok_region rfl ?_
    refine k (bn (g rfl) gi rfl) ?_
    refine k (asg (g rfl)) ?_
    refine ok_end (ok_then ?_)
    refine ok_cond (g rfl) (fun h2 => ?_) (fun h2 => ?_)
    · refine ok_seq ?_
      refine ok_region rfl ?_
      refine k (asg gs) ?_
      refine ok_end (ok_then ?_)
      exact ok_ret (ok_inBlock_ret (ok_then_ret (ret_tmp rfl rfl (by simp_all [AV.toD, kindWord]))))
    · refine ok_seq ?_
      refine ok_region rfl ?_
      refine k (bn (g rfl) gi rfl) ?_
      refine k (asg (g rfl)) ?_
      refine ok_end (ok_then ?_)
      refine ok_cond (g rfl) (fun h3 => ?_) (fun h3 => ?_)
      · refine ok_seq ?_
        refine ok_region rfl ?_
        refine k (asg gs) ?_
        refine ok_end (ok_then ?_)
        exact ok_ret (ok_inBlock_ret (ok_then_ret (ret_tmp rfl rfl (by simp_all [AV.toD, kindWord]))))
      · refine ok_seq ?_
        refine ok_region rfl ?_
        refine k (bn (g rfl) gi rfl) ?_
        refine k (asg (g rfl)) ?_
        refine ok_end (ok_then ?_)
        refine ok_cond (g rfl) (fun h4 => ?_) (fun h4 => ?_)
        · refine ok_seq ?_
          refine ok_region rfl ?_
          refine k (asg gs) ?_
          refine ok_end (ok_then ?_)
          exact ok_ret (ok_inBlock_ret (ok_then_ret (ret_tmp rfl rfl (by simp_all [AV.toD, kindWord]))))
        · refine ok_seq ?_
          refine ok_region rfl ?_
          refine k (bn (g rfl) gi rfl) ?_
          refine k (asg (g rfl)) ?_
          refine ok_end (ok_then ?_)
          refine ok_cond (g rfl) (fun h5 => ?_) (fun h5 => ?_)
          · refine ok_seq ?_
            refine ok_region rfl ?_
            refine k (asg gs) ?_
            refine ok_end (ok_then ?_)
            exact ok_ret (ok_inBlock_ret (ok_then_ret (ret_tmp rfl rfl (by simp_all [AV.toD, kindWord]))))
          · refine ok_seq ?_
            refine ok_region rfl ?_
            refine k (bn (g rfl) gi rfl) ?_
            refine k (asg (g rfl)) ?_
            refine ok_end (ok_then ?_)
            refine ok_cond (g rfl) (fun h6 => ?_) (fun h6 => ?_)
            · refine ok_seq ?_
              refine ok_region rfl ?_
              refine k (asg gs) ?_
              refine ok_end (ok_then ?_)
              exact ok_ret (ok_inBlock_ret (ok_then_ret (ret_tmp rfl rfl (by simp_all [AV.toD, kindWord]))))
            · refine ok_seq ?_
              refine ok_region rfl ?_
              refine k (bn (g rfl) gi rfl) ?_
              refine k (asg (g rfl)) ?_
              refine ok_end (ok_then ?_)
              refine ok_cond (g rfl) (fun h7 => ?_) (fun h7 => ?_)
              · refine ok_seq ?_
                refine ok_region rfl ?_
                refine k (asg gs) ?_
                refine ok_end (ok_then ?_)
                exact ok_ret (ok_inBlock_ret (ok_then_ret (ret_tmp rfl rfl (by simp_all [AV.toD, kindWord]))))
              · refine ok_seq ?_
                refine ok_region rfl ?_
                refine k (bn (g rfl) gi rfl) ?_
                refine k (asg (g rfl)) ?_
                refine ok_end (ok_then ?_)
                refine ok_cond (g rfl) (fun h8 => ?_) (fun h8 => ?_)
                · refine ok_seq ?_
                  refine ok_region rfl ?_
                  refine k (asg gs) ?_
                  refine ok_end (ok_then ?_)
                  exact ok_ret (ok_inBlock_ret (ok_then_ret (ret_tmp rfl rfl (by simp_all [AV.toD, kindWord]))))
                · refine ok_seq ?_
                  refine ok_region rfl ?_
                  refine k (bn (g rfl) gi rfl) ?_
                  refine k (asg (g rfl)) ?_
                  refine ok_end (ok_then ?_)
                  refine ok_cond (g rfl) (fun h9 => ?_) (fun h9 => ?_)
                  · refine ok_seq ?_
                    refine ok_region rfl ?_
                    refine k (asg gs) ?_
                    refine ok_end (ok_then ?_)
                    exact ok_ret (ok_inBlock_ret (ok_then_ret (ret_tmp rfl rfl (by simp_all [AV.toD, kindWord]))))
                  · refine ok_seq ?_
                    refine ok_region rfl ?_
                    refine k (bn (g rfl) gi rfl) ?_
                    refine k (asg (g rfl)) ?_
                    refine ok_end (ok_then ?_)
                    refine ok_cond (g rfl) (fun h10 => ?_) (fun h10 => ?_)
                    · refine ok_seq ?_
                      refine ok_region rfl ?_
                      refine k (asg gs) ?_
                      refine ok_end (ok_then ?_)
                      exact ok_ret (ok_inBlock_ret (ok_then_ret (ret_tmp rfl rfl (by simp_all [AV.toD, kindWord]))))
                    · refine ok_seq ?_
                      refine ok_region rfl ?_
                      refine k (bn (g rfl) gi rfl) ?_
                      refine k (asg (g rfl)) ?_
                      refine ok_end (ok_then ?_)
                      refine ok_cond (g rfl) (fun h11 => ?_) (fun h11 => ?_)
                      · refine ok_seq ?_
                        refine ok_region rfl ?_
                        refine k (asg gs) ?_
                        refine ok_end (ok_then ?_)
                        exact ok_ret (ok_inBlock_ret (ok_then_ret (ret_tmp rfl rfl (by simp_all [AV.toD, kindWord]))))
                      · refine ok_skip (ok_inBlock_normal (ok_then ?_))
                        refine ok_seq ?_
                        refine ok_region rfl ?_
                        refine k (asg gs) ?_
                        refine ok_end (ok_then ?_)
                        exact ok_ret (ret_tmp rfl rfl (by simp_all [AV.toD, kindWord]))

set_option maxRecDepth 20000 in
theorem c_trace_what (m : Mu) : Pure Pr 38 [m.d] (.str (mutWord m.kind)) := by
  refine pure_of Tryz.func38 (by kernel_rfl) rfl Tryz.ntmps38 (by simp) fun w μ => ?_
  refine ok_seq ?_
  refine ok_region rfl ?_
  refine kbox (n := 0) (g rfl) rfl rfl ?_
  refine k (asg gs) ?_
  refine ok_end (ok_then ?_)
  refine ok_seq ?_
  refine ok_seq ?_
  refine ok_region rfl ?_
  refine k (fb (g rfl) f32_1) ?_
  refine k (lb (g rfl) t27 rfl rfl) ?_
  refine ok_end (ok_then ?_)
  refine ok_block ?_
  refine ok_seq ?_
  refine ok_region rfl ?_
  refine k (bn (g rfl) gi rfl) ?_
  refine k (asg (g rfl)) ?_
  refine ok_end (ok_then ?_)
  refine ok_cond (g rfl) (fun h1 => ?_) (fun h1 => ?_)
  · refine ok_seq ?_
    refine ok_region rfl ?_
    refine k (asg gs) ?_
    refine ok_end (ok_then ?_)
    exact ok_ret (ok_inBlock_ret (ok_then_ret (ret_tmp rfl rfl (by simp_all [AV.toD, mutWord]))))
  · refine ok_seq ?_
    refine ok_region rfl ?_
    refine k (bn (g rfl) gi rfl) ?_
    refine k (asg (g rfl)) ?_
    refine ok_end (ok_then ?_)
    refine ok_cond (g rfl) (fun h2 => ?_) (fun h2 => ?_)
    · refine ok_seq ?_
      refine ok_region rfl ?_
      refine k (asg gs) ?_
      refine ok_end (ok_then ?_)
      exact ok_ret (ok_inBlock_ret (ok_then_ret (ret_tmp rfl rfl (by simp_all [AV.toD, mutWord]))))
    · refine ok_seq ?_
      refine ok_region rfl ?_
      refine k (bn (g rfl) gi rfl) ?_
      refine k (asg (g rfl)) ?_
      refine ok_end (ok_then ?_)
      refine ok_cond (g rfl) (fun h3 => ?_) (fun h3 => ?_)
      · refine ok_seq ?_
        refine ok_region rfl ?_
        refine k (asg gs) ?_
        refine ok_end (ok_then ?_)
        exact ok_ret (ok_inBlock_ret (ok_then_ret (ret_tmp rfl rfl (by simp_all [AV.toD, mutWord]))))
      · refine ok_skip (ok_inBlock_normal (ok_then ?_))
        refine ok_seq ?_
        refine ok_region rfl ?_
        refine k (asg gs) ?_
        refine ok_end (ok_then ?_)
        exact ok_ret (ret_tmp rfl rfl (by simp_all [AV.toD, mutWord]))

set_option maxRecDepth 20000 in
theorem c_cenotaphref04_Compare (a b : St) : Pure Pr 32 [a.d, b.d] (I (St.cmp a b)) := by
  refine pure_of Tryz.func32 (by kernel_rfl) rfl Tryz.ntmps32 (by simp) fun w μ => ?_
  refine ok_seq ?_
  refine ok_region rfl ?_
  refine kbox (n := 0) (g rfl) rfl rfl ?_
  refine kbox (n := 1) (g rfl) rfl rfl ?_
  refine k (asg gi) ?_
  refine ok_end (ok_then ?_)
  refine ok_seq ?_
  refine ok_region rfl ?_
  refine k (fb (g rfl) f29_0) ?_
  refine k (lb (g rfl) t3 rfl rfl) ?_
  refine k (fb (g rfl) f29_1) ?_
  refine k (lb (g rfl) t3 rfl rfl) ?_
  refine k (fb (g rfl) f29_2) ?_
  refine k (lb (g rfl) t3 rfl rfl) ?_
  refine k (bdA zo86 ar86 (b1 (g rfl) (b1 (g rfl) (b1 (g rfl) b0))) rfl rfl) ?_
  refine kal (n := 2) zo86 rfl ?_
  refine kst (g rfl) (g rfl) t86 rfl rfl rfl rfl ?_
  refine ok_end (ok_then ?_)
  refine ok_seq ?_
  refine ok_region rfl ?_
  refine k (fb (g rfl) f29_0) ?_
  refine k (lb (g rfl) t3 rfl rfl) ?_
  refine k (fb (g rfl) f29_1) ?_
  refine k (lb (g rfl) t3 rfl rfl) ?_
  refine k (fb (g rfl) f29_2) ?_
  refine k (lb (g rfl) t3 rfl rfl) ?_
  refine k (bdA zo86 ar86 (b1 (g rfl) (b1 (g rfl) (b1 (g rfl) b0))) rfl rfl) ?_
  refine kal (n := 3) zo86 rfl ?_
  refine kst (g rfl) (g rfl) t86 rfl rfl rfl rfl ?_
  refine ok_end (ok_then ?_)
  refine ok_seq ?_
  refine ok_seq ?_
  refine ok_region rfl ?_
  refine k (asg gi) ?_
  refine ok_end (ok_then ?_)
  refine ok_block ?_
  refine ok_loop (ι := { k : Nat // k ≤ 3 ∧ ∀ j, j < k → j < 3 → (List.zipWith cmpI a.l b.l)[j]? = some 0 }) 4 (fun i => 3 - i.1) (fun i => (upd 7 (.d (.int .i64 (i.1 : Nat))) (keepB 4 [5, 6] _))) (fun i => [.box 29 [.d (I a.phys), .d (I a.logic), .d (I a.who)], .box 29 [.d (I b.phys), .d (I b.logic), .d (I b.who)], .box 86 (a.l.map fun n => AV.d (I n)), .box 86 (b.l.map fun n => AV.d (I n))]) ⟨0, Nat.zero_le _, fun j h => absurd h (Nat.not_lt_zero j)⟩ (le_upd rfl le_keep_self) (eb_upd rfl eb_keep) rfl rfl rfl ?_
  rintro ⟨q, hk, hz⟩
  refine ok_seq ?_
  refine ok_seq ?_
  refine ok_region rfl ?_
  refine k (mv (g rfl)) ?_
  refine k (bn (g rfl) gi rfl) ?_
  refine ok_end (ok_then ?_)
  refine ok_cond (g rfl) (fun h1 => ?_) (fun h1 => ?_)
  · have hq : q < 3 := by simp at h1; omega
    refine ok_skip (ok_then ?_)
    refine ok_seq ?_
    refine ok_block ?_
    refine ok_seq ?_
    refine ok_seq ?_
    refine ok_draw [26, 27, 28, 29, 30, 31, 32] rfl (by kernel_rfl) ?_
    refine dr (mv (g rfl)) ?_
    refine dr (ixb (g rfl) (g rfl) ar86 rfl hq) ?_
    refine dr (lb (g rfl) t3 rfl (getQ (l := a.l) hq)) ?_
    refine dr (mv (g rfl)) ?_
    refine dr (ixb (g rfl) (g rfl) ar86 rfl hq) ?_
    refine dr (lb (g rfl) t3 rfl (getQ (l := b.l) hq)) ?_
    refine dr (bn (g rfl) (g rfl) rfl) ?_
    refine draw_end mixed (ok_then ?_)
    refine ok_cond (g rfl) (fun h2 => ?_) (fun h2 => ?_)
    · refine ok_seq ?_
      refine ok_region rfl ?_
      refine k (asg gi) ?_
      refine ok_end (ok_then ?_)
      exact ok_ret (ok_then_ret (ok_inBlock_ret (ok_then_ret (ok_then_ret (ok_inBlock_ret (ok_then_ret (ret_tmp rfl rfl (by rw [stcmp_at (n := -1) hq (fun j hj => hz j hj (by omega)) (cmpI_lt (by simpa using h2)) (by decide)]; rfl))))))))
    · refine ok_skip (ok_then ?_)
      refine ok_seq ?_
      refine ok_draw [33, 34, 35, 36, 37, 38, 39] rfl (by kernel_rfl) ?_
      refine dr (mv (g rfl)) ?_
      refine dr (ixb (g rfl) (g rfl) ar86 rfl hq) ?_
      refine dr (lb (g rfl) t3 rfl (getQ (l := a.l) hq)) ?_
      refine dr (mv (g rfl)) ?_
      refine dr (ixb (g rfl) (g rfl) ar86 rfl hq) ?_
      refine dr (lb (g rfl) t3 rfl (getQ (l := b.l) hq)) ?_
      refine dr (bn (g rfl) (g rfl) rfl) ?_
      refine draw_end mixed (ok_then ?_)
      refine ok_cond (g rfl) (fun h3 => ?_) (fun h3 => ?_)
      · refine ok_seq ?_
        refine ok_region rfl ?_
        refine k (asg gi) ?_
        refine ok_end (ok_then ?_)
        exact ok_ret (ok_inBlock_ret (ok_then_ret (ok_then_ret (ok_inBlock_ret (ok_then_ret (ret_tmp rfl rfl (by rw [stcmp_at (n := 1) hq (fun j hj => hz j hj (by omega)) (cmpI_gt (by simpa using h3)) (by decide)]; rfl)))))))
      · refine ok_skip (ok_inBlock_normal (ok_then ?_))
        refine ok_region rfl ?_
        refine k (mv (g rfl)) ?_
        refine k (bn (g rfl) gi rfl) ?_
        refine k (asg (g rfl)) ?_
        exact ok_end (ok_round 4 ⟨q + 1, by omega, stcmp_step hq hz (by simpa using h2) (by simpa using h3)⟩ (by show 3 - (q + 1) < 3 - q; omega) (le_upd (winc (k := q) (by omega)) (le_keep ⟨rfl, rfl, trivial⟩)) (eb_upd rfl eb_keep) rfl rfl rfl)
  · have hq : 3 ≤ q := by simp at h1; omega
    refine ok_exit (ok_then_exit (ok_then_exit (ok_inBlock_exit (ok_then ?_))))
    refine ok_seq ?_
    refine ok_region rfl ?_
    refine k (asg gi) ?_
    refine ok_end (ok_then ?_)
    exact ok_ret (ret_tmp rfl rfl (by rw [stcmp_zero hq hz]; rfl))

set_option maxRecDepth 20000 in
theorem c_cenotaphref07_rows (a b : List St) (ha : a.length < 4611686018427387904) : Pure Pr 35 [.list 3 (a.map St.d), .list 3 (b.map St.d)] (I (cmpF St.cmp a b)) := by
  refine pure_of Tryz.func35 (by kernel_rfl) rfl Tryz.ntmps35 (by simp) fun w μ => ?_
  refine ok_seq ?_
  refine ok_region rfl ?_
  refine k (asg gi) ?_
  refine ok_end (ok_then ?_)
  refine ok_seq ?_
  refine ok_seq ?_
  refine ok_region rfl ?_
  refine k (asg gi) ?_
  refine ok_end (ok_then ?_)
  refine ok_block ?_
  refine ok_loop (ι := { k : Nat // (k ≤ a.length ∧ k ≤ b.length) ∧ cmpF St.cmp a b = cmpF St.cmp (a.drop k) (b.drop k) }) 0 (fun i => a.length - i.1) (fun i => (upd 5 (.d (.int .i64 (i.1 : Nat))) (keepB 0 [0, 1] _))) (fun _ => _) ⟨0, ⟨Nat.zero_le _, Nat.zero_le _⟩, rfl⟩ (le_upd rfl le_keep_self) (eb_upd rfl eb_keep) rfl rfl rfl ?_
  rintro ⟨q, ⟨hk1, hk2⟩, hz⟩
  refine ok_seq ?_
  refine ok_seq ?_
  refine ok_region rfl ?_
  refine k (mv (g rfl)) ?_
  refine k (mv (g rfl)) ?_
  refine k (ln (g rfl) e30) ?_
  refine k (bn (g rfl) (g rfl) rfl) ?_
  refine k (mv (g rfl)) ?_
  refine kg rfl rfl rfl (fun hg => mv (g rfl)) ?_
  refine kg rfl rfl rfl (fun hg => mv (g rfl)) ?_
  refine kg rfl rfl rfl (fun hg => ln (go rfl hg) e30) ?_
  refine kg rfl rfl rfl (fun hg => bn (go rfl hg) (go rfl hg) rfl) ?_
  refine k (an (g rfl) (fun h => (go rfl (by rw [h]; rfl)))) ?_
  refine ok_end (ok_then ?_)
  refine ok_cond (g rfl) (fun h1 => ?_) (fun h1 => ?_)
  · have hq : q < a.length ∧ q < b.length := by simpa using h1
    refine ok_skip (ok_then ?_)
    refine ok_seq ?_
    refine ok_block ?_
    refine ok_seq ?_
    refine ok_draw [19, 20, 21, 22, 23, 24, 25, 26, 27, 6] rfl (by kernel_rfl) ?_
    refine dr (mv (g rfl)) ?_
    refine dr (mv (g rfl)) ?_
    refine dr (ixm (g rfl) (g rfl) e30 hq.1) ?_
    refine dr (lR (g rfl) t29 (Nat.le_of_ble_eq_true rfl)) ?_
    refine dr (mv (g rfl)) ?_
    refine dr (mv (g rfl)) ?_
    refine dr (ixm (g rfl) (g rfl) e30 hq.2) ?_
    refine dr (lR (g rfl) t29 (Nat.le_of_ble_eq_true rfl)) ?_
    refine dr (cl (a1 (g rfl) rfl (a1 (g rfl) rfl a0)) (c_cenotaphref04_Compare _ _)) ?_
    refine dr (asg (g rfl)) ?_
    refine draw_end mixed (ok_then ?_)
    refine ok_seq ?_
    refine ok_region rfl ?_
    refine k (mv (g rfl)) ?_
    refine k (bn (g rfl) gi rfl) ?_
    refine ok_end (ok_then ?_)
    refine ok_cond (g rfl) (fun h2 => ?_) (fun h2 => ?_)
    · refine ok_seq ?_
      refine ok_region rfl ?_
      refine k (mv (g rfl)) ?_
      refine k (asg (g rfl)) ?_
      refine ok_end (ok_then ?_)
      exact ok_ret (ok_inBlock_ret (ok_then_ret (ok_then_ret (ok_inBlock_ret (ok_then_ret (ret_tmp rfl rfl (congrArg (fun n => some (I n)) (cmpF_ne hq.1 hq.2 hz (by simpa using h2)).symm)))))))
    · refine ok_skip (ok_inBlock_normal (ok_then ?_))
      refine ok_region rfl ?_
      refine k (mv (g rfl)) ?_
      refine k (bn (g rfl) gi rfl) ?_
      refine k (asg (g rfl)) ?_
      exact ok_end (ok_round 0 ⟨q + 1, ⟨hq.1, hq.2⟩, cmpF_eq hq.1 hq.2 hz (by simpa using h2)⟩ (by show a.length - (q + 1) < a.length - q; omega) (le_upd (winc (k := q) (by omega)) (le_keep ⟨rfl, rfl, trivial⟩)) (eb_upd rfl eb_keep) rfl rfl rfl)
  · have hq : ¬ (q < a.length ∧ q < b.length) := by simpa using h1
    refine ok_exit (ok_then_exit (ok_then_exit (ok_inBlock_exit (ok_then ?_))))
    refine ok_seq ?_
    refine ok_region rfl ?_
    refine k (mv (g rfl)) ?_
    refine k (ln (g rfl) e30) ?_
    refine k (mv (g rfl)) ?_
    refine k (ln (g rfl) e30) ?_
    refine k (cl (a1 (g rfl) rfl (a1 (g rfl) rfl a0)) (c_cenotaphref07_number _ _)) ?_
    refine k (asg (g rfl)) ?_
    refine ok_end (ok_then ?_)
    exact ok_ret (ret_tmp rfl rfl (by rw [← rows_end hq hz hk1 hk2]; simp [AV.toD, I]))

set_option maxRecDepth 20000 in
theorem c_cenotaphref07_Compare (a b : Mu) (ha : a.over.length < 4611686018427387904) : Pure Pr 14 [a.d, b.d] (I (Mu.cmp a b)) := by
  refine pure_of Tryz.func14 (by kernel_rfl) rfl Tryz.ntmps14 (by simp) fun w μ => ?_
  refine ok_seq ?_
  refine ok_region rfl ?_
  refine kbox (n := 0) (g rfl) rfl rfl ?_
  refine kbox (n := 1) (g rfl) rfl rfl ?_
  refine k (asg gi) ?_
  refine ok_end (ok_then ?_)
  refine ok_seq ?_
  refine ok_drawF [fun L => L ++ [.box 77 ((List.replicate 8 0).map fun n => AV.d (I n))], fun L => L.set 2 (.box 77 ((Mu.cs a b).map fun n => AV.d (I n)))] [7, 8, 9, 10, 11, 12, 13, 14, 15, 16, 17, 18, 19, 20, 21, 22, 23, 24, 25, 26, 27, 28, 29, 30, 31, 32, 33, 34, 35, 36, 37, 38, 39, 40, 41, 42, 43, 44, 45, 46, 47, 5] [41, 42] [0, 1, 0, 4, 15, 0, 32, 0, 128, 511, 0, 1024, 0, 4096, 16383, 0, 32768, 0, 131072, 524287, 0, 1048576, 0, 4194304, 16777215, 0, 33554432, 0, 134217728, 536870911, 0, 1073741824, 0, 4294967296, 17179869183, 0, 34359738368, 0, 137438953472, 549755813887, 1099511627775, 0, 4398046511103] rfl (by kernel_rfl) ?_
  refine ss [0, 1] rfl rfl ⟨fb (g rfl) f32_6, fb (g rfl) f32_6, trivial⟩ ?_
  refine ss [0, 1] rfl rfl ⟨lB (g rfl) t29 rfl rfl, lB (g rfl) t29 rfl rfl, trivial⟩ ?_
  refine ss [0, 1] rfl rfl ⟨fb (g rfl) f32_6, fb (g rfl) f32_6, trivial⟩ ?_
  refine ss [0, 1] rfl rfl ⟨lB (g rfl) t29 rfl rfl, lB (g rfl) t29 rfl rfl, trivial⟩ ?_
  refine ss [0, 1] rfl rfl ⟨cl (a1 (g rfl) rfl (a1 (g rfl) rfl a0)) (c_cenotaphref04_Compare _ _), cl (a1 (g rfl) rfl (a1 (g rfl) rfl a0)) (c_cenotaphref04_Compare _ _), trivial⟩ ?_
  refine ss [0, 1] rfl rfl ⟨fb (g rfl) f32_0, fb (g rfl) f32_0, trivial⟩ ?_
  refine ss [0, 1] rfl rfl ⟨lb (g rfl) t26 rfl rfl, lb (g rfl) t26 rfl rfl, trivial⟩ ?_
  refine ss [0, 1] rfl rfl ⟨fb (g rfl) f32_0, fb (g rfl) f32_0, trivial⟩ ?_
  refine ss [0, 1] rfl rfl ⟨lb (g rfl) t26 rfl rfl, lb (g rfl) t26 rfl rfl, trivial⟩ ?_
  refine ss [0, 1] rfl rfl ⟨cl (a1 (g rfl) rfl (a1 (g rfl) rfl a0)) (c_cenotaphref07_number _ _), cl (a1 (g rfl) rfl (a1 (g rfl) rfl a0)) (c_cenotaphref07_number _ _), trivial⟩ ?_
  refine ss [0, 1] rfl rfl ⟨fb (g rfl) f32_1, fb (g rfl) f32_1, trivial⟩ ?_
  refine ss [0, 1] rfl rfl ⟨lb (g rfl) t27 rfl rfl, lb (g rfl) t27 rfl rfl, trivial⟩ ?_
  refine ss [0, 1] rfl rfl ⟨fb (g rfl) f32_1, fb (g rfl) f32_1, trivial⟩ ?_
  refine ss [0, 1] rfl rfl ⟨lb (g rfl) t27 rfl rfl, lb (g rfl) t27 rfl rfl, trivial⟩ ?_
  refine ss [0, 1] rfl rfl ⟨cl (a1 (g rfl) rfl (a1 (g rfl) rfl a0)) (c_cenotaphref07_number _ _), cl (a1 (g rfl) rfl (a1 (g rfl) rfl a0)) (c_cenotaphref07_number _ _), trivial⟩ ?_
  refine ss [0, 1] rfl rfl ⟨fb (g rfl) f32_2, fb (g rfl) f32_2, trivial⟩ ?_
  refine ss [0, 1] rfl rfl ⟨lb (g rfl) t9 rfl rfl, lb (g rfl) t9 rfl rfl, trivial⟩ ?_
  refine ss [0, 1] rfl rfl ⟨fb (g rfl) f32_2, fb (g rfl) f32_2, trivial⟩ ?_
  refine ss [0, 1] rfl rfl ⟨lb (g rfl) t9 rfl rfl, lb (g rfl) t9 rfl rfl, trivial⟩ ?_
  refine ss [0, 1] rfl rfl ⟨cl (a1 (g rfl) rfl (a1 (g rfl) rfl a0)) (c_cenotaphref07_Text _ _), cl (a1 (g rfl) rfl (a1 (g rfl) rfl a0)) (c_cenotaphref07_Text _ _), trivial⟩ ?_
  refine ss [0, 1] rfl rfl ⟨fb (g rfl) f32_3, fb (g rfl) f32_3, trivial⟩ ?_
  refine ss [0, 1] rfl rfl ⟨lb (g rfl) t9 rfl rfl, lb (g rfl) t9 rfl rfl, trivial⟩ ?_
  refine ss [0, 1] rfl rfl ⟨fb (g rfl) f32_3, fb (g rfl) f32_3, trivial⟩ ?_
  refine ss [0, 1] rfl rfl ⟨lb (g rfl) t9 rfl rfl, lb (g rfl) t9 rfl rfl, trivial⟩ ?_
  refine ss [0, 1] rfl rfl ⟨cl (a1 (g rfl) rfl (a1 (g rfl) rfl a0)) (c_cenotaphref07_Text _ _), cl (a1 (g rfl) rfl (a1 (g rfl) rfl a0)) (c_cenotaphref07_Text _ _), trivial⟩ ?_
  refine ss [0, 1] rfl rfl ⟨fb (g rfl) f32_4, fb (g rfl) f32_4, trivial⟩ ?_
  refine ss [0, 1] rfl rfl ⟨lb (g rfl) t9 rfl rfl, lb (g rfl) t9 rfl rfl, trivial⟩ ?_
  refine ss [0, 1] rfl rfl ⟨fb (g rfl) f32_4, fb (g rfl) f32_4, trivial⟩ ?_
  refine ss [0, 1] rfl rfl ⟨lb (g rfl) t9 rfl rfl, lb (g rfl) t9 rfl rfl, trivial⟩ ?_
  refine ss [0, 1] rfl rfl ⟨cl (a1 (g rfl) rfl (a1 (g rfl) rfl a0)) (c_cenotaphref07_Text _ _), cl (a1 (g rfl) rfl (a1 (g rfl) rfl a0)) (c_cenotaphref07_Text _ _), trivial⟩ ?_
  refine ss [0, 1] rfl rfl ⟨fb (g rfl) f32_5, fb (g rfl) f32_5, trivial⟩ ?_
  refine ss [0, 1] rfl rfl ⟨lb (g rfl) t3 rfl rfl, lb (g rfl) t3 rfl rfl, trivial⟩ ?_
  refine ss [0, 1] rfl rfl ⟨fb (g rfl) f32_5, fb (g rfl) f32_5, trivial⟩ ?_
  refine ss [0, 1] rfl rfl ⟨lb (g rfl) t3 rfl rfl, lb (g rfl) t3 rfl rfl, trivial⟩ ?_
  refine ss [0, 1] rfl rfl ⟨cl (a1 (g rfl) rfl (a1 (g rfl) rfl a0)) (c_cenotaphref07_number _ _), cl (a1 (g rfl) rfl (a1 (g rfl) rfl a0)) (c_cenotaphref07_number _ _), trivial⟩ ?_
  refine ss [0, 1] rfl rfl ⟨fb (g rfl) f32_7, fb (g rfl) f32_7, trivial⟩ ?_
  refine ss [0, 1] rfl rfl ⟨lb (g rfl) t30 rfl rfl, lb (g rfl) t30 rfl rfl, trivial⟩ ?_
  refine ss [0, 1] rfl rfl ⟨fb (g rfl) f32_7, fb (g rfl) f32_7, trivial⟩ ?_
  refine ss [0, 1] rfl rfl ⟨lb (g rfl) t30 rfl rfl, lb (g rfl) t30 rfl rfl, trivial⟩ ?_
  refine ss [0, 1] rfl rfl ⟨cl (a1 (g rfl) rfl (a1 (g rfl) rfl a0)) (c_cenotaphref07_rows a.over b.over ha), cl (a1 (g rfl) rfl (a1 (g rfl) rfl a0)) (c_cenotaphref07_rows a.over b.over ha), trivial⟩ ?_
  refine ss [0, 1] rfl rfl ⟨bdA zo77 ar77 (b1 (g rfl) (b1 (g rfl) (b1 (g rfl) (b1 (g rfl) (b1 (g rfl) (b1 (g rfl) (b1 (g rfl) (b1 (g rfl) b0)))))))) rfl rfl, bdA zo77 ar77 (b1 (g rfl) (b1 (g rfl) (b1 (g rfl) (b1 (g rfl) (b1 (g rfl) (b1 (g rfl) (b1 (g rfl) (b1 (g rfl) b0)))))))) rfl rfl, trivial⟩ ?_
  refine se 0 rfl (alE zo77 rfl rfl) ?_
  refine se0 1 rfl (stbE (g rfl) (g rfl) t77 rfl rfl rfl rfl rfl) ?_
  refine draws_end mixed (by kernel_rfl) rfl rfl (ok_then ?_)
  refine ok_seq ?_
  refine ok_seq ?_
  refine ok_region rfl ?_
  refine k (asg gi) ?_
  refine ok_end (ok_then ?_)
  refine ok_block ?_
  refine ok_loop (ι := { k : Nat // k ≤ 8 ∧ ∀ j, j < k → (Mu.cs a b)[j]? = some 0 }) 3 (fun i => 8 - i.1) (fun i => (upd 6 (.d (.int .i64 (i.1 : Nat))) (keepB 3 [5] _))) (fun _ => _) ⟨0, Nat.zero_le _, fun j h => absurd h (Nat.not_lt_zero j)⟩ (le_upd rfl le_keep_self) (eb_upd rfl eb_keep) rfl rfl rfl ?_
  rintro ⟨q, hk, hz⟩
  refine ok_seq ?_
  refine ok_seq ?_
  refine ok_region rfl ?_
  refine k (mv (g rfl)) ?_
  refine k (bn (g rfl) gi rfl) ?_
  refine ok_end (ok_then ?_)
  refine ok_cond (g rfl) (fun h1 => ?_) (fun h1 => ?_)
  · have hq8 : q < 8 := by simp at h1; omega
    have hq : q < (Mu.cs a b).length := hq8
    refine ok_skip (ok_then ?_)
    refine ok_seq ?_
    refine ok_block ?_
    refine ok_seq ?_
    refine ok_region rfl ?_
    refine k (mv (g rfl)) ?_
    refine k (ixb (g rfl) (g rfl) ar77 rfl hq) ?_
    refine k (lb (g rfl) t3 rfl (getQ (l := Mu.cs a b) hq)) ?_
    refine k (bn (g rfl) gi rfl) ?_
    refine ok_end (ok_then ?_)
    refine ok_cond (g rfl) (fun h2 => ?_) (fun h2 => ?_)
    · refine ok_seq ?_
      refine ok_region rfl ?_
      refine k (mv (g rfl)) ?_
      refine k (ixb (g rfl) (g rfl) ar77 rfl hq) ?_
      refine k (lb (g rfl) t3 rfl (getQ (l := Mu.cs a b) hq)) ?_
      refine k (asg (g rfl)) ?_
      refine ok_end (ok_then ?_)
      exact ok_ret (ok_inBlock_ret (ok_then_ret (ok_then_ret (ok_inBlock_ret (ok_then_ret (ret_tmp rfl rfl (congrArg (fun n => some (I n)) (orI_at (l := Mu.cs a b) hq hz (by simpa using h2)).symm)))))))
    · refine ok_skip (ok_inBlock_normal (ok_then ?_))
      refine ok_region rfl ?_
      refine k (mv (g rfl)) ?_
      refine k (bn (g rfl) gi rfl) ?_
      refine k (asg (g rfl)) ?_
      exact ok_end (ok_round 3 ⟨q + 1, by omega, ostep (l := Mu.cs a b) hz hq (by simpa using h2)⟩ (by show 8 - (q + 1) < 8 - q; omega) (le_upd (winc (k := q) (by omega)) (le_keep ⟨rfl, trivial⟩)) (eb_upd rfl eb_keep) rfl rfl rfl)
  · have hq : 8 ≤ q := by simp at h1; omega
    refine ok_exit (ok_then_exit (ok_then_exit (ok_inBlock_exit (ok_then ?_))))
    refine ok_seq ?_
    refine ok_region rfl ?_
    refine k (asg gi) ?_
    refine ok_end (ok_then ?_)
    exact ok_ret (ret_tmp rfl rfl (congrArg (fun n => some (I n)) (orI_zero (l := Mu.cs a b) fun j hj => hz j (by have : j < 8 := hj; omega)).symm))

set_option maxRecDepth 20000 in
theorem c_slices_Equal_sint_int (a b : List Int) (hl : a.length < 4611686018427387904) : Pure Pr 9 [.list 1 (a.map I), .list 1 (b.map I)] (.bool (sameL (fun x y => x == y) a b)) := by
  refine pure_of Tryz.func9 (by kernel_rfl) rfl Tryz.ntmps9 (by simp) fun w μ => ?_
  refine ok_seq ?_
  refine ok_region rfl ?_
  refine k (asg gb) ?_
  refine ok_end (ok_then ?_)
  refine ok_seq ?_
  refine ok_seq ?_
  refine ok_region rfl ?_
  refine k (mv (g rfl)) ?_
  refine k (ln (g rfl) e24) ?_
  refine k (mv (g rfl)) ?_
  refine k (ln (g rfl) e24) ?_
  refine k (bn (g rfl) (g rfl) rfl) ?_
  refine ok_end (ok_then ?_)
  refine ok_cond (g rfl) (fun h1 => ?_) (fun h1 => ?_)
  · refine ok_seq ?_
    refine ok_region rfl ?_
    refine k (asg gb) ?_
    refine ok_end (ok_then ?_)
    exact ok_ret (ok_then_ret (ret_tmp rfl rfl (by rw [sameL_len (by simp at h1; omega)]; rfl)))
  · refine ok_skip (ok_then ?_)
    refine ok_seq ?_
    refine ok_seq ?_
    refine ok_region rfl ?_
    refine k (mv (g rfl)) ?_
    refine k (ln (g rfl) e24) ?_
    refine k (mv gi) ?_
    refine ok_end (ok_then ?_)
    refine ok_block ?_
    have hlen : a.length = b.length := by simp at h1; omega
    refine ok_loop (ι := { k : Nat // k ≤ a.length ∧ sameL (fun x y => x == y) a b = sameL (fun x y => x == y) (a.drop k) (b.drop k) }) 0 (fun i => a.length - i.1) (fun i => (upd 13 (.d (.int .i64 (i.1 : Nat))) (keepB 0 [0, 1, 12] _))) (fun _ => _) ⟨0, Nat.zero_le _, rfl⟩ (le_upd rfl le_keep_self) (eb_upd rfl eb_keep) rfl rfl rfl ?_
    rintro ⟨q, hk, hz⟩
    refine ok_seq ?_
    refine ok_region rfl ?_
    refine k (bn (g rfl) (g rfl) rfl) ?_
    refine ok_end (ok_then ?_)
    refine ok_seq ?_
    refine ok_cond (g rfl) (fun h2 => ?_) (fun h2 => ?_)
    · have hq : q < a.length := by simp at h2; exact h2
      refine ok_skip (ok_then ?_)
      refine ok_seq ?_
      refine ok_block ?_
      refine ok_seq ?_
      refine ok_region rfl ?_
      refine k (mv (g rfl)) ?_
      refine k (asg (g rfl)) ?_
      refine ok_end (ok_then ?_)
      refine ok_seq ?_
      refine ok_draw [16, 17, 18, 19, 20, 21, 22, 23, 24] rfl (by kernel_rfl) ?_
      refine dr (mv (g rfl)) ?_
      refine dr (mv (g rfl)) ?_
      refine dr (ixm (g rfl) (g rfl) e24 hq) ?_
      refine dr (lr (g rfl) t3 rfl) ?_
      refine dr (mv (g rfl)) ?_
      refine dr (mv (g rfl)) ?_
      refine dr (ixm (g rfl) (g rfl) e24 (show q < b.length by omega)) ?_
      refine dr (lr (g rfl) t3 rfl) ?_
      refine dr (bn (g rfl) (g rfl) rfl) ?_
      refine draw_end mixed (ok_then ?_)
      refine ok_cond (g rfl) (fun h3 => ?_) (fun h3 => ?_)
      · refine ok_seq ?_
        refine ok_region rfl ?_
        refine k (asg gb) ?_
        refine ok_end (ok_then ?_)
        exact ok_ret (ok_inBlock_ret (ok_then_ret (ok_then_ret (ok_inBlock_ret (ok_then_ret (ret_tmp rfl rfl (by rw [sameL_no (k := q) hq (by omega) hz (nF h3)]; rfl)))))))
      · refine ok_skip (ok_inBlock_normal (ok_then ?_))
        refine ok_region rfl ?_
        refine k (bn (g rfl) gi rfl) ?_
        refine k (mv (g rfl)) ?_
        exact ok_end (ok_round 0 ⟨q + 1, by simp at h2; omega, sameL_yes hq (show q < b.length by omega) hz (nT h3)⟩ (by simp at h2 ⊢; omega) (le_upd (winc (k := q) (by omega)) (le_keep ⟨rfl, rfl, rfl, trivial⟩)) (eb_upd rfl eb_keep) rfl rfl rfl)
    · have hq : a.length ≤ q := by simp at h2; exact h2
      refine ok_exit (ok_then_exit (ok_then_exit (ok_inBlock_exit (ok_then ?_))))
      refine ok_seq ?_
      refine ok_region rfl ?_
      refine k (asg gb) ?_
      refine ok_end (ok_then ?_)
      exact ok_ret (ret_tmp rfl rfl (by rw [sameL_end (k := q) hq (by omega) hz]; rfl))

set_option maxRecDepth 20000 in
theorem c_cenotaphref09_Same (a b : List Ro) (hl : a.length < 4611686018427387904) : Pure Pr 15 [.list 5 (a.map Ro.d), .list 5 (b.map Ro.d)] (.bool (sameL Ro.eqb a b)) := by
  refine pure_of Tryz.func15 (by kernel_rfl) rfl Tryz.ntmps15 (by simp) fun w μ => ?_
  refine ok_seq ?_
  refine ok_region rfl ?_
  refine k (asg gb) ?_
  refine ok_end (ok_then ?_)
  refine ok_seq ?_
  refine ok_seq ?_
  refine ok_region rfl ?_
  refine k (mv (g rfl)) ?_
  refine k (ln (g rfl) e37) ?_
  refine k (mv (g rfl)) ?_
  refine k (ln (g rfl) e37) ?_
  refine k (bn (g rfl) (g rfl) rfl) ?_
  refine ok_end (ok_then ?_)
  refine ok_cond (g rfl) (fun h1 => ?_) (fun h1 => ?_)
  · refine ok_seq ?_
    refine ok_region rfl ?_
    refine k (asg gb) ?_
    refine ok_end (ok_then ?_)
    exact ok_ret (ok_then_ret (ret_tmp rfl rfl (by rw [sameL_len (by simp at h1; omega)]; rfl)))
  · refine ok_skip (ok_then ?_)
    refine ok_seq ?_
    refine ok_seq ?_
    refine ok_region rfl ?_
    refine k (asg gi) ?_
    refine ok_end (ok_then ?_)
    refine ok_block ?_
    have hlen : a.length = b.length := by simp at h1; omega
    refine ok_loop (ι := { k : Nat // k ≤ a.length ∧ sameL Ro.eqb a b = sameL Ro.eqb (a.drop k) (b.drop k) }) 0 (fun i => a.length - i.1) (fun i => (upd 5 (.d (.int .i64 (i.1 : Nat))) (keepB 0 [0, 1] _))) (fun _ => _) ⟨0, Nat.zero_le _, rfl⟩ (le_upd rfl le_keep_self) (eb_upd rfl eb_keep) rfl rfl rfl ?_
    rintro ⟨q, hk, hz⟩
    refine ok_seq ?_
    refine ok_seq ?_
    refine ok_region rfl ?_
    refine k (mv (g rfl)) ?_
    refine k (mv (g rfl)) ?_
    refine k (ln (g rfl) e37) ?_
    refine k (bn (g rfl) (g rfl) rfl) ?_
    refine ok_end (ok_then ?_)
    refine ok_cond (g rfl) (fun h2 => ?_) (fun h2 => ?_)
    · have hq : q < a.length := by simp at h2; exact h2
      refine ok_skip (ok_then ?_)
      refine ok_seq ?_
      refine ok_block ?_
      refine ok_seq ?_
      refine ok_draw [17, 18, 19, 20, 21, 22, 23, 24, 25] rfl (by kernel_rfl) ?_
      refine dr (mv (g rfl)) ?_
      refine dr (mv (g rfl)) ?_
      refine dr (ixm (g rfl) (g rfl) e37 hq) ?_
      refine dr (lR (g rfl) t49 (Nat.le_of_ble_eq_true rfl)) ?_
      refine dr (mv (g rfl)) ?_
      refine dr (mv (g rfl)) ?_
      refine dr (ixm (g rfl) (g rfl) e37 (show q < b.length by omega)) ?_
      refine dr (lR (g rfl) t49 (Nat.le_of_ble_eq_true rfl)) ?_
      refine dr (neS fq49 (g rfl) (g rfl) rfl rfl rfl) ?_
      refine draw_end mixed (ok_then ?_)
      refine ok_cond (g rfl) (fun h3 => ?_) (fun h3 => ?_)
      · refine ok_seq ?_
        refine ok_region rfl ?_
        refine k (asg gb) ?_
        refine ok_end (ok_then ?_)
        exact ok_ret (ok_inBlock_ret (ok_then_ret (ok_then_ret (ok_inBlock_ret (ok_then_ret (ret_tmp rfl rfl (by rw [sameL_no (k := q) hq (by omega) hz (nF h3)]; rfl)))))))
      · refine ok_skip (ok_inBlock_normal (ok_then ?_))
        refine ok_region rfl ?_
        refine k (mv (g rfl)) ?_
        refine k (bn (g rfl) gi rfl) ?_
        refine k (asg (g rfl)) ?_
        exact ok_end (ok_round 0 ⟨q + 1, by simp at h2; omega, sameL_yes hq (show q < b.length by omega) hz (nT h3)⟩ (by simp at h2 ⊢; omega) (le_upd (winc (k := q) (by omega)) (le_keep ⟨rfl, rfl, trivial⟩)) (eb_upd rfl eb_keep) rfl rfl rfl)
    · have hq : a.length ≤ q := by simp at h2; exact h2
      refine ok_exit (ok_then_exit (ok_then_exit (ok_inBlock_exit (ok_then ?_))))
      refine ok_seq ?_
      refine ok_region rfl ?_
      refine k (asg gb) ?_
      refine ok_end (ok_then ?_)
      exact ok_ret (ret_tmp rfl rfl (by rw [sameL_end (k := q) hq (by omega) hz]; rfl))

set_option maxRecDepth 20000 in
theorem c_cenotaphref04_Same (a b : List St) (hl : a.length < 4611686018427387904) : Pure Pr 16 [.list 3 (a.map St.d), .list 3 (b.map St.d)] (.bool (sameL St.eqb a b)) := by
  refine pure_of Tryz.func16 (by kernel_rfl) rfl Tryz.ntmps16 (by simp) fun w μ => ?_
  refine ok_seq ?_
  refine ok_region rfl ?_
  refine k (asg gb) ?_
  refine ok_end (ok_then ?_)
  refine ok_seq ?_
  refine ok_seq ?_
  refine ok_region rfl ?_
  refine k (mv (g rfl)) ?_
  refine k (ln (g rfl) e30) ?_
  refine k (mv (g rfl)) ?_
  refine k (ln (g rfl) e30) ?_
  refine k (bn (g rfl) (g rfl) rfl) ?_
  refine ok_end (ok_then ?_)
  refine ok_cond (g rfl) (fun h1 => ?_) (fun h1 => ?_)
  · refine ok_seq ?_
    refine ok_region rfl ?_
    refine k (asg gb) ?_
    refine ok_end (ok_then ?_)
    exact ok_ret (ok_then_ret (ret_tmp rfl rfl (by rw [sameL_len (by simp at h1; omega)]; rfl)))
  · refine ok_skip (ok_then ?_)
    refine ok_seq ?_
    refine ok_seq ?_
    refine ok_region rfl ?_
    refine k (asg gi) ?_
    refine ok_end (ok_then ?_)
    refine ok_block ?_
    have hlen : a.length = b.length := by simp at h1; omega
    refine ok_loop (ι := { k : Nat // k ≤ a.length ∧ sameL St.eqb a b = sameL St.eqb (a.drop k) (b.drop k) }) 0 (fun i => a.length - i.1) (fun i => (upd 5 (.d (.int .i64 (i.1 : Nat))) (keepB 0 [0, 1] _))) (fun _ => _) ⟨0, Nat.zero_le _, rfl⟩ (le_upd rfl le_keep_self) (eb_upd rfl eb_keep) rfl rfl rfl ?_
    rintro ⟨q, hk, hz⟩
    refine ok_seq ?_
    refine ok_seq ?_
    refine ok_region rfl ?_
    refine k (mv (g rfl)) ?_
    refine k (mv (g rfl)) ?_
    refine k (ln (g rfl) e30) ?_
    refine k (bn (g rfl) (g rfl) rfl) ?_
    refine ok_end (ok_then ?_)
    refine ok_cond (g rfl) (fun h2 => ?_) (fun h2 => ?_)
    · have hq : q < a.length := by simp at h2; exact h2
      refine ok_skip (ok_then ?_)
      refine ok_seq ?_
      refine ok_block ?_
      refine ok_seq ?_
      refine ok_draw [17, 18, 19, 20, 21, 22, 23, 24, 25] rfl (by kernel_rfl) ?_
      refine dr (mv (g rfl)) ?_
      refine dr (mv (g rfl)) ?_
      refine dr (ixm (g rfl) (g rfl) e30 hq) ?_
      refine dr (lR (g rfl) t29 (Nat.le_of_ble_eq_true rfl)) ?_
      refine dr (mv (g rfl)) ?_
      refine dr (mv (g rfl)) ?_
      refine dr (ixm (g rfl) (g rfl) e30 (show q < b.length by omega)) ?_
      refine dr (lR (g rfl) t29 (Nat.le_of_ble_eq_true rfl)) ?_
      refine dr (neS fq29 (g rfl) (g rfl) rfl rfl rfl) ?_
      refine draw_end mixed (ok_then ?_)
      refine ok_cond (g rfl) (fun h3 => ?_) (fun h3 => ?_)
      · refine ok_seq ?_
        refine ok_region rfl ?_
        refine k (asg gb) ?_
        refine ok_end (ok_then ?_)
        exact ok_ret (ok_inBlock_ret (ok_then_ret (ok_then_ret (ok_inBlock_ret (ok_then_ret (ret_tmp rfl rfl (by rw [sameL_no (k := q) hq (by omega) hz (nF h3)]; rfl)))))))
      · refine ok_skip (ok_inBlock_normal (ok_then ?_))
        refine ok_region rfl ?_
        refine k (mv (g rfl)) ?_
        refine k (bn (g rfl) gi rfl) ?_
        refine k (asg (g rfl)) ?_
        exact ok_end (ok_round 0 ⟨q + 1, by simp at h2; omega, sameL_yes hq (show q < b.length by omega) hz (nT h3)⟩ (by simp at h2 ⊢; omega) (le_upd (winc (k := q) (by omega)) (le_keep ⟨rfl, rfl, trivial⟩)) (eb_upd rfl eb_keep) rfl rfl rfl)
    · have hq : a.length ≤ q := by simp at h2; exact h2
      refine ok_exit (ok_then_exit (ok_then_exit (ok_inBlock_exit (ok_then ?_))))
      refine ok_seq ?_
      refine ok_region rfl ?_
      refine k (asg gb) ?_
      refine ok_end (ok_then ?_)
      exact ok_ret (ret_tmp rfl rfl (by rw [sameL_end (k := q) hq (by omega) hz]; rfl))

set_option maxRecDepth 20000 in
theorem c_cenotaphref07_Same (a b : List Mu) (hl : a.length < 4611686018427387904) (ho : ∀ m ∈ a, m.over.length < 4611686018427387904) : Pure Pr 36 [.list 10 (a.map Mu.d), .list 10 (b.map Mu.d)] (.bool (sameL (fun x y => Mu.cmp x y == 0) a b)) := by
  refine pure_of Tryz.func36 (by kernel_rfl) rfl Tryz.ntmps36 (by simp) fun w μ => ?_
  refine ok_seq ?_
  refine ok_region rfl ?_
  refine k (asg gb) ?_
  refine ok_end (ok_then ?_)
  refine ok_seq ?_
  refine ok_seq ?_
  refine ok_region rfl ?_
  refine k (mv (g rfl)) ?_
  refine k (ln (g rfl) e33) ?_
  refine k (mv (g rfl)) ?_
  refine k (ln (g rfl) e33) ?_
  refine k (bn (g rfl) (g rfl) rfl) ?_
  refine ok_end (ok_then ?_)
  refine ok_cond (g rfl) (fun h1 => ?_) (fun h1 => ?_)
  · refine ok_seq ?_
    refine ok_region rfl ?_
    refine k (asg gb) ?_
    refine ok_end (ok_then ?_)
    exact ok_ret (ok_then_ret (ret_tmp rfl rfl (by rw [sameL_len (by simp at h1; omega)]; rfl)))
  · refine ok_skip (ok_then ?_)
    refine ok_seq ?_
    refine ok_seq ?_
    refine ok_region rfl ?_
    refine k (asg gi) ?_
    refine ok_end (ok_then ?_)
    refine ok_block ?_
    have hlen : a.length = b.length := by simp at h1; omega
    refine ok_loop (ι := { k : Nat // k ≤ a.length ∧ sameL (fun x y => Mu.cmp x y == 0) a b = sameL (fun x y => Mu.cmp x y == 0) (a.drop k) (b.drop k) }) 0 (fun i => a.length - i.1) (fun i => (upd 5 (.d (.int .i64 (i.1 : Nat))) (keepB 0 [0, 1] _))) (fun _ => _) ⟨0, Nat.zero_le _, rfl⟩ (le_upd rfl le_keep_self) (eb_upd rfl eb_keep) rfl rfl rfl ?_
    rintro ⟨q, hk, hz⟩
    refine ok_seq ?_
    refine ok_seq ?_
    refine ok_region rfl ?_
    refine k (mv (g rfl)) ?_
    refine k (mv (g rfl)) ?_
    refine k (ln (g rfl) e33) ?_
    refine k (bn (g rfl) (g rfl) rfl) ?_
    refine ok_end (ok_then ?_)
    refine ok_cond (g rfl) (fun h2 => ?_) (fun h2 => ?_)
    · have hq : q < a.length := by simp at h2; exact h2
      refine ok_skip (ok_then ?_)
      refine ok_seq ?_
      refine ok_block ?_
      refine ok_seq ?_
      refine ok_draw [17, 18, 19, 20, 21, 22, 23, 24, 25, 26] rfl (by kernel_rfl) ?_
      refine dr (mv (g rfl)) ?_
      refine dr (mv (g rfl)) ?_
      refine dr (ixm (g rfl) (g rfl) e33 hq) ?_
      refine dr (lR (g rfl) t32 (Nat.le_of_ble_eq_true rfl)) ?_
      refine dr (mv (g rfl)) ?_
      refine dr (mv (g rfl)) ?_
      refine dr (ixm (g rfl) (g rfl) e33 (show q < b.length by omega)) ?_
      refine dr (lR (g rfl) t32 (Nat.le_of_ble_eq_true rfl)) ?_
      refine dr (cl (a1 (g rfl) rfl (a1 (g rfl) rfl a0)) (c_cenotaphref07_Compare _ _ (ho _ (List.getElem_mem _)))) ?_
      refine dr (bn (g rfl) gi rfl) ?_
      refine draw_end mixed (ok_then ?_)
      refine ok_cond (g rfl) (fun h3 => ?_) (fun h3 => ?_)
      · refine ok_seq ?_
        refine ok_region rfl ?_
        refine k (asg gb) ?_
        refine ok_end (ok_then ?_)
        exact ok_ret (ok_inBlock_ret (ok_then_ret (ok_then_ret (ok_inBlock_ret (ok_then_ret (ret_tmp rfl rfl (by rw [sameL_no (k := q) hq (by omega) hz (nF h3)]; rfl)))))))
      · refine ok_skip (ok_inBlock_normal (ok_then ?_))
        refine ok_region rfl ?_
        refine k (mv (g rfl)) ?_
        refine k (bn (g rfl) gi rfl) ?_
        refine k (asg (g rfl)) ?_
        exact ok_end (ok_round 0 ⟨q + 1, by simp at h2; omega, sameL_yes hq (show q < b.length by omega) hz (nT h3)⟩ (by simp at h2 ⊢; omega) (le_upd (winc (k := q) (by omega)) (le_keep ⟨rfl, rfl, trivial⟩)) (eb_upd rfl eb_keep) rfl rfl rfl)
    · have hq : a.length ≤ q := by simp at h2; exact h2
      refine ok_exit (ok_then_exit (ok_then_exit (ok_inBlock_exit (ok_then ?_))))
      refine ok_seq ?_
      refine ok_region rfl ?_
      refine k (asg gb) ?_
      refine ok_end (ok_then ?_)
      exact ok_ret (ret_tmp rfl rfl (by rw [sameL_end (k := q) hq (by omega) hz]; rfl))
end Go.Aw
