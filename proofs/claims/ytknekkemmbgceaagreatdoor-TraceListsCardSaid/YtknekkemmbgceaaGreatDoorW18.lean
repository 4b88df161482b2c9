/- Contracts of functions of the program, walked: c_nums_Stamp, c_mut_over, c_mut_Right, c_trace_Mut. By an AI agent. -/
import Derived.Test.YtknekkemmbgceaaGreatDoorW17
import Derived.Test.YtknekkemmbgceaaGreatDoorSp
set_option linter.all false
/-! W18 -/
namespace Go.Aw
open Go.RowKit Go.Proofs
private theorem e30 : elemF Pr 30 = some (29, 3) := by kernel_rfl
private theorem f29_0 : fldF Pr 29 0 = some (0, 1, false) := by kernel_rfl
private theorem f29_1 : fldF Pr 29 1 = some (1, 1, false) := by kernel_rfl
private theorem f29_2 : fldF Pr 29 2 = some (2, 1, false) := by kernel_rfl
private theorem f32_0 : fldF Pr 32 0 = some (0, 1, false) := by kernel_rfl
private theorem f32_1 : fldF Pr 32 1 = some (1, 1, false) := by kernel_rfl
private theorem f32_2 : fldF Pr 32 2 = some (2, 1, false) := by kernel_rfl
private theorem f32_3 : fldF Pr 32 3 = some (3, 1, false) := by kernel_rfl
private theorem f32_4 : fldF Pr 32 4 = some (4, 1, false) := by kernel_rfl
private theorem f32_5 : fldF Pr 32 5 = some (5, 1, false) := by kernel_rfl
private theorem f32_6 : fldF Pr 32 6 = some (6, 3, true) := by kernel_rfl
private theorem f32_7 : fldF Pr 32 7 = some (9, 1, false) := by kernel_rfl
private theorem t26 : tyF Pr 26 = some (1, false) := by kernel_rfl
private theorem t27 : tyF Pr 27 = some (1, false) := by kernel_rfl
private theorem t29 : tyF Pr 29 = some (3, true) := by kernel_rfl
private theorem t3 : tyF Pr 3 = some (1, false) := by kernel_rfl
private theorem t30 : tyF Pr 30 = some (1, false) := by kernel_rfl
private theorem t32 : tyF Pr 32 = some (10, true) := by kernel_rfl
private theorem t9 : tyF Pr 9 = some (1, false) := by kernel_rfl
private theorem zo29 : ZeroOk Pr 29 [.d (.int .i64 0), .d (.int .i64 0), .d (.int .i64 0)] := ⟨.agg #[.int .i64 0, .int .i64 0, .int .i64 0], fun _ => by kernel_rfl, fun μ ρ => (rcc zi (rcc zi (rcc zi rcn))), by simp [Value.cells, Value.oneCell']⟩
set_option maxRecDepth 20000 in
theorem c_nums_Stamp (s : St) : Pure Pr 23 [s.d] (.str (stampS s)) := by
  refine pure_of Tryz.func23 (by kernel_rfl) rfl Tryz.ntmps23 (by simp) fun w μ => ?_
  refine ok_seq ?_
  refine ok_region rfl ?_
  refine kbox (n := 0) (g rfl) rfl rfl ?_
  refine k (asg gs) ?_
  refine ok_end (ok_then ?_)
  refine ok_seq ?_
  refine ok_draw [3, 4, 5, 6, 7, 8, 9, 10, 11, 12, 13, 14, 15, 2] rfl (by kernel_rfl) ?_
  refine dr (fb (g rfl) f29_0) ?_
  refine dr (lb (g rfl) t3 rfl rfl) ?_
  refine dr (cl (a1 (g rfl) rfl a0) (c_nums_Text _)) ?_
  refine dr (ct (g rfl) gs (catOk (textI_size _) (one_le _))) ?_
  refine dr (fb (g rfl) f29_1) ?_
  refine dr (lb (g rfl) t3 rfl rfl) ?_
  refine dr (cl (a1 (g rfl) rfl a0) (c_nums_Text _)) ?_
  refine dr (ct (g rfl) (g rfl) (catOk (cat_le (textI_size _) (one_le _)) (textI_size _))) ?_
  refine dr (ct (g rfl) gs (catOk (cat_le (cat_le (textI_size _) (one_le _)) (textI_size _)) (one_le _))) ?_
  refine dr (fb (g rfl) f29_2) ?_
  refine dr (lb (g rfl) t3 rfl rfl) ?_
  refine dr (cl (a1 (g rfl) rfl a0) (c_nums_Text _)) ?_
  refine dr (ct (g rfl) (g rfl) (catOk (cat_le (cat_le (cat_le (textI_size _) (one_le _)) (textI_size _)) (one_le _)) (textI_size _))) ?_
  refine dr (asg (g rfl)) ?_
  refine draw_end mixed (ok_then ?_)
  exact ok_ret (ret_tmp rfl rfl rfl)

set_option maxRecDepth 20000 in
theorem c_mut_over (l : List St) (at_ : St) (hl : l.length < 4611686018427387904) : Pure Pr 49 [.list 3 (l.map St.d), at_.d] (.bool (overOk l at_)) := by
  refine pure_of Tryz.func49 (by kernel_rfl) rfl Tryz.ntmps49 (by simp) fun w μ => ?_
  refine ok_seq ?_
  refine ok_region rfl ?_
  refine kbox (n := 0) (g rfl) rfl rfl ?_
  refine k (asg gb) ?_
  refine ok_end (ok_then ?_)
  refine ok_seq ?_
  refine ok_seq ?_
  refine ok_region rfl ?_
  refine k (mv (g rfl)) ?_
  refine k (ln (g rfl) e30) ?_
  refine k (mv gi) ?_
  refine ok_end (ok_then ?_)
  refine ok_block ?_
  refine ok_loop (ι := { k : Nat // k ≤ l.length ∧ ∀ j, j < k → overBad at_ j (l.getD j st0) (l.getD (j - 1) st0) = false }) 1 (fun i => l.length - i.1) (fun i => (upd 9 (.d (.int .i64 (i.1 : Nat))) (keepB 1 [0, 3, 7, 8] _))) (fun _ => _) ⟨0, Nat.zero_le _, fun j h => absurd h (Nat.not_lt_zero j)⟩ (le_upd rfl le_keep_self) (eb_upd rfl eb_keep) rfl rfl rfl ?_
  rintro ⟨q, hk, hz⟩
  refine ok_seq ?_
  refine ok_region rfl ?_
  refine k (bn (g rfl) (g rfl) rfl) ?_
  refine ok_end (ok_then ?_)
  refine ok_seq ?_
  refine ok_cond (g rfl) (fun h1 => ?_) (fun h1 => ?_)
  · have hq : q < l.length := by simp at h1; exact h1
    have hq1 : q - 1 < l.length := by omega
    refine ok_skip (ok_then ?_)
    refine ok_seq ?_
    refine ok_block ?_
    refine ok_seq ?_
    refine ok_region rfl ?_
    refine k (mv (g rfl)) ?_
    refine k (ixm (g rfl) (g rfl) e30 hq) ?_
    refine k (lR (g rfl) t29 (Nat.le_of_ble_eq_true rfl)) ?_
    refine kal (n := 1) zo29 rfl ?_
    refine k (asg (g rfl)) ?_
    refine kst (g rfl) (g rfl) t29 rfl rfl rfl rfl ?_
    refine ok_end (ok_then ?_)
    refine ok_seq ?_
    refine ok_draw [14, 15, 16, 17, 18, 19, 20, 21, 22, 23, 24, 25, 26, 27, 28, 29, 30, 31, 32, 33, 34, 35, 36] rfl (by kernel_rfl) ?_
    refine dr (lB (g rfl) t29 rfl rfl) ?_
    refine dr (cl (a1 (g rfl) rfl a0) (c_stamp_Right _)) ?_
    refine dr (nt (g rfl)) ?_
    refine dr (mv (g rfl)) ?_
    refine dg rfl rfl rfl (fun hg => lB (g rfl) t29 rfl rfl) ?_
    refine dg rfl rfl rfl (fun hg => lB (g rfl) t29 rfl rfl) ?_
    refine dg rfl rfl rfl (fun hg => cl (a1 (go rfl hg) rfl (a1 (go rfl hg) rfl a0)) (c_stamp_Less _ _)) ?_
    refine dg rfl rfl rfl (fun hg => nt (go rfl hg)) ?_
    refine dr (orr (g rfl) (fun h => (go rfl (by rw [h]; rfl)))) ?_
    refine dr (mv (g rfl)) ?_
    refine dg rfl rfl rfl (fun hg => mv (g rfl)) ?_
    refine dg rfl rfl rfl (fun hg => bn (go rfl hg) gi rfl) ?_
    refine dg rfl rfl rfl (fun hg => mv (go rfl hg)) ?_
    refine dg rfl rfl rfl (fun hg => mv (g rfl)) ?_
    refine dg rfl rfl rfl (fun hg => mv (g rfl)) ?_
    refine dg rfl rfl rfl (fun hg => bn (go rfl hg) gi rfl) ?_
    refine dg rfl rfl rfl (fun hg => ixn (go rfl hg) (go rfl hg) e30 (wdec (by simp at hg; omega) (by omega)) hq1) ?_
    refine dg rfl rfl rfl (fun hg => lR (go rfl hg) t29 (Nat.le_of_ble_eq_true rfl)) ?_
    refine dg rfl rfl rfl (fun hg => lB (g rfl) t29 rfl rfl) ?_
    refine dg rfl rfl rfl (fun hg => cl (a1 (go rfl hg) rfl (a1 (go rfl hg) rfl a0)) (c_stamp_Less _ _)) ?_
    refine dg rfl rfl rfl (fun hg => nt (go rfl hg)) ?_
    refine dg rfl rfl rfl (fun hg => an (go rfl hg) (fun h => (go rfl (by rw [hg, h]; rfl)))) ?_
    refine dr (orr (g rfl) (fun h => (go rfl (by rw [h]; rfl)))) ?_
    refine draw_end mixed (ok_then ?_)
    refine ok_cond (g rfl) (fun h2 => ?_) (fun h2 => ?_)
    · refine ok_seq ?_
      refine ok_region rfl ?_
      refine k (asg gb) ?_
      refine ok_end (ok_then ?_)
      exact ok_ret (ok_inBlock_ret (ok_then_ret (ok_then_ret (ok_inBlock_ret (ok_then_ret (ret_tmp rfl rfl (by rw [overOk, rany_at (k := q) hq (by rw [getD_at hq, getD_at hq1]; exact h2)]; rfl)))))))
    · refine ok_skip (ok_inBlock_normal (ok_then ?_))
      refine ok_region rfl ?_
      refine k (bn (g rfl) gi rfl) ?_
      refine k (mv (g rfl)) ?_
      exact ok_end (ok_round 1 ⟨q + 1, hq, rstep hz (by rw [getD_at hq, getD_at hq1]; exact h2)⟩ (by show l.length - (q + 1) < l.length - q; omega) (le_upd (winc (k := q) (by omega)) (le_keep ⟨rfl, rfl, rfl, rfl, trivial⟩)) (eb_upd rfl eb_keep) rfl rfl rfl)
  · have hq : l.length ≤ q := by simp at h1; exact h1
    have hqq : q = l.length := Nat.le_antisymm hk hq
    subst hqq
    refine ok_exit (ok_then_exit (ok_then_exit (ok_inBlock_exit (ok_then ?_))))
    refine ok_seq ?_
    refine ok_region rfl ?_
    refine k (mv (g rfl)) ?_
    refine k (ln (g rfl) e30) ?_
    refine k (bn (g rfl) gi rfl) ?_
    refine k (asg (g rfl)) ?_
    refine ok_end (ok_then ?_)
    exact ok_ret (ret_tmp rfl rfl (by rw [overOk, rany_no hz]; simp [AV.toD]))

set_option maxRecDepth 20000 in
theorem c_mut_Right (m : Mu) (ho : m.over.length < 4611686018427387904) : Pure Pr 41 [m.d] (.bool m.right) := by
  refine pure_of Tryz.func41 (by kernel_rfl) rfl Tryz.ntmps41 (by simp) fun w μ => ?_
  refine ok_seq ?_
  refine ok_region rfl ?_
  refine kbox (n := 0) (g rfl) rfl rfl ?_
  refine k (asg gb) ?_
  refine ok_end (ok_then ?_)
  refine ok_seq ?_
  refine ok_block ?_
  refine ok_seq ?_
  refine ok_region rfl ?_
  refine k (fb (g rfl) f32_6) ?_
  refine k (lB (g rfl) t29 rfl rfl) ?_
  refine k (cl (a1 (g rfl) rfl a0) (c_stamp_Right _)) ?_
  refine k (nt (g rfl)) ?_
  refine k (mv (g rfl)) ?_
  refine kg rfl rfl rfl (fun hg => fb (g rfl) f32_2) ?_
  refine kg rfl rfl rfl (fun hg => lb (go rfl hg) t9 rfl rfl) ?_
  refine kg rfl rfl rfl (fun hg => cl (a1 (go rfl hg) rfl a0) (c_runes_Key _)) ?_
  refine kg rfl rfl rfl (fun hg => nt (go rfl hg)) ?_
  refine k (orr (g rfl) (fun h => (go rfl (by rw [h]; rfl)))) ?_
  refine k (mv (g rfl)) ?_
  refine kg rfl rfl rfl (fun hg => fb (g rfl) f32_7) ?_
  refine kg rfl rfl rfl (fun hg => lb (go rfl hg) t30 rfl rfl) ?_
  refine kg rfl rfl rfl (fun hg => fb (g rfl) f32_6) ?_
  refine kg rfl rfl rfl (fun hg => lB (go rfl hg) t29 rfl rfl) ?_
  refine kg rfl rfl rfl (fun hg => cl (a1 (go rfl hg) rfl (a1 (go rfl hg) rfl a0)) (c_mut_over m.over m.at_ ho)) ?_
  refine kg rfl rfl rfl (fun hg => nt (go rfl hg)) ?_
  refine k (orr (g rfl) (fun h => (go rfl (by rw [h]; rfl)))) ?_
  refine k (asg (g rfl)) ?_
  refine ok_end (ok_then ?_)
  refine ok_cond (g rfl) (fun h1 => ?_) (fun h1 => ?_)
  · refine ok_seq ?_
    refine ok_region rfl ?_
    refine k (asg gb) ?_
    refine ok_end (ok_then ?_)
    exact ok_ret (ok_inBlock_ret (ok_then_ret (ret_tmp rfl rfl (by rw [Mu.right, h1]; rfl))))
  · refine ok_seq ?_
    refine ok_region rfl ?_
    refine k (fb (g rfl) f32_5) ?_
    refine k (lb (g rfl) t3 rfl rfl) ?_
    refine k (bn (g rfl) gi rfl) ?_
    refine k (mv (g rfl)) ?_
    refine kg rfl rfl rfl (fun hg => fb (g rfl) f32_5) ?_
    refine kg rfl rfl rfl (fun hg => lb (go rfl hg) t3 rfl rfl) ?_
    refine kg rfl rfl rfl (fun hg => bn (go rfl hg) gi rfl) ?_
    refine k (orr (g rfl) (fun h => (go rfl (by rw [h]; rfl)))) ?_
    refine k (mv (g rfl)) ?_
    refine kg rfl rfl rfl (fun hg => fb (g rfl) f32_5) ?_
    refine kg rfl rfl rfl (fun hg => lb (go rfl hg) t3 rfl rfl) ?_
    refine kg rfl rfl rfl (fun hg => bn (go rfl hg) gi rfl) ?_
    refine kg rfl rfl rfl (fun hg => mv (go rfl hg)) ?_
    refine kg rfl rfl rfl (fun hg => fb (g rfl) f32_1) ?_
    refine kg rfl rfl rfl (fun hg => lb (go rfl hg) t27 rfl rfl) ?_
    refine kg rfl rfl rfl (fun hg => bn (go rfl hg) gi rfl) ?_
    refine kg rfl rfl rfl (fun hg => mv (go rfl hg)) ?_
    refine kg rfl rfl rfl (fun hg => fb (g rfl) f32_0) ?_
    refine kg rfl rfl rfl (fun hg => lb (go rfl hg) t26 rfl rfl) ?_
    refine kg rfl rfl rfl (fun hg => bn (go rfl hg) gi rfl) ?_
    refine kg rfl rfl rfl (fun hg => orr (go rfl hg) (fun h => (go rfl (by rw [hg, h]; rfl)))) ?_
    refine kg rfl rfl rfl (fun hg => an (go rfl hg) (fun h => (go rfl (by rw [hg, h]; rfl)))) ?_
    refine k (orr (g rfl) (fun h => (go rfl (by rw [h]; rfl)))) ?_
    refine k (asg (g rfl)) ?_
    refine ok_end (ok_then ?_)
    refine ok_cond (g rfl) (fun h2 => ?_) (fun h2 => ?_)
    · refine ok_seq ?_
      refine ok_region rfl ?_
      refine k (asg gb) ?_
      refine ok_end (ok_then ?_)
      exact ok_ret (ok_inBlock_ret (ok_then_ret (ret_tmp rfl rfl (by rw [Mu.right, h1, h2]; rfl))))
    · refine ok_seq ?_
      refine ok_region rfl ?_
      refine k (fb (g rfl) f32_1) ?_
      refine k (lb (g rfl) t27 rfl rfl) ?_
      refine k (bn (g rfl) gi rfl) ?_
      refine k (mv (g rfl)) ?_
      refine kg rfl rfl rfl (fun hg => fb (g rfl) f32_4) ?_
      refine kg rfl rfl rfl (fun hg => lb (go rfl hg) t9 rfl rfl) ?_
      refine kg rfl rfl rfl (fun hg => bn (go rfl hg) gs rfl) ?_
      refine k (an (g rfl) (fun h => (go rfl (by rw [h]; rfl)))) ?_
      refine k (mv (g rfl)) ?_
      refine kg rfl rfl rfl (fun hg => fb (g rfl) f32_4) ?_
      refine kg rfl rfl rfl (fun hg => lb (go rfl hg) t9 rfl rfl) ?_
      refine kg rfl rfl rfl (fun hg => cl (a1 (go rfl hg) rfl a0) (c_runes_Val _)) ?_
      refine kg rfl rfl rfl (fun hg => nt (go rfl hg)) ?_
      refine k (orr (g rfl) (fun h => (go rfl (by rw [h]; rfl)))) ?_
      refine k (asg (g rfl)) ?_
      refine ok_end (ok_then ?_)
      refine ok_cond (g rfl) (fun h3 => ?_) (fun h3 => ?_)
      · refine ok_seq ?_
        refine ok_region rfl ?_
        refine k (asg gb) ?_
        refine ok_end (ok_then ?_)
        exact ok_ret (ok_inBlock_ret (ok_then_ret (ret_tmp rfl rfl (by rw [Mu.right, h1, h2, h3]; rfl))))
      · refine ok_seq ?_
        refine ok_region rfl ?_
        refine k (fb (g rfl) f32_1) ?_
        refine k (lb (g rfl) t27 rfl rfl) ?_
        refine k (bn (g rfl) gi rfl) ?_
        refine k (mv (g rfl)) ?_
        refine kg rfl rfl rfl (fun hg => fb (g rfl) f32_3) ?_
        refine kg rfl rfl rfl (fun hg => lb (go rfl hg) t9 rfl rfl) ?_
        refine kg rfl rfl rfl (fun hg => bn (go rfl hg) gs rfl) ?_
        refine k (an (g rfl) (fun h => (go rfl (by rw [h]; rfl)))) ?_
        refine k (mv (g rfl)) ?_
        refine kg rfl rfl rfl (fun hg => fb (g rfl) f32_1) ?_
        refine kg rfl rfl rfl (fun hg => lb (go rfl hg) t27 rfl rfl) ?_
        refine kg rfl rfl rfl (fun hg => bn (go rfl hg) gi rfl) ?_
        refine kg rfl rfl rfl (fun hg => mv (go rfl hg)) ?_
        refine kg rfl rfl rfl (fun hg => fb (g rfl) f32_3) ?_
        refine kg rfl rfl rfl (fun hg => lb (go rfl hg) t9 rfl rfl) ?_
        refine kg rfl rfl rfl (fun hg => cl (a1 (go rfl hg) rfl a0) (c_runes_Key _)) ?_
        refine kg rfl rfl rfl (fun hg => nt (go rfl hg)) ?_
        refine kg rfl rfl rfl (fun hg => mv (go rfl hg)) ?_
        refine kg rfl rfl rfl (fun hg => fb (g rfl) f32_3) ?_
        refine kg rfl rfl rfl (fun hg => lb (go rfl hg) t9 rfl rfl) ?_
        refine kg rfl rfl rfl (fun hg => fb (g rfl) f32_2) ?_
        refine kg rfl rfl rfl (fun hg => lb (go rfl hg) t9 rfl rfl) ?_
        refine kg rfl rfl rfl (fun hg => bn (go rfl hg) (go rfl hg) rfl) ?_
        refine kg rfl rfl rfl (fun hg => orr (go rfl hg) (fun h => (go rfl (by rw [hg, h]; rfl)))) ?_
        refine kg rfl rfl rfl (fun hg => an (go rfl hg) (fun h => (go rfl (by rw [hg, h]; rfl)))) ?_
        refine k (orr (g rfl) (fun h => (go rfl (by rw [h]; rfl)))) ?_
        refine k (asg (g rfl)) ?_
        refine ok_end (ok_then ?_)
        refine ok_cond (g rfl) (fun h4 => ?_) (fun h4 => ?_)
        · refine ok_seq ?_
          refine ok_region rfl ?_
          refine k (asg gb) ?_
          refine ok_end (ok_then ?_)
          exact ok_ret (ok_inBlock_ret (ok_then_ret (ret_tmp rfl rfl (by rw [Mu.right, h1, h2, h3, h4]; rfl))))
        · refine ok_skip (ok_inBlock_normal (ok_then ?_))
          refine ok_seq ?_
          refine ok_seq ?_
          refine ok_region rfl ?_
          refine k (fb (g rfl) f32_0) ?_
          refine k (lb (g rfl) t26 rfl rfl) ?_
          refine ok_end (ok_then ?_)
          refine ok_block ?_
          refine ok_seq ?_
          refine ok_region rfl ?_
          refine k (bn (g rfl) gi rfl) ?_
          refine k (asg (g rfl)) ?_
          refine ok_end (ok_then ?_)
          refine ok_cond (g rfl) (fun h5 => ?_) (fun h5 => ?_)
          · have h5 : (m.table == 1) = true := h5
            refine ok_seq ?_
            refine ok_region rfl ?_
            refine k (fb (g rfl) f32_7) ?_
            refine k (lb (g rfl) t30 rfl rfl) ?_
            refine k (ln (g rfl) e30) ?_
            refine k (bn (g rfl) gi rfl) ?_
            refine k (mv (g rfl)) ?_
            refine kg rfl rfl rfl (fun hg => fb (g rfl) f32_1) ?_
            refine kg rfl rfl rfl (fun hg => lb (go rfl hg) t27 rfl rfl) ?_
            refine kg rfl rfl rfl (fun hg => bn (go rfl hg) gi rfl) ?_
            refine k (an (g rfl) (fun h => (go rfl (by rw [h]; rfl)))) ?_
            refine k (mv (g rfl)) ?_
            refine kg rfl rfl rfl (fun hg => fb (g rfl) f32_1) ?_
            refine kg rfl rfl rfl (fun hg => lb (go rfl hg) t27 rfl rfl) ?_
            refine kg rfl rfl rfl (fun hg => bn (go rfl hg) gi rfl) ?_
            refine k (an (g rfl) (fun h => (go rfl (by rw [h]; rfl)))) ?_
            refine k (asg (g rfl)) ?_
            refine ok_end (ok_then ?_)
            exact ok_ret (ok_inBlock_ret (ok_then_ret (ret_tmp rfl rfl (by rw [Mu.right, h1, h2, h3, h4, h5, ← List.length_map (f := St.d)]; rfl))))
          · have h5 : (m.table == 1) = false := h5
            refine ok_seq ?_
            refine ok_region rfl ?_
            refine k (bn (g rfl) gi rfl) ?_
            refine k (asg (g rfl)) ?_
            refine ok_end (ok_then ?_)
            refine ok_cond (g rfl) (fun h6 => ?_) (fun h6 => ?_)
            · have h6 : (m.table == 2) = true := h6
              refine ok_seq ?_
              refine ok_region rfl ?_
              refine k (fb (g rfl) f32_1) ?_
              refine k (lb (g rfl) t27 rfl rfl) ?_
              refine k (bn (g rfl) gi rfl) ?_
              refine k (mv (g rfl)) ?_
              refine kg rfl rfl rfl (fun hg => fb (g rfl) f32_1) ?_
              refine kg rfl rfl rfl (fun hg => lb (go rfl hg) t27 rfl rfl) ?_
              refine kg rfl rfl rfl (fun hg => bn (go rfl hg) gi rfl) ?_
              refine k (orr (g rfl) (fun h => (go rfl (by rw [h]; rfl)))) ?_
              refine k (asg (g rfl)) ?_
              refine ok_end (ok_then ?_)
              exact ok_ret (ok_inBlock_ret (ok_then_ret (ret_tmp rfl rfl (by rw [Mu.right, h1, h2, h3, h4, h5, h6]; rfl))))
            · have h6 : (m.table == 2) = false := h6
              refine ok_skip (ok_inBlock_normal (ok_then ?_))
              refine ok_seq ?_
              refine ok_region rfl ?_
              refine k (asg gb) ?_
              refine ok_end (ok_then ?_)
              exact ok_ret (ret_tmp rfl rfl (by rw [Mu.right, h1, h2, h3, h4, h5, h6]; rfl))

set_option maxRecDepth 20000 in
theorem c_trace_Mut (m : Mu) (hm : m.small) : Pure Pr 22 [m.d] (.str (mutS m)) := by
  refine pure_of Tryz.func22 (by kernel_rfl) rfl Tryz.ntmps22 (by simp) fun w μ => ?_
  refine ok_seq ?_
  refine ok_region rfl ?_
  refine kbox (n := 0) (g rfl) rfl rfl ?_
  refine k (asg gs) ?_
  refine ok_end (ok_then ?_)
  refine ok_seq ?_
  refine ok_draw [4, 5, 6, 7, 8, 9, 3] rfl (by kernel_rfl) ?_
  refine dr (lB (g rfl) t32 rfl rfl) ?_
  refine dr (cl (a1 (g rfl) rfl a0) (c_trace_what _)) ?_
  refine dr (ct (g rfl) gs (catOk (mutWord_size _) (one_le _))) ?_
  refine dr (fb (g rfl) f32_2) ?_
  refine dr (lb (g rfl) t9 rfl rfl) ?_
  refine dr (ct (g rfl) (g rfl) (catOk (cat_le (mutWord_size _) (one_le _)) hm.1)) ?_
  refine dr (asg (g rfl)) ?_
  refine draw_end mixed (ok_then ?_)
  refine ok_cutE (fun E0 => (upd 3 (.d (.str (mutS2 m))) (keepB 1 [1] E0))) (fun L0 => L0) ?_ ?_
  · refine ok_seq ?_
    refine ok_region rfl ?_
    refine k (fb (g rfl) f32_1) ?_
    refine k (lb (g rfl) t27 rfl rfl) ?_
    refine k (bn (g rfl) gi rfl) ?_
    refine ok_end (ok_then ?_)
    refine ok_cond (g rfl) (fun h1 => ?_) (fun h1 => ?_)
    · refine ok_region rfl ?_
      refine k (mv (g rfl)) ?_
      refine k (fb (g rfl) f32_3) ?_
      refine k (lb (g rfl) t9 rfl rfl) ?_
      refine k (ct gs (g rfl) (catOk (one_le _) hm.2.1)) ?_
      refine k (ct (g rfl) (g rfl) (catOk (mutS1_size hm) (cat_le (one_le _) hm.2.1))) ?_
      refine k (asg (g rfl)) ?_
      exact ok_end (ok_to 1 (le_upd (by rw [mutS2, h1]; rfl) (le_keep ⟨rfl, trivial⟩)) (eb_upd rfl eb_keep) rfl rfl rfl)
    · exact ok_skip (ok_to 1 (le_upd (by rw [mutS2, h1]; rfl) (le_keep ⟨rfl, trivial⟩)) (eb_upd rfl eb_keep) rfl rfl rfl)
  refine ok_seq ?_
  refine ok_region rfl ?_
  refine k (mv (g rfl)) ?_
  refine k (fb (g rfl) f32_6) ?_
  refine k (lB (g rfl) t29 rfl rfl) ?_
  refine k (cl (a1 (g rfl) rfl a0) (c_nums_Stamp _)) ?_
  refine k (ct gs (g rfl) (catOk (one_le _) (stampS_size _))) ?_
  refine k (ct (g rfl) (g rfl) (catOk (mutS2_size hm) (cat_le (one_le _) (stampS_size _)))) ?_
  refine k (asg (g rfl)) ?_
  refine ok_end (ok_then ?_)
  refine ok_cutE (fun E0 => (upd 3 (.d (.str (mutS m))) (keepB 1 [] E0))) (fun L0 => L0) ?_ ?_
  · refine ok_seq ?_
    refine ok_region rfl ?_
    refine k (fb (g rfl) f32_1) ?_
    refine k (lb (g rfl) t27 rfl rfl) ?_
    refine k (bn (g rfl) gi rfl) ?_
    refine ok_end (ok_then ?_)
    refine ok_cond (g rfl) (fun h2 => ?_) (fun h2 => ?_)
    · refine ok_region rfl ?_
      refine k (mv (g rfl)) ?_
      refine k (fb (g rfl) f32_4) ?_
      refine k (lb (g rfl) t9 rfl rfl) ?_
      refine k (cl (a1 (g rfl) rfl a0) (c_runes_Quote m.val (Nat.le_trans hm.2.2 (by decide)))) ?_
      refine k (ct gs (g rfl) (catOk (one_le _) (quote_le hm.2.2))) ?_
      refine k (ct (g rfl) (g rfl) (catOk (mutS3_size hm) (cat_le (one_le _) (quote_le hm.2.2)))) ?_
      refine k (asg (g rfl)) ?_
      exact ok_end (ok_to 1 (le_upd (by rw [mutS, h2]; rfl) (le_keep trivial)) (eb_upd rfl eb_keep) rfl rfl rfl)
    · exact ok_skip (ok_to 1 (le_upd (by rw [mutS, h2]; rfl) (le_keep trivial)) (eb_upd rfl eb_keep) rfl rfl rfl)
  refine ok_seq ?_
  refine ok_region rfl ?_
  refine k (mv (g rfl)) ?_
  refine k (asg (g rfl)) ?_
  refine ok_end (ok_then ?_)
  exact ok_ret (ret_tmp rfl rfl rfl)
end Go.Aw
