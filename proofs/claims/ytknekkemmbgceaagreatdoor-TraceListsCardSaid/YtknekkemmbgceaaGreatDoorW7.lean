/- Contracts of functions of the program, walked: c_slices_CompareFunc_sStamp_sStamp_Stamp_Stamp, c_mut_Compare. By an AI agent. -/
import Derived.Test.YtknekkemmbgceaaGreatDoorW6
import Derived.Test.YtknekkemmbgceaaGreatDoorSp
set_option linter.all false
/-! W7 -/
namespace Go.Aw
open Go.RowKit Go.Proofs
private theorem e24 : elemF Pr 24 = some (3, 1) := by kernel_rfl
private theorem e30 : elemF Pr 30 = some (29, 3) := by kernel_rfl
private theorem f32_0 : fldF Pr 32 0 = some (0, 1, false) := by kernel_rfl
private theorem f32_1 : fldF Pr 32 1 = some (1, 1, false) := by kernel_rfl
private theorem f32_2 : fldF Pr 32 2 = some (2, 1, false) := by kernel_rfl
private theorem f32_3 : fldF Pr 32 3 = some (3, 1, false) := by kernel_rfl
private theorem f32_4 : fldF Pr 32 4 = some (4, 1, false) := by kernel_rfl
private theorem f32_5 : fldF Pr 32 5 = some (5, 1, false) := by kernel_rfl
private theorem f32_6 : fldF Pr 32 6 = some (6, 3, true) := by kernel_rfl
private theorem f32_7 : fldF Pr 32 7 = some (9, 1, false) := by kernel_rfl
private theorem t26 : tyF Pr 26 = some (1, false) := by kernel_rfl
private theorem t27 : tyF Pr 27 = some (1, false) := by kernel_rfl
private theorem t29 : tyF Pr 29 = some (3, true) := by kernel_rfl
private theorem t3 : tyF Pr 3 = some (1, false) := by kernel_rfl
private theorem t30 : tyF Pr 30 = some (1, false) := by kernel_rfl
private theorem t9 : tyF Pr 9 = some (1, false) := by kernel_rfl
private theorem z3 : ZeroSz Pr 3 1 := ⟨.int .i64 0, fun _ => by kernel_rfl, rfl⟩
private theorem zo29 : ZeroOk Pr 29 [.d (.int .i64 0), .d (.int .i64 0), .d (.int .i64 0)] := ⟨.agg #[.int .i64 0, .int .i64 0, .int .i64 0], fun _ => by kernel_rfl, fun μ ρ => (rcc zi (rcc zi (rcc zi rcn))), by simp [Value.cells, Value.oneCell']⟩
set_option maxRecDepth 20000 in
theorem c_slices_CompareFunc_sStamp_sStamp_Stamp_Stamp (a b : List St) (c : St → St → Int) (gk : FuncId) (hf : ∀ x y, Pure Pr gk [St.d x, St.d y] (I (c x y))) (ha : a.length < 4611686018427387904) : Pure Pr 82 [.list 3 (a.map St.d), .list 3 (b.map St.d), .clo (.func gk) []] (I (cmpF c a b)) := by
  refine pure_of Tryz.func82 (by kernel_rfl) rfl Tryz.ntmps82 (by simp) fun w μ => ?_
  refine ok_seq ?_
  refine ok_region rfl ?_
  refine k (asg gi) ?_
  refine ok_end (ok_then ?_)
  refine ok_seq ?_
  refine ok_seq ?_
  refine ok_region rfl ?_
  refine k (mv (g rfl)) ?_
  refine k (ln (g rfl) e30) ?_
  refine k (mv gi) ?_
  refine ok_end (ok_then ?_)
  refine ok_block ?_
  refine ok_loop (ι := { k : Nat // (k ≤ a.length ∧ k ≤ b.length) ∧ cmpF c a b = cmpF c (a.drop k) (b.drop k) }) 0 (fun i => a.length - i.1) (fun i => (upd 13 (.d (.int .i64 (i.1 : Nat))) (keepB 0 [0, 1, 2, 11, 12] _))) (fun _ => _) ⟨0, ⟨Nat.zero_le _, Nat.zero_le _⟩, rfl⟩ (le_upd rfl le_keep_self) (eb_upd rfl eb_keep) rfl rfl rfl ?_
  rintro ⟨q, ⟨hk1, hk2⟩, hz⟩
  refine ok_seq ?_
  refine ok_region rfl ?_
  refine k (bn (g rfl) (g rfl) rfl) ?_
  refine ok_end (ok_then ?_)
  refine ok_seq ?_
  refine ok_cond (g rfl) (fun h1 => ?_) (fun h1 => ?_)
  · refine ok_skip (ok_then ?_)
    refine ok_seq ?_
    refine ok_block ?_
    refine ok_seq ?_
    refine ok_region rfl ?_
    refine k (mv (g rfl)) ?_
    refine k (ixm (g rfl) (g rfl) e30 (by simp at h1; exact h1)) ?_
    refine k (lR (g rfl) t29 (Nat.le_of_ble_eq_true rfl)) ?_
    refine kal (n := 0) zo29 rfl ?_
    refine k (asg (g rfl)) ?_
    refine kst (g rfl) (g rfl) t29 rfl rfl rfl rfl ?_
    refine ok_end (ok_then ?_)
    refine ok_seq ?_
    refine ok_seq ?_
    refine ok_region rfl ?_
    refine k (mv (g rfl)) ?_
    refine k (mv (g rfl)) ?_
    refine k (ln (g rfl) e30) ?_
    refine k (bn (g rfl) (g rfl) rfl) ?_
    refine ok_end (ok_then ?_)
    refine ok_cond (g rfl) (fun h2 => ?_) (fun h2 => ?_)
    · refine ok_seq ?_
      refine ok_region rfl ?_
      refine k (asg gi) ?_
      refine ok_end (ok_then ?_)
      exact ok_ret (ok_then_ret (ok_inBlock_ret (ok_then_ret (ok_then_ret (ok_inBlock_ret (ok_then_ret (ret_tmp rfl rfl (by simp at h1 h2; rw [cmpF_long h1 h2 hz]; rfl))))))))
    · refine ok_skip (ok_then ?_)
      refine ok_seq ?_
      refine ok_region rfl ?_
      refine k (mv (g rfl)) ?_
      refine k (mv (g rfl)) ?_
      refine k (ixm (g rfl) (g rfl) e30 (by simp at h2; exact h2)) ?_
      refine k (lR (g rfl) t29 (Nat.le_of_ble_eq_true rfl)) ?_
      refine kal (n := 1) zo29 rfl ?_
      refine kst (g rfl) (g rfl) t29 rfl rfl rfl rfl ?_
      refine ok_end (ok_then ?_)
      refine ok_seq ?_
      refine ok_region rfl ?_
      refine k (mv (g rfl)) ?_
      refine k (lB (g rfl) t29 rfl rfl) ?_
      refine k (lB (g rfl) t29 rfl rfl) ?_
      refine k (cv (g rfl) rfl (a1 (g rfl) rfl (a1 (g rfl) rfl a0)) (hf _ _)) ?_
      refine k (asg (g rfl)) ?_
      refine ok_end (ok_then ?_)
      refine ok_seq ?_
      refine ok_region rfl ?_
      refine k (mv (g rfl)) ?_
      refine k (bn (g rfl) gi rfl) ?_
      refine ok_end (ok_then ?_)
      refine ok_cond (g rfl) (fun h3 => ?_) (fun h3 => ?_)
      · refine ok_seq ?_
        refine ok_region rfl ?_
        refine k (mv (g rfl)) ?_
        refine k (asg (g rfl)) ?_
        refine ok_end (ok_then ?_)
        exact ok_ret (ok_inBlock_ret (ok_then_ret (ok_then_ret (ok_inBlock_ret (ok_then_ret (ret_tmp rfl rfl (by simp at h1 h2; exact congrArg (fun n => some (I n)) (cmpF_ne h1 h2 hz (by simpa using h3)).symm)))))))
      · refine ok_skip (ok_inBlock_normal (ok_then ?_))
        refine ok_region rfl ?_
        refine k (bn (g rfl) gi rfl) ?_
        refine k (mv (g rfl)) ?_
        exact ok_end (ok_round 0 ⟨q + 1, ⟨by simp at h1; omega, by simp at h2; omega⟩, cmpF_eq (by simp at h1; exact h1) (by simp at h2; exact h2) hz (by simpa using h3)⟩ (by simp at h1 ⊢; omega) (le_upd (winc (k := q) (by simp at h1; omega)) (le_keep ⟨rfl, rfl, rfl, rfl, rfl, trivial⟩)) (eb_upd rfl eb_keep) rfl rfl rfl)
  · refine ok_exit (ok_then_exit (ok_then_exit (ok_inBlock_exit (ok_then ?_))))
    refine ok_seq ?_
    refine ok_seq ?_
    refine ok_region rfl ?_
    refine k (mv (g rfl)) ?_
    refine k (ln (g rfl) e30) ?_
    refine k (mv (g rfl)) ?_
    refine k (ln (g rfl) e30) ?_
    refine k (bn (g rfl) (g rfl) rfl) ?_
    refine ok_end (ok_then ?_)
    refine ok_cond (g rfl) (fun h4 => ?_) (fun h4 => ?_)
    · refine ok_seq ?_
      refine ok_region rfl ?_
      refine k (asg gi) ?_
      refine ok_end (ok_then ?_)
      exact ok_ret (ok_then_ret (ret_tmp rfl rfl (by simp at h1 h4; rw [cmpF_less h1 (by omega) hz]; rfl)))
    · refine ok_skip (ok_then ?_)
      refine ok_seq ?_
      refine ok_region rfl ?_
      refine k (asg gi) ?_
      refine ok_end (ok_then ?_)
      exact ok_ret (ret_tmp rfl rfl (by simp at h1 h4; rw [cmpF_same h1 (by omega) hz]; rfl))

set_option maxRecDepth 20000 in
theorem c_mut_Compare (a b : Mu) (ha : a.over.length < 4611686018427387904) : Pure Pr 61 [a.d, b.d] (I (Mu.cmp a b)) := by
  refine pure_of Tryz.func61 (by kernel_rfl) rfl Tryz.ntmps61 (by simp) fun w μ => ?_
  refine ok_seq ?_
  refine ok_region rfl ?_
  refine kbox (n := 0) (g rfl) rfl rfl ?_
  refine kbox (n := 1) (g rfl) rfl rfl ?_
  refine k (asg gi) ?_
  refine ok_end (ok_then ?_)
  refine ok_seq ?_
  refine ok_draw [5, 6, 7, 8, 9, 10, 11, 12, 13, 14, 15, 16, 17, 18, 19, 20, 21, 22, 23, 24, 25, 26, 27, 28, 29, 30, 31, 32, 33, 34, 35, 36, 37, 38, 39, 40, 41, 42, 43, 44, 45, 46, 4] rfl (by kernel_rfl) ?_
  refine dr (fb (g rfl) f32_6) ?_
  refine dr (lB (g rfl) t29 rfl rfl) ?_
  refine dr (fb (g rfl) f32_6) ?_
  refine dr (lB (g rfl) t29 rfl rfl) ?_
  refine dr (cl (a1 (g rfl) rfl (a1 (g rfl) rfl a0)) (c_stamp_Compare _ _)) ?_
  refine dr (fb (g rfl) f32_0) ?_
  refine dr (lb (g rfl) t26 rfl rfl) ?_
  refine dr (fb (g rfl) f32_0) ?_
  refine dr (lb (g rfl) t26 rfl rfl) ?_
  refine dr (cl (a1 (g rfl) rfl (a1 (g rfl) rfl a0)) (c_cmp_Compare_Table _ _)) ?_
  refine dr (fb (g rfl) f32_1) ?_
  refine dr (lb (g rfl) t27 rfl rfl) ?_
  refine dr (fb (g rfl) f32_1) ?_
  refine dr (lb (g rfl) t27 rfl rfl) ?_
  refine dr (cl (a1 (g rfl) rfl (a1 (g rfl) rfl a0)) (c_cmp_Compare_Kind _ _)) ?_
  refine dr (fb (g rfl) f32_2) ?_
  refine dr (lb (g rfl) t9 rfl rfl) ?_
  refine dr (fb (g rfl) f32_2) ?_
  refine dr (lb (g rfl) t9 rfl rfl) ?_
  refine dr (cl (a1 (g rfl) rfl (a1 (g rfl) rfl a0)) (c_cmp_Compare_string _ _)) ?_
  refine dr (fb (g rfl) f32_3) ?_
  refine dr (lb (g rfl) t9 rfl rfl) ?_
  refine dr (fb (g rfl) f32_3) ?_
  refine dr (lb (g rfl) t9 rfl rfl) ?_
  refine dr (cl (a1 (g rfl) rfl (a1 (g rfl) rfl a0)) (c_cmp_Compare_string _ _)) ?_
  refine dr (fb (g rfl) f32_4) ?_
  refine dr (lb (g rfl) t9 rfl rfl) ?_
  refine dr (fb (g rfl) f32_4) ?_
  refine dr (lb (g rfl) t9 rfl rfl) ?_
  refine dr (cl (a1 (g rfl) rfl (a1 (g rfl) rfl a0)) (c_cmp_Compare_string _ _)) ?_
  refine dr (fb (g rfl) f32_5) ?_
  refine dr (lb (g rfl) t3 rfl rfl) ?_
  refine dr (fb (g rfl) f32_5) ?_
  refine dr (lb (g rfl) t3 rfl rfl) ?_
  refine dr (cl (a1 (g rfl) rfl (a1 (g rfl) rfl a0)) (c_cmp_Compare_int _ _)) ?_
  refine dr (fb (g rfl) f32_7) ?_
  refine dr (lb (g rfl) t30 rfl rfl) ?_
  refine dr (fb (g rfl) f32_7) ?_
  refine dr (lb (g rfl) t30 rfl rfl) ?_
  refine dr (cl (a1 (g rfl) rfl (a1 (g rfl) rfl (a1 gf rfl a0))) (c_slices_CompareFunc_sStamp_sStamp_Stamp_Stamp a.over b.over St.cmp 78 c_stamp_Compare ha)) ?_
  refine dr (mk e24 z3 (p1 (g rfl) rfl (p1 (g rfl) rfl (p1 (g rfl) rfl (p1 (g rfl) rfl (p1 (g rfl) rfl (p1 (g rfl) rfl (p1 (g rfl) rfl (p1 (g rfl) rfl p0)))))))) rfl rfl rfl rfl rfl) ?_
  refine dr (cl (a1 (g rfl) rfl a0) (c_cmp_Or_int [St.cmp a.at_ b.at_, cmpI a.table b.table, cmpI a.kind b.kind, cmpS a.key b.key, cmpS a.end_ b.end_, cmpS a.val b.val, cmpI a.expiry b.expiry, cmpF St.cmp a.over b.over] (by simp))) ?_
  refine dr (asg (g rfl)) ?_
  refine draw_end mixed (ok_then ?_)
  exact ok_ret (ret_tmp rfl rfl rfl)
end Go.Aw
