/- Contracts of functions of the program, walked: c_cmp_Or_int, c_stamp_Compare, c_stamp_Less. By an AI agent. -/
import Derived.Test.YtknekkemmbgceaaGreatDoorW1
import Derived.Test.YtknekkemmbgceaaGreatDoorSp
set_option linter.all false
/-! W5 -/
namespace Go.Aw
open Go.RowKit Go.Proofs
private theorem e24 : elemF Pr 24 = some (3, 1) := by kernel_rfl
private theorem f29_0 : fldF Pr 29 0 = some (0, 1, false) := by kernel_rfl
private theorem f29_1 : fldF Pr 29 1 = some (1, 1, false) := by kernel_rfl
private theorem f29_2 : fldF Pr 29 2 = some (2, 1, false) := by kernel_rfl
private theorem t29 : tyF Pr 29 = some (3, true) := by kernel_rfl
private theorem t3 : tyF Pr 3 = some (1, false) := by kernel_rfl
private theorem z3 : ZeroSz Pr 3 1 := ⟨.int .i64 0, fun _ => by kernel_rfl, rfl⟩
set_option maxRecDepth 20000 in
theorem c_cmp_Or_int (l : List Int) (hl : l.length < 4611686018427387904) : Pure Pr 71 [.list 1 (l.map I)] (I (orI l)) := by
  refine pure_of Tryz.func71 (by kernel_rfl) rfl Tryz.ntmps71 (by simp) fun w μ => ?_
  refine ok_seq ?_
  refine ok_region rfl ?_
  refine k (asg gi) ?_
  refine ok_end (ok_then ?_)
  refine ok_seq ?_
  refine ok_region rfl ?_
  refine k (asg gi) ?_
  refine ok_end (ok_then ?_)
  refine ok_seq ?_
  refine ok_seq ?_
  refine ok_region rfl ?_
  refine k (mv (g rfl)) ?_
  refine k (ln (g rfl) e24) ?_
  refine k (mv gi) ?_
  refine ok_end (ok_then ?_)
  refine ok_block ?_
  refine ok_loop (ι := { k : Nat // k ≤ l.length ∧ ∀ j, j < k → l[j]? = some 0 }) 0 (fun i => l.length - i.1) (fun i => (upd 8 (.d (.int .i64 (i.1 : Nat))) (keepB 0 [3, 6, 7] _))) (fun _ => _) ⟨0, Nat.zero_le _, fun j h => absurd h (Nat.not_lt_zero j)⟩ (le_upd rfl le_keep_self) (eb_upd rfl eb_keep) rfl rfl rfl ?_
  rintro ⟨q, hk, hz⟩
  refine ok_seq ?_
  refine ok_region rfl ?_
  refine k (bn (g rfl) (g rfl) rfl) ?_
  refine ok_end (ok_then ?_)
  refine ok_seq ?_
  refine ok_cond (g rfl) (fun h1 => ?_) (fun h1 => ?_)
  · refine ok_skip (ok_then ?_)
    refine ok_seq ?_
    refine ok_block ?_
    refine ok_seq ?_
    refine ok_region rfl ?_
    refine k (ixm (g rfl) (g rfl) e24 (by simp at h1; exact h1)) ?_
    refine k (lr (g rfl) t3 rfl) ?_
    refine k (asg (g rfl)) ?_
    refine ok_end (ok_then ?_)
    refine ok_seq ?_
    refine ok_region rfl ?_
    refine k (mv (g rfl)) ?_
    refine k (mv (g rfl)) ?_
    refine k (bn (g rfl) (g rfl) rfl) ?_
    refine ok_end (ok_then ?_)
    refine ok_cond (g rfl) (fun h2 => ?_) (fun h2 => ?_)
    · refine ok_seq ?_
      refine ok_region rfl ?_
      refine k (mv (g rfl)) ?_
      refine k (asg (g rfl)) ?_
      refine ok_end (ok_then ?_)
      exact ok_ret (ok_inBlock_ret (ok_then_ret (ok_then_ret (ok_inBlock_ret (ok_then_ret (ret_tmp rfl rfl (by simp at h1; rw [orI_at h1 hz (by simpa using h2)]; rfl)))))))
    · refine ok_skip (ok_inBlock_normal (ok_then ?_))
      refine ok_region rfl ?_
      refine k (bn (g rfl) gi rfl) ?_
      refine k (mv (g rfl)) ?_
      exact ok_end (ok_round 0 ⟨q + 1, by simp at h1; omega, ostep hz (by simp at h1; exact h1) (by simpa using h2)⟩ (by simp at h1 ⊢; omega) (le_upd (winc (k := q) (by omega)) (le_keep ⟨rfl, rfl, rfl, trivial⟩)) (eb_upd rfl eb_keep) rfl rfl rfl)
  · refine ok_exit (ok_then_exit (ok_then_exit (ok_inBlock_exit (ok_then ?_))))
    refine ok_seq ?_
    refine ok_region rfl ?_
    refine k (mv (g rfl)) ?_
    refine k (asg (g rfl)) ?_
    refine ok_end (ok_then ?_)
    exact ok_ret (ret_tmp rfl rfl (by rw [orI_zero fun j hj => hz j (by simp at h1; omega)]; rfl))

set_option maxRecDepth 20000 in
theorem c_stamp_Compare (a b : St) : Pure Pr 78 [a.d, b.d] (I (St.cmp a b)) := by
  refine pure_of Tryz.func78 (by kernel_rfl) rfl Tryz.ntmps78 (by simp) fun w μ => ?_
  refine ok_seq ?_
  refine ok_region rfl ?_
  refine kbox (n := 0) (g rfl) rfl rfl ?_
  refine kbox (n := 1) (g rfl) rfl rfl ?_
  refine k (asg gi) ?_
  refine ok_end (ok_then ?_)
  refine ok_seq ?_
  refine ok_draw [5, 6, 7, 8, 9, 10, 11, 12, 13, 14, 15, 16, 17, 18, 19, 20, 21, 4] rfl (by kernel_rfl) ?_
  refine dr (fb (g rfl) f29_0) ?_
  refine dr (lb (g rfl) t3 rfl rfl) ?_
  refine dr (fb (g rfl) f29_0) ?_
  refine dr (lb (g rfl) t3 rfl rfl) ?_
  refine dr (cl (a1 (g rfl) rfl (a1 (g rfl) rfl a0)) (c_cmp_Compare_int _ _)) ?_
  refine dr (fb (g rfl) f29_1) ?_
  refine dr (lb (g rfl) t3 rfl rfl) ?_
  refine dr (fb (g rfl) f29_1) ?_
  refine dr (lb (g rfl) t3 rfl rfl) ?_
  refine dr (cl (a1 (g rfl) rfl (a1 (g rfl) rfl a0)) (c_cmp_Compare_int _ _)) ?_
  refine dr (fb (g rfl) f29_2) ?_
  refine dr (lb (g rfl) t3 rfl rfl) ?_
  refine dr (fb (g rfl) f29_2) ?_
  refine dr (lb (g rfl) t3 rfl rfl) ?_
  refine dr (cl (a1 (g rfl) rfl (a1 (g rfl) rfl a0)) (c_cmp_Compare_int _ _)) ?_
  refine dr (mk e24 z3 (p1 (g rfl) rfl (p1 (g rfl) rfl (p1 (g rfl) rfl p0))) rfl rfl rfl rfl rfl) ?_
  refine dr (cl (a1 (g rfl) rfl a0) (c_cmp_Or_int [cmpI a.phys b.phys, cmpI a.logic b.logic, cmpI a.who b.who] (by simp))) ?_
  refine dr (asg (g rfl)) ?_
  refine draw_end mixed (ok_then ?_)
  exact ok_ret (ret_tmp rfl rfl rfl)

set_option maxRecDepth 20000 in
theorem c_stamp_Less (a b : St) : Pure Pr 64 [a.d, b.d] (.bool (St.lt a b)) := by
  refine pure_of Tryz.func64 (by kernel_rfl) rfl Tryz.ntmps64 (by simp) fun w μ => ?_
  refine ok_seq ?_
  refine ok_region rfl ?_
  refine kbox (n := 0) (g rfl) rfl rfl ?_
  refine kbox (n := 1) (g rfl) rfl rfl ?_
  refine k (asg gb) ?_
  refine ok_end (ok_then ?_)
  refine ok_seq ?_
  refine ok_region rfl ?_
  refine k (lB (g rfl) t29 rfl rfl) ?_
  refine k (lB (g rfl) t29 rfl rfl) ?_
  refine k (cl (a1 (g rfl) rfl (a1 (g rfl) rfl a0)) (c_stamp_Compare _ _)) ?_
  refine k (bn (g rfl) gi rfl) ?_
  refine k (asg (g rfl)) ?_
  refine ok_end (ok_then ?_)
  exact ok_ret (ret_tmp rfl rfl rfl)
end Go.Aw
