/- Contracts of functions of the program, walked: c_cmp_isNaN_int, c_cmp_Compare_int, c_cmp_isNaN_Table, c_cmp_Compare_Table, c_cmp_isNaN_Kind, c_cmp_Compare_Kind, c_cmp_isNaN_string, c_cmp_Compare_string. By an AI agent. -/
import Derived.Test.YtknekkemmbgceaaGreatDoorSp
set_option linter.all false
/-! W1 -/
namespace Go.Aw
open Go.RowKit Go.Proofs

set_option maxRecDepth 20000 in
theorem c_cmp_isNaN_int (a : Int) : Pure Pr 101 [I a] (.bool false) := by
  refine pure_of Tryz.func101 (by kernel_rfl) rfl Tryz.ntmps101 (by simp) fun w μ => ?_
  refine ok_seq ?_
  refine ok_region rfl ?_
  refine k (asg gb) ?_
  refine ok_end (ok_then ?_)
  refine ok_seq ?_
  refine ok_region rfl ?_
  refine k (mv (g rfl)) ?_
  refine k (mv (g rfl)) ?_
  refine k (bn (g rfl) (g rfl) rfl) ?_
  refine k (asg (g rfl)) ?_
  refine ok_end (ok_then ?_)
  exact ok_ret (ret_tmp rfl rfl (by simp [AV.toD]))

set_option maxRecDepth 20000 in
theorem c_cmp_Compare_int (a b : Int) : Pure Pr 81 [I a, I b] (I (cmpI a b)) := by
  refine pure_of Tryz.func81 (by kernel_rfl) rfl Tryz.ntmps81 (by simp) fun w μ => ?_
  refine ok_seq ?_
  refine ok_region rfl ?_
  refine k (asg gi) ?_
  refine ok_end (ok_then ?_)
  refine ok_seq ?_
  refine ok_region rfl ?_
  refine k (mv (g rfl)) ?_
  refine k (cl (a1 (g rfl) rfl a0) (c_cmp_isNaN_int _)) ?_
  refine k (asg (g rfl)) ?_
  refine ok_end (ok_then ?_)
  refine ok_seq ?_
  refine ok_region rfl ?_
  refine k (mv (g rfl)) ?_
  refine k (cl (a1 (g rfl) rfl a0) (c_cmp_isNaN_int _)) ?_
  refine k (asg (g rfl)) ?_
  refine ok_end (ok_then ?_)
  refine ok_seq ?_
  refine ok_seq ?_
  refine ok_region rfl ?_
  refine k (mv (g rfl)) ?_
  refine ok_end (ok_then ?_)
  refine ok_cond (g rfl) (fun h1 => ?_) (fun h1 => ?_)
  · refine ok_seq ?_
    refine ok_seq ?_
    refine ok_region rfl ?_
    refine k (mv (g rfl)) ?_
    refine ok_end (ok_then ?_)
    refine ok_cond (g rfl) (fun h2 => ?_) (fun h2 => ?_)
    · refine ok_seq ?_
      refine ok_region rfl ?_
      refine k (asg gi) ?_
      refine ok_end (ok_then ?_)
      exact ok_ret (ok_then_ret (ok_then_ret (ret_tmp rfl rfl (by simp_all [AV.toD, cmpI, I] <;> omega))))
    · refine ok_skip (ok_then ?_)
      refine ok_seq ?_
      refine ok_region rfl ?_
      refine k (asg gi) ?_
      refine ok_end (ok_then ?_)
      exact ok_ret (ok_then_ret (ret_tmp rfl rfl (by simp_all [AV.toD, cmpI, I] <;> omega)))
  · refine ok_skip (ok_then ?_)
    refine ok_seq ?_
    refine ok_seq ?_
    refine ok_region rfl ?_
    refine k (mv (g rfl)) ?_
    refine ok_end (ok_then ?_)
    refine ok_cond (g rfl) (fun h3 => ?_) (fun h3 => ?_)
    · refine ok_seq ?_
      refine ok_region rfl ?_
      refine k (asg gi) ?_
      refine ok_end (ok_then ?_)
      exact ok_ret (ok_then_ret (ret_tmp rfl rfl (by simp_all [AV.toD, cmpI, I] <;> omega)))
    · refine ok_skip (ok_then ?_)
      refine ok_seq ?_
      refine ok_seq ?_
      refine ok_region rfl ?_
      refine k (mv (g rfl)) ?_
      refine k (mv (g rfl)) ?_
      refine k (bn (g rfl) (g rfl) rfl) ?_
      refine ok_end (ok_then ?_)
      refine ok_cond (g rfl) (fun h4 => ?_) (fun h4 => ?_)
      · refine ok_seq ?_
        refine ok_region rfl ?_
        refine k (asg gi) ?_
        refine ok_end (ok_then ?_)
        exact ok_ret (ok_then_ret (ret_tmp rfl rfl (by simp_all [AV.toD, cmpI, I] <;> omega)))
      · refine ok_skip (ok_then ?_)
        refine ok_seq ?_
        refine ok_seq ?_
        refine ok_region rfl ?_
        refine k (mv (g rfl)) ?_
        refine k (mv (g rfl)) ?_
        refine k (bn (g rfl) (g rfl) rfl) ?_
        refine ok_end (ok_then ?_)
        refine ok_cond (g rfl) (fun h5 => ?_) (fun h5 => ?_)
        · refine ok_seq ?_
          refine ok_region rfl ?_
          refine k (asg gi) ?_
          refine ok_end (ok_then ?_)
          exact ok_ret (ok_then_ret (ret_tmp rfl rfl (by simp_all [AV.toD, cmpI, I] <;> omega)))
        · refine ok_skip (ok_then ?_)
          refine ok_seq ?_
          refine ok_region rfl ?_
          refine k (asg gi) ?_
          refine ok_end (ok_then ?_)
          exact ok_ret (ret_tmp rfl rfl (by simp_all [AV.toD, cmpI, I] <;> omega))

set_option maxRecDepth 20000 in
theorem c_cmp_isNaN_Table (a : Int) : Pure Pr 99 [I a] (.bool false) := by
  refine pure_of Tryz.func99 (by kernel_rfl) rfl Tryz.ntmps99 (by simp) fun w μ => ?_
  refine ok_seq ?_
  refine ok_region rfl ?_
  refine k (asg gb) ?_
  refine ok_end (ok_then ?_)
  refine ok_seq ?_
  refine ok_region rfl ?_
  refine k (mv (g rfl)) ?_
  refine k (mv (g rfl)) ?_
  refine k (bn (g rfl) (g rfl) rfl) ?_
  refine k (asg (g rfl)) ?_
  refine ok_end (ok_then ?_)
  exact ok_ret (ret_tmp rfl rfl (by simp [AV.toD]))

set_option maxRecDepth 20000 in
theorem c_cmp_Compare_Table (a b : Int) : Pure Pr 79 [I a, I b] (I (cmpI a b)) := by
  refine pure_of Tryz.func79 (by kernel_rfl) rfl Tryz.ntmps79 (by simp) fun w μ => ?_
  refine ok_seq ?_
  refine ok_region rfl ?_
  refine k (asg gi) ?_
  refine ok_end (ok_then ?_)
  refine ok_seq ?_
  refine ok_region rfl ?_
  refine k (mv (g rfl)) ?_
  refine k (cl (a1 (g rfl) rfl a0) (c_cmp_isNaN_Table _)) ?_
  refine k (asg (g rfl)) ?_
  refine ok_end (ok_then ?_)
  refine ok_seq ?_
  refine ok_region rfl ?_
  refine k (mv (g rfl)) ?_
  refine k (cl (a1 (g rfl) rfl a0) (c_cmp_isNaN_Table _)) ?_
  refine k (asg (g rfl)) ?_
  refine ok_end (ok_then ?_)
  refine ok_seq ?_
  refine ok_seq ?_
  refine ok_region rfl ?_
  refine k (mv (g rfl)) ?_
  refine ok_end (ok_then ?_)
  refine ok_cond (g rfl) (fun h1 => ?_) (fun h1 => ?_)
  · refine ok_seq ?_
    refine ok_seq ?_
    refine ok_region rfl ?_
    refine k (mv (g rfl)) ?_
    refine ok_end (ok_then ?_)
    refine ok_cond (g rfl) (fun h2 => ?_) (fun h2 => ?_)
    · refine ok_seq ?_
      refine ok_region rfl ?_
      refine k (asg gi) ?_
      refine ok_end (ok_then ?_)
      exact ok_ret (ok_then_ret (ok_then_ret (ret_tmp rfl rfl (by simp_all [AV.toD, cmpI, I] <;> omega))))
    · refine ok_skip (ok_then ?_)
      refine ok_seq ?_
      refine ok_region rfl ?_
      refine k (asg gi) ?_
      refine ok_end (ok_then ?_)
      exact ok_ret (ok_then_ret (ret_tmp rfl rfl (by simp_all [AV.toD, cmpI, I] <;> omega)))
  · refine ok_skip (ok_then ?_)
    refine ok_seq ?_
    refine ok_seq ?_
    refine ok_region rfl ?_
    refine k (mv (g rfl)) ?_
    refine ok_end (ok_then ?_)
    refine ok_cond (g rfl) (fun h3 => ?_) (fun h3 => ?_)
    · refine ok_seq ?_
      refine ok_region rfl ?_
      refine k (asg gi) ?_
      refine ok_end (ok_then ?_)
      exact ok_ret (ok_then_ret (ret_tmp rfl rfl (by simp_all [AV.toD, cmpI, I] <;> omega)))
    · refine ok_skip (ok_then ?_)
      refine ok_seq ?_
      refine ok_seq ?_
      refine ok_region rfl ?_
      refine k (mv (g rfl)) ?_
      refine k (mv (g rfl)) ?_
      refine k (bn (g rfl) (g rfl) rfl) ?_
      refine ok_end (ok_then ?_)
      refine ok_cond (g rfl) (fun h4 => ?_) (fun h4 => ?_)
      · refine ok_seq ?_
        refine ok_region rfl ?_
        refine k (asg gi) ?_
        refine ok_end (ok_then ?_)
        exact ok_ret (ok_then_ret (ret_tmp rfl rfl (by simp_all [AV.toD, cmpI, I] <;> omega)))
      · refine ok_skip (ok_then ?_)
        refine ok_seq ?_
        refine ok_seq ?_
        refine ok_region rfl ?_
        refine k (mv (g rfl)) ?_
        refine k (mv (g rfl)) ?_
        refine k (bn (g rfl) (g rfl) rfl) ?_
        refine ok_end (ok_then ?_)
        refine ok_cond (g rfl) (fun h5 => ?_) (fun h5 => ?_)
        · refine ok_seq ?_
          refine ok_region rfl ?_
          refine k (asg gi) ?_
          refine ok_end (ok_then ?_)
          exact ok_ret (ok_then_ret (ret_tmp rfl rfl (by simp_all [AV.toD, cmpI, I] <;> omega)))
        · refine ok_skip (ok_then ?_)
          refine ok_seq ?_
          refine ok_region rfl ?_
          refine k (asg gi) ?_
          refine ok_end (ok_then ?_)
          exact ok_ret (ret_tmp rfl rfl (by simp_all [AV.toD, cmpI, I] <;> omega))

set_option maxRecDepth 20000 in
theorem c_cmp_isNaN_Kind (a : Int) : Pure Pr 100 [I a] (.bool false) := by
  refine pure_of Tryz.func100 (by kernel_rfl) rfl Tryz.ntmps100 (by simp) fun w μ => ?_
  refine ok_seq ?_
  refine ok_region rfl ?_
  refine k (asg gb) ?_
  refine ok_end (ok_then ?_)
  refine ok_seq ?_
  refine ok_region rfl ?_
  refine k (mv (g rfl)) ?_
  refine k (mv (g rfl)) ?_
  refine k (bn (g rfl) (g rfl) rfl) ?_
  refine k (asg (g rfl)) ?_
  refine ok_end (ok_then ?_)
  exact ok_ret (ret_tmp rfl rfl (by simp [AV.toD]))

set_option maxRecDepth 20000 in
theorem c_cmp_Compare_Kind (a b : Int) : Pure Pr 80 [I a, I b] (I (cmpI a b)) := by
  refine pure_of Tryz.func80 (by kernel_rfl) rfl Tryz.ntmps80 (by simp) fun w μ => ?_
  refine ok_seq ?_
  refine ok_region rfl ?_
  refine k (asg gi) ?_
  refine ok_end (ok_then ?_)
  refine ok_seq ?_
  refine ok_region rfl ?_
  refine k (mv (g rfl)) ?_
  refine k (cl (a1 (g rfl) rfl a0) (c_cmp_isNaN_Kind _)) ?_
  refine k (asg (g rfl)) ?_
  refine ok_end (ok_then ?_)
  refine ok_seq ?_
  refine ok_region rfl ?_
  refine k (mv (g rfl)) ?_
  refine k (cl (a1 (g rfl) rfl a0) (c_cmp_isNaN_Kind _)) ?_
  refine k (asg (g rfl)) ?_
  refine ok_end (ok_then ?_)
  refine ok_seq ?_
  refine ok_seq ?_
  refine ok_region rfl ?_
  refine k (mv (g rfl)) ?_
  refine ok_end (ok_then ?_)
  refine ok_cond (g rfl) (fun h1 => ?_) (fun h1 => ?_)
  · refine ok_seq ?_
    refine ok_seq ?_
    refine ok_region rfl ?_
    refine k (mv (g rfl)) ?_
    refine ok_end (ok_then ?_)
    refine ok_cond (g rfl) (fun h2 => ?_) (fun h2 => ?_)
    · refine ok_seq ?_
      refine ok_region rfl ?_
      refine k (asg gi) ?_
      refine ok_end (ok_then ?_)
      exact ok_ret (ok_then_ret (ok_then_ret (ret_tmp rfl rfl (by simp_all [AV.toD, cmpI, I] <;> omega))))
    · refine ok_skip (ok_then ?_)
      refine ok_seq ?_
      refine ok_region rfl ?_
      refine k (asg gi) ?_
      refine ok_end (ok_then ?_)
      exact ok_ret (ok_then_ret (ret_tmp rfl rfl (by simp_all [AV.toD, cmpI, I] <;> omega)))
  · refine ok_skip (ok_then ?_)
    refine ok_seq ?_
    refine ok_seq ?_
    refine ok_region rfl ?_
    refine k (mv (g rfl)) ?_
    refine ok_end (ok_then ?_)
    refine ok_cond (g rfl) (fun h3 => ?_) (fun h3 => ?_)
    · refine ok_seq ?_
      refine ok_region rfl ?_
      refine k (asg gi) ?_
      refine ok_end (ok_then ?_)
      exact ok_ret (ok_then_ret (ret_tmp rfl rfl (by simp_all [AV.toD, cmpI, I] <;> omega)))
    · refine ok_skip (ok_then ?_)
      refine ok_seq ?_
      refine ok_seq ?_
      refine ok_region rfl ?_
      refine k (mv (g rfl)) ?_
      refine k (mv (g rfl)) ?_
      refine k (bn (g rfl) (g rfl) rfl) ?_
      refine ok_end (ok_then ?_)
      refine ok_cond (g rfl) (fun h4 => ?_) (fun h4 => ?_)
      · refine ok_seq ?_
        refine ok_region rfl ?_
        refine k (asg gi) ?_
        refine ok_end (ok_then ?_)
        exact ok_ret (ok_then_ret (ret_tmp rfl rfl (by simp_all [AV.toD, cmpI, I] <;> omega)))
      · refine ok_skip (ok_then ?_)
        refine ok_seq ?_
        refine ok_seq ?_
        refine ok_region rfl ?_
        refine k (mv (g rfl)) ?_
        refine k (mv (g rfl)) ?_
        refine k (bn (g rfl) (g rfl) rfl) ?_
        refine ok_end (ok_then ?_)
        refine ok_cond (g rfl) (fun h5 => ?_) (fun h5 => ?_)
        · refine ok_seq ?_
          refine ok_region rfl ?_
          refine k (asg gi) ?_
          refine ok_end (ok_then ?_)
          exact ok_ret (ok_then_ret (ret_tmp rfl rfl (by simp_all [AV.toD, cmpI, I] <;> omega)))
        · refine ok_skip (ok_then ?_)
          refine ok_seq ?_
          refine ok_region rfl ?_
          refine k (asg gi) ?_
          refine ok_end (ok_then ?_)
          exact ok_ret (ret_tmp rfl rfl (by simp_all [AV.toD, cmpI, I] <;> omega))

set_option maxRecDepth 20000 in
theorem c_cmp_isNaN_string (a : ByteArray) : Pure Pr 87 [.str a] (.bool false) := by
  refine pure_of Tryz.func87 (by kernel_rfl) rfl Tryz.ntmps87 (by simp) fun w μ => ?_
  refine ok_seq ?_
  refine ok_region rfl ?_
  refine k (asg gb) ?_
  refine ok_end (ok_then ?_)
  refine ok_seq ?_
  refine ok_region rfl ?_
  refine k (mv (g rfl)) ?_
  refine k (mv (g rfl)) ?_
  refine k (bn (g rfl) (g rfl) rfl) ?_
  refine k (asg (g rfl)) ?_
  refine ok_end (ok_then ?_)
  exact ok_ret (ret_tmp rfl rfl (by simp [AV.toD, sEq_refl]))

set_option maxRecDepth 20000 in
theorem c_cmp_Compare_string (a b : ByteArray) : Pure Pr 72 [.str a, .str b] (I (cmpS a b)) := by
  refine pure_of Tryz.func72 (by kernel_rfl) rfl Tryz.ntmps72 (by simp) fun w μ => ?_
  refine ok_seq ?_
  refine ok_region rfl ?_
  refine k (asg gi) ?_
  refine ok_end (ok_then ?_)
  refine ok_seq ?_
  refine ok_region rfl ?_
  refine k (mv (g rfl)) ?_
  refine k (cl (a1 (g rfl) rfl a0) (c_cmp_isNaN_string _)) ?_
  refine k (asg (g rfl)) ?_
  refine ok_end (ok_then ?_)
  refine ok_seq ?_
  refine ok_region rfl ?_
  refine k (mv (g rfl)) ?_
  refine k (cl (a1 (g rfl) rfl a0) (c_cmp_isNaN_string _)) ?_
  refine k (asg (g rfl)) ?_
  refine ok_end (ok_then ?_)
  refine ok_seq ?_
  refine ok_seq ?_
  refine ok_region rfl ?_
  refine k (mv (g rfl)) ?_
  refine ok_end (ok_then ?_)
  refine ok_cond (g rfl) (fun h1 => ?_) (fun h1 => ?_)
  · refine ok_seq ?_
    refine ok_seq ?_
    refine ok_region rfl ?_
    refine k (mv (g rfl)) ?_
    refine ok_end (ok_then ?_)
    refine ok_cond (g rfl) (fun h2 => ?_) (fun h2 => ?_)
    · refine ok_seq ?_
      refine ok_region rfl ?_
      refine k (asg gi) ?_
      refine ok_end (ok_then ?_)
      exact ok_ret (ok_then_ret (ok_then_ret (ret_tmp rfl rfl (by simp_all [AV.toD, cmpS, I]))))
    · refine ok_skip (ok_then ?_)
      refine ok_seq ?_
      refine ok_region rfl ?_
      refine k (asg gi) ?_
      refine ok_end (ok_then ?_)
      exact ok_ret (ok_then_ret (ret_tmp rfl rfl (by simp_all [AV.toD, cmpS, I])))
  · refine ok_skip (ok_then ?_)
    refine ok_seq ?_
    refine ok_seq ?_
    refine ok_region rfl ?_
    refine k (mv (g rfl)) ?_
    refine ok_end (ok_then ?_)
    refine ok_cond (g rfl) (fun h3 => ?_) (fun h3 => ?_)
    · refine ok_seq ?_
      refine ok_region rfl ?_
      refine k (asg gi) ?_
      refine ok_end (ok_then ?_)
      exact ok_ret (ok_then_ret (ret_tmp rfl rfl (by simp_all [AV.toD, cmpS, I])))
    · refine ok_skip (ok_then ?_)
      refine ok_seq ?_
      refine ok_seq ?_
      refine ok_region rfl ?_
      refine k (mv (g rfl)) ?_
      refine k (mv (g rfl)) ?_
      refine k (bn (g rfl) (g rfl) rfl) ?_
      refine ok_end (ok_then ?_)
      refine ok_cond (g rfl) (fun h4 => ?_) (fun h4 => ?_)
      · refine ok_seq ?_
        refine ok_region rfl ?_
        refine k (asg gi) ?_
        refine ok_end (ok_then ?_)
        exact ok_ret (ok_then_ret (ret_tmp rfl rfl (by simp_all [AV.toD, cmpS, I])))
      · refine ok_skip (ok_then ?_)
        refine ok_seq ?_
        refine ok_seq ?_
        refine ok_region rfl ?_
        refine k (mv (g rfl)) ?_
        refine k (mv (g rfl)) ?_
        refine k (bn (g rfl) (g rfl) rfl) ?_
        refine ok_end (ok_then ?_)
        refine ok_cond (g rfl) (fun h5 => ?_) (fun h5 => ?_)
        · refine ok_seq ?_
          refine ok_region rfl ?_
          refine k (asg gi) ?_
          refine ok_end (ok_then ?_)
          exact ok_ret (ok_then_ret (ret_tmp rfl rfl (by simp_all [AV.toD, cmpS, I])))
        · refine ok_skip (ok_then ?_)
          refine ok_seq ?_
          refine ok_region rfl ?_
          refine k (asg gi) ?_
          refine ok_end (ok_then ?_)
          exact ok_ret (ret_tmp rfl rfl (by simp_all [AV.toD, cmpS, I]))

set_option maxRecDepth 20000 in
theorem c_cenotaphref07_number (a b : Int) : Pure Pr 33 [I a, I b] (I (cmpI a b)) := by
  refine pure_of Tryz.func33 (by kernel_rfl) rfl Tryz.ntmps33 (by simp) fun w μ => ?_
  refine ok_seq ?_
  refine ok_region rfl ?_
  refine k (asg gi) ?_
  refine ok_end (ok_then ?_)
  refine ok_seq ?_
  refine ok_seq ?_
  refine ok_region rfl ?_
  refine k (mv (g rfl)) ?_
  refine k (mv (g rfl)) ?_
  refine k (bn (g rfl) (g rfl) rfl) ?_
  refine ok_end (ok_then ?_)
  refine ok_cond (g rfl) (fun h1 => ?_) (fun h1 => ?_)
  · refine ok_seq ?_
    refine ok_region rfl ?_
    refine k (asg gi) ?_
    refine ok_end (ok_then ?_)
    exact ok_ret (ok_then_ret (ret_tmp rfl rfl (by simp_all [AV.toD, cmpI, I] <;> omega)))
  · refine ok_skip (ok_then ?_)
    refine ok_seq ?_
    refine ok_seq ?_
    refine ok_region rfl ?_
    refine k (mv (g rfl)) ?_
    refine k (mv (g rfl)) ?_
    refine k (bn (g rfl) (g rfl) rfl) ?_
    refine ok_end (ok_then ?_)
    refine ok_cond (g rfl) (fun h2 => ?_) (fun h2 => ?_)
    · refine ok_seq ?_
      refine ok_region rfl ?_
      refine k (asg gi) ?_
      refine ok_end (ok_then ?_)
      exact ok_ret (ok_then_ret (ret_tmp rfl rfl (by simp_all [AV.toD, cmpI, I] <;> omega)))
    · refine ok_skip (ok_then ?_)
      refine ok_seq ?_
      refine ok_region rfl ?_
      refine k (asg gi) ?_
      refine ok_end (ok_then ?_)
      exact ok_ret (ret_tmp rfl rfl (by simp_all [AV.toD, cmpI, I] <;> omega))

set_option maxRecDepth 20000 in
theorem c_cenotaphref07_Text (a b : ByteArray) : Pure Pr 34 [.str a, .str b] (I (cmpS a b)) := by
  refine pure_of Tryz.func34 (by kernel_rfl) rfl Tryz.ntmps34 (by simp) fun w μ => ?_
  refine ok_seq ?_
  refine ok_region rfl ?_
  refine k (asg gi) ?_
  refine ok_end (ok_then ?_)
  refine ok_seq ?_
  refine ok_seq ?_
  refine ok_region rfl ?_
  refine k (mv (g rfl)) ?_
  refine k (mv (g rfl)) ?_
  refine k (bn (g rfl) (g rfl) rfl) ?_
  refine ok_end (ok_then ?_)
  refine ok_cond (g rfl) (fun h1 => ?_) (fun h1 => ?_)
  · refine ok_seq ?_
    refine ok_region rfl ?_
    refine k (asg gi) ?_
    refine ok_end (ok_then ?_)
    exact ok_ret (ok_then_ret (ret_tmp rfl rfl (by simp_all [AV.toD, cmpS, I])))
  · refine ok_skip (ok_then ?_)
    refine ok_seq ?_
    refine ok_seq ?_
    refine ok_region rfl ?_
    refine k (mv (g rfl)) ?_
    refine k (mv (g rfl)) ?_
    refine k (bn (g rfl) (g rfl) rfl) ?_
    refine ok_end (ok_then ?_)
    refine ok_cond (g rfl) (fun h2 => ?_) (fun h2 => ?_)
    · refine ok_seq ?_
      refine ok_region rfl ?_
      refine k (asg gi) ?_
      refine ok_end (ok_then ?_)
      exact ok_ret (ok_then_ret (ret_tmp rfl rfl (by simp_all [AV.toD, cmpS, I])))
    · refine ok_skip (ok_then ?_)
      refine ok_seq ?_
      refine ok_region rfl ?_
      refine k (asg gi) ?_
      refine ok_end (ok_then ?_)
      exact ok_ret (ret_tmp rfl rfl (by simp_all [AV.toD, cmpS, I]))
end Go.Aw
