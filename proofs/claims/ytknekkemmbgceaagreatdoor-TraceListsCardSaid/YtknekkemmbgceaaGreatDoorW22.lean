/- Contracts of functions of the program, walked: c_slices_Grow_sMut_Mut. By an AI agent. -/
import Derived.Test.YtknekkemmbgceaaGreatDoorW21
set_option linter.all false
/-! W22 -/
namespace Go.Aw
open Go.RowKit Go.Proofs
private theorem ap33 : AppF Pr 33 32 10 120 := appF_out (by kernel_rfl)
private theorem e33 : elemF Pr 33 = some (32, 10) := by kernel_rfl
private theorem i3 : Pr.underlying 3 = some (.int .i64) := by kernel_rfl
set_option maxRecDepth 20000 in
theorem c_slices_Grow_sMut_Mut (n : Nat) (hn : n * 120 ≤ 140737488355328) : Spec Pr 86 [NIL, .d (I (n : Nat))] [] (.row 2) [.dead, .dead, .row 32 10 []] := by
  have hn62 : n < 4611686018427387904 := by omega
  refine spec_of Tryz.func86 (by kernel_rfl) rfl Tryz.ntmps86 (by simp) fun w μ ρ => ?_
  refine ok_promote 0 32 10 (n := 0) rfl rfl ?_
  refine ok_open 0 rfl rfl fun cap hc1 hc2 => ?_
  have hcap : cap ≤ 9223372036854775807 := hc2
  have hw0 : IntKind.i64.wrap ((cap : Int) - ((0 : Nat) : Int)) = (cap : Int) := by rw [wrap_i64 (by omega) (by omega)]; omega
  have hw1 : IntKind.i64.wrap ((n : Int) - (cap : Int)) = (n : Int) - (cap : Int) := by rw [wrap_i64 (by omega) (by omega)]
  refine ok_seq ?_
  refine ok_region rfl ?_
  refine k (asg gN) ?_
  refine ok_end (ok_then ?_)
  refine ok_seq ?_
  refine ok_seq ?_
  refine ok_region rfl ?_
  refine k (mv (g rfl)) ?_
  refine k (bn (g rfl) gi rfl) ?_
  refine ok_end (ok_then ?_)
  refine ok_cond (g rfl) (fun h1 => ?_) (fun h1 => ?_)
  · exfalso; have h1 := of_decide_eq_true h1; omega
  · refine ok_skip (ok_then ?_)
    refine ok_seq ?_
    refine ok_seq ?_
    refine ok_region rfl ?_
    refine k (mv (g rfl)) ?_
    refine k (mv (g rfl)) ?_
    refine k (cps (g rfl) e33) ?_
    refine k (mv (g rfl)) ?_
    refine k (lns (g rfl) e33) ?_
    refine k (bn (g rfl) (g rfl) rfl) ?_
    refine k (bn (g rfl) (g rfl) rfl) ?_
    refine k (asg (g rfl)) ?_
    refine ok_end (ok_then ?_)
    refine ok_seq ?_
    refine ok_region rfl ?_
    refine k (mv (g rfl)) ?_
    refine k (bn (g rfl) gi rfl) ?_
    refine ok_end (ok_then ?_)
    refine ok_cond (g rfl) (fun h2 => ?_) (fun h2 => ?_)
    · have hlt : cap < n := by have h2 := of_decide_eq_true h2; rw [show IntKind.i64.wrap ((cap : Int) - ((([] : List D).length : Nat) : Int)) = (cap : Int) from hw0, hw1] at h2; omega
      have hkv : IntKind.i64.wrap ((n : Int) - IntKind.i64.wrap ((cap : Int) - ((([] : List D).length : Nat) : Int))) = ((n - cap : Nat) : Int) := by rw [show IntKind.i64.wrap ((cap : Int) - ((([] : List D).length : Nat) : Int)) = (cap : Int) from hw0, hw1]; omega
      refine ok_region rfl ?_
      refine k (mv (g rfl)) ?_
      refine k (mv (g rfl)) ?_
      refine k (cps (g rfl) e33) ?_
      refine k (sls (g rfl) e33 sb0 (sb1 (g rfl) rfl) (Nat.zero_le _) (Nat.le_refl _)) ?_
      refine k (mv (g rfl)) ?_
      refine kx (apz (k := n - cap) (need := n) (g rfl) (g rfl) hkv (by omega) ap33 i3 rfl (by omega) hlt (Nat.le_refl _) (by simp) hn (by omega)) fun c2 => ?_
      refine k (mv (g rfl)) ?_
      refine k (lns (g rfl) e33) ?_
      refine k (sls (g rfl) e33 sb0 (sb1 (g rfl) rfl) (Nat.zero_le _) (Nat.zero_le _)) ?_
      refine k (asg (g rfl)) ?_
      refine ok_end (ok_then ?_)
      refine ok_seq ?_
      refine ok_region rfl ?_
      refine k (mv (g rfl)) ?_
      refine k (asg (g rfl)) ?_
      refine ok_end (ok_then ?_)
      refine ok_dead 0 rfl rfl ?_
      refine ok_fold 4 (m := 2) (ys := []) rfl rfl rfl (Nat.zero_le _) (by have := c2.2; simp; omega) c2.2.2 rfl ?_
      exact ok_ret (sret_tmp rfl rfl)
    · refine ok_skip (ok_then ?_)
      refine ok_seq ?_
      refine ok_region rfl ?_
      refine k (mv (g rfl)) ?_
      refine k (asg (g rfl)) ?_
      refine ok_end (ok_then ?_)
      refine ok_fold 4 (m := 1) (ys := []) rfl rfl rfl (Nat.zero_le _) (by simp) hc2 rfl ?_
      refine ok_rename 4 (m := 2) rfl rfl rfl ?_
      exact ok_ret (sret_tmp rfl rfl)
end Go.Aw
