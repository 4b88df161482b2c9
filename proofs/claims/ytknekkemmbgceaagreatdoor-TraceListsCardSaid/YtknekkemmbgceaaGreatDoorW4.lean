/- Contracts of functions of the program, walked: c_slices_Insert_sMut_Mut. By an AI agent. -/
import Derived.Test.YtknekkemmbgceaaGreatDoorW3
set_option linter.all false
/-! W4 -/
namespace Go.Aw
open Go.RowKit Go.Proofs
private theorem ap33 : AppF Pr 33 32 10 120 := appF_out (by kernel_rfl)
private theorem e33 : elemF Pr 33 = some (32, 10) := by kernel_rfl
private theorem i3 : Pr.underlying 3 = some (.int .i64) := by kernel_rfl
private theorem ov349 : OvF Pr 73 33 4 := ovf Tryz.func73 (by kernel_rfl) (by kernel_rfl) (by kernel_rfl) (by kernel_rfl)
set_option maxHeartbeats 4000000 in
set_option maxRecDepth 20000 in
theorem c_slices_Insert_sMut_Mut (l ys : List Mu) (i : Nat) (hi : i ≤ l.length) (hy : ys ≠ []) (hb : (l.length + ys.length) * 120 ≤ 140737488355328) : Spec Pr 53 [.row 0, .d (.int .i64 (i : Nat)), .d (mus ys)] [.row 32 10 (l.map Mu.d)] (.row 2) [.dead, .dead, .row 32 10 ((l.take i ++ ys ++ l.drop i).map Mu.d)] := by
  have hy0 : 0 < ys.length := List.length_pos_iff.2 hy
  have hl62 : l.length + ys.length < 4611686018427387904 := by omega
  have hw1 : IntKind.i64.wrap ((l.length : Int) + (ys.length : Int)) = ((l.length + ys.length : Nat) : Int) := by rw [wrap_i64 (by omega) (by omega)]; omega
  have hw2 : IntKind.i64.wrap ((i : Int) + (ys.length : Int)) = ((i + ys.length : Nat) : Int) := by rw [wrap_i64 (by omega) (by omega)]; omega
  have hw3 : IntKind.i64.wrap (((l.length + ys.length : Nat) : Int) - (i : Int)) = ((l.length + ys.length - i : Nat) : Int) := by rw [wrap_i64 (by omega) (by omega)]; omega
  refine spec_of Tryz.func53 (by kernel_rfl) rfl Tryz.ntmps53 (by simp) fun w μ ρ => ?_
  refine ok_openM 0 rfl rfl fun cap hc1 hc2 => ?_
  refine ok_seq ?_
  refine ok_region rfl ?_
  refine k (asg gN) ?_
  refine ok_end (ok_then ?_)
  refine ok_seq ?_
  refine ok_region rfl ?_
  refine k (mv (g rfl)) ?_
  refine k (mv (g rfl)) ?_
  refine k (sls (g rfl) e33 (sb1 (val := i) (g rfl) rfl) sb0 hi hc1) ?_
  refine ok_end (ok_then ?_)
  refine ok_seq ?_
  refine ok_region rfl ?_
  refine k (mv (g rfl)) ?_
  refine k (ln (g rfl) e33) ?_
  refine k (asg (g rfl)) ?_
  refine ok_end (ok_then ?_)
  refine ok_seq ?_
  refine ok_seq ?_
  refine ok_region rfl ?_
  refine k (mv (g rfl)) ?_
  refine k (bn (g rfl) gi rfl) ?_
  refine ok_end (ok_then ?_)
  refine ok_cond (g rfl) (fun h1 => ?_) (fun h1 => ?_)
  · exfalso; simp at h1; exact hy h1
  · refine ok_skip (ok_then ?_)
    refine ok_seq ?_
    refine ok_region rfl ?_
    refine k (mv (g rfl)) ?_
    refine k (lns (g rfl) e33) ?_
    refine k (asg (g rfl)) ?_
    refine ok_end (ok_then ?_)
    refine ok_seq ?_
    refine ok_seq ?_
    refine ok_region rfl ?_
    refine k (mv (g rfl)) ?_
    refine k (mv (g rfl)) ?_
    refine k (bn (g rfl) (g rfl) rfl) ?_
    refine ok_end (ok_then ?_)
    refine ok_cond (g rfl) (fun h2 => ?_) (fun h2 => ?_)
    · have hie : i = l.length := by simp at h2; omega
      refine ok_seq ?_
      refine ok_region rfl ?_
      refine k (mv (g rfl)) ?_
      refine k (mv (g rfl)) ?_
      refine ke (apf (g rfl) (src_list (g rfl)) ap33 rfl (opn_take Mu.d l) hc1 (opn_len Mu.d l hc1) hc2 (by simp; omega) (by simp; omega) rfl) ?_
      refine k (asg (g rfl)) ?_
      refine ok_end (ok_then ?_)
      refine ok_eqL [.dead, .row 32 10 ((l.take i ++ ys ++ l.drop i).map Mu.d)] (by rw [hie, List.take_length, List.drop_length, List.append_nil, List.map_append]; rfl) ?_
      refine ok_rename 6 (m := 2) rfl rfl rfl ?_
      exact ok_ret (ok_then_ret (sret_tmp rfl rfl))
    · refine ok_skip (ok_then ?_)
      refine ok_seq ?_
      refine ok_seq ?_
      refine ok_region rfl ?_
      refine k (mv (g rfl)) ?_
      refine k (mv (g rfl)) ?_
      refine k (bn (g rfl) (g rfl) rfl) ?_
      refine k (mv (g rfl)) ?_
      refine k (cps (g rfl) e33) ?_
      refine k (bn (g rfl) (g rfl) rfl) ?_
      refine ok_end (ok_then ?_)
      refine ok_cond (g rfl) (fun h3 => ?_) (fun h3 => ?_)
      · have hgr : cap < l.length + ys.length := by simp only [List.length_map, hw1, decide_eq_true_eq] at h3; omega
        refine ok_seq ?_
        refine ok_region rfl ?_
        refine k (mv (g rfl)) ?_
        refine k (mv (g rfl)) ?_
        refine k (sls (g rfl) e33 sb0 (sb1 (val := i) (g rfl) rfl) (Nat.zero_le _) (by omega)) ?_
        refine k (mv (g rfl)) ?_
        refine k (mv (g rfl)) ?_
        refine k (bn (g rfl) (g rfl) rfl) ?_
        refine k (mv (g rfl)) ?_
        refine k (bn (g rfl) (g rfl) rfl) ?_
        refine kx (apz (k := l.length + ys.length - i) (need := l.length + ys.length) (g rfl) (g rfl) (by simp only [List.length_map, hw1, hw3]) (by omega) ap33 i3 rfl (by omega) hgr (by omega) (by rw [opn_len Mu.d l hc1]; omega) hb (by omega)) fun c2 => ?_
        refine k (asg (g rfl)) ?_
        refine ok_end (ok_then ?_)
        refine ok_seq ?_
        refine ok_region rfl ?_
        refine k (mv (g rfl)) ?_
        refine k (mv (g rfl)) ?_
        refine k (sls (g rfl) e33 (sb1 (val := i) (g rfl) rfl) sb0 (by omega) (by have := c2.2; omega)) ?_
        refine k (mv (g rfl)) ?_
        refine ke (cpyP (g rfl) (src_list (g rfl)).toP e33 rfl (by simp; omega) (by have := c2.2; omega) (by have := c2.2; simp; omega)) ?_
        refine ok_end (ok_then ?_)
        refine ok_seq ?_
        refine ok_drawF [fun L => L.set 1 (.arr 32 10 (((((l.map Mu.d).map some ++ List.replicate (cap - l.length) (none : Option D)).take i ++ List.replicate (c2.1 - i) (none : Option D)).take i ++ (ys.map Mu.d).map some ++ (((l.map Mu.d).map some ++ List.replicate (cap - l.length) (none : Option D)).take i ++ List.replicate (c2.1 - i) (none : Option D)).drop ((ys.map Mu.d).length + i)).take (i + ys.length) ++ ((l.drop i).map Mu.d).map some ++ ((((l.map Mu.d).map some ++ List.replicate (cap - l.length) (none : Option D)).take i ++ List.replicate (c2.1 - i) (none : Option D)).take i ++ (ys.map Mu.d).map some ++ (((l.map Mu.d).map some ++ List.replicate (cap - l.length) (none : Option D)).take i ++ List.replicate (c2.1 - i) (none : Option D)).drop ((ys.map Mu.d).length + i)).drop (((l.drop i).map Mu.d).length + (i + ys.length))))] [46, 47, 48, 49, 50, 51, 52, 53, 54] [8] [0, 0, 0, 6, 15, 0, 0, 96, 255] rfl (by kernel_rfl) ?_
        refine ss [0] rfl rfl ⟨mv (g rfl), trivial⟩ ?_
        refine ss [0] rfl rfl ⟨mv (g rfl), trivial⟩ ?_
        refine ss [0] rfl rfl ⟨mv (g rfl), trivial⟩ ?_
        refine ss [0] rfl rfl ⟨bn (g rfl) (g rfl) rfl, trivial⟩ ?_
        refine ss [0] rfl rfl ⟨sls (g rfl) e33 (sb1 (val := i + ys.length) (g rfl) (by simp only [List.length_map, hw2])) sb0 (by omega) (by have := c2.2; omega), trivial⟩ ?_
        refine ss [0] rfl rfl ⟨mv (g rfl), trivial⟩ ?_
        refine ss [0] rfl rfl ⟨mv (g rfl), trivial⟩ ?_
        refine ss [0] rfl rfl ⟨sls (g rfl) e33 (sb1 (val := i) (g rfl) rfl) sb0 hi hc1, trivial⟩ ?_
        refine se 0 rfl (cpyP (g rfl) (src_slP (ys := ((l.drop i).map Mu.d)) (g rfl) rfl (opn_drop Mu.d l i hi) (by simp) (by omega) (mus_plain _)) e33 rfl (by simp; omega) (by have := c2.2; omega) (by have := c2.2; simp; omega)) ?_
        refine draws_end mixed (by kernel_rfl) rfl rfl (ok_then ?_)
        refine ok_seq ?_
        refine ok_region rfl ?_
        refine k (mv (g rfl)) ?_
        refine k (asg (g rfl)) ?_
        refine ok_end (ok_then ?_)
        have hc3 := c2.2
        refine ok_dead 0 rfl rfl ?_
        refine ok_fold 6 (m := 2) (ys := (l.take i ++ ys ++ l.drop i).map Mu.d) rfl rfl (by rw [insR Mu.d l ys i hi (cap := cap)]; exact ins_T _ _ _ _ _ _ (by rw [opn_len Mu.d l hc1]; omega) (by simp) (by simp; omega)) (by omega) (by simp; omega) c2.2.2 rfl ?_
        exact ok_ret (ok_then_ret (sret_tmp rfl rfl))
      · have hro : l.length + ys.length ≤ cap := by simp only [List.length_map, hw1, decide_eq_false_iff_not] at h3; omega
        refine ok_skip (ok_then ?_)
        refine ok_seq ?_
        refine ok_region rfl ?_
        refine k (mv (g rfl)) ?_
        refine k (mv (g rfl)) ?_
        refine k (mv (g rfl)) ?_
        refine k (bn (g rfl) (g rfl) rfl) ?_
        refine k (sls (g rfl) e33 sb0 (sb1 (val := l.length + ys.length) (g rfl) (by simp only [List.length_map, hw1])) (Nat.zero_le _) hro) ?_
        refine k (asg (g rfl)) ?_
        refine ok_end (ok_then ?_)
        refine ok_seq ?_
        refine ok_seq ?_
        refine ok_region rfl ?_
        refine k (mv (g rfl)) ?_
        refine k (mv (g rfl)) ?_
        refine k (mv (g rfl)) ?_
        refine k (mv (g rfl)) ?_
        refine k (bn (g rfl) (g rfl) rfl) ?_
        refine k (sls (g rfl) e33 (sb1 (val := i + ys.length) (g rfl) (by simp only [List.length_map, hw2])) sb0 (by omega) (by omega)) ?_
        refine k (ovl ov349 e33 (g rfl) (g rfl) rfl (map_ne Mu.d ys hy) (opn_ne Mu.d l hc1 (by omega)) (by decide)) ?_
        refine k (nt (g rfl)) ?_
        refine ok_end (ok_then ?_)
        refine ok_cond (g rfl) (fun h4 => ?_) (fun h4 => ?_)
        · refine ok_seq ?_
          refine ok_drawF [fun L => L.set 0 (.arr 32 10 (((l.map Mu.d).map some ++ List.replicate (cap - l.length) (none : Option D)).take (i + ys.length) ++ ((l.drop i).map Mu.d).map some ++ ((l.map Mu.d).map some ++ List.replicate (cap - l.length) (none : Option D)).drop (((l.drop i).map Mu.d).length + (i + ys.length))))] [69, 70, 71, 72, 73, 74, 75, 76, 77] [8] [0, 0, 0, 6, 15, 0, 0, 96, 255] rfl (by kernel_rfl) ?_
          refine ss [0] rfl rfl ⟨mv (g rfl), trivial⟩ ?_
          refine ss [0] rfl rfl ⟨mv (g rfl), trivial⟩ ?_
          refine ss [0] rfl rfl ⟨mv (g rfl), trivial⟩ ?_
          refine ss [0] rfl rfl ⟨bn (g rfl) (g rfl) rfl, trivial⟩ ?_
          refine ss [0] rfl rfl ⟨sls (g rfl) e33 (sb1 (val := i + ys.length) (g rfl) (by simp only [List.length_map, hw2])) sb0 (by omega) (by omega), trivial⟩ ?_
          refine ss [0] rfl rfl ⟨mv (g rfl), trivial⟩ ?_
          refine ss [0] rfl rfl ⟨mv (g rfl), trivial⟩ ?_
          refine ss [0] rfl rfl ⟨sls (g rfl) e33 (sb1 (val := i) (g rfl) rfl) sb0 (by omega) (by omega), trivial⟩ ?_
          refine se 0 rfl (cpyP (g rfl) (src_slP (ys := ((l.drop i).map Mu.d)) (g rfl) rfl (opn_drop Mu.d l i hi) (by simp; omega) (by omega) (mus_plain _)) e33 rfl (by simp; omega) (by omega) (by rw [opn_len Mu.d l hc1]; omega)) ?_
          refine draws_end mixed (by kernel_rfl) rfl rfl (ok_then ?_)
          refine ok_seq ?_
          refine ok_region rfl ?_
          refine k (mv (g rfl)) ?_
          refine k (mv (g rfl)) ?_
          refine k (sls (g rfl) e33 (sb1 (val := i) (g rfl) rfl) sb0 (by omega) (by omega)) ?_
          refine k (mv (g rfl)) ?_
          refine ke (cpyP (g rfl) (src_list (g rfl)).toP e33 rfl (by simp; omega) (by omega) (by simp; omega)) ?_
          refine ok_end (ok_then ?_)
          refine ok_seq ?_
          refine ok_region rfl ?_
          refine k (mv (g rfl)) ?_
          refine k (asg (g rfl)) ?_
          refine ok_end (ok_then ?_)
          refine ok_fold 6 (m := 1) (ys := (l.take i ++ ys ++ l.drop i).map Mu.d) rfl rfl (by rw [insR Mu.d l ys i hi (cap := cap)]; exact ins_F _ _ _ _ (by omega) (by rw [opn_len Mu.d l hc1]; omega) (by simp; omega) (by simp; omega)) hro (by simp; omega) hc2 rfl ?_
          refine ok_rename 6 (m := 2) rfl rfl rfl ?_
          exact ok_ret (ok_then_ret (sret_tmp rfl rfl))
        · cases h4
end Go.Aw
