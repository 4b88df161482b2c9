/- Contracts of functions of the program, walked: c_slices_IndexFunc_sMut_Mut, c_slices_DeleteFunc_sMut_Mut. By an AI agent. -/
import Derived.Test.YtknekkemmbgceaaGreatDoorW1
import Derived.Test.YtknekkemmbgceaaGreatDoorSp
set_option linter.all false
/-! W3 -/
namespace Go.Aw
open Go.RowKit Go.Proofs
private theorem e33 : elemF Pr 33 = some (32, 10) := by kernel_rfl
private theorem t32 : tyF Pr 32 = some (10, true) := by kernel_rfl
private theorem zn32 : ZeroOne Pr 32 10 := ⟨.agg #[.int .i64 0, .int .i64 0, .string ⟨#[]⟩, .string ⟨#[]⟩, .string ⟨#[]⟩, .int .i64 0, .int .i64 0, .int .i64 0, .int .i64 0, .slice none 0 0], fun _ => by kernel_rfl, rfl, by simp [Value.cells, Value.oneCell']⟩
private theorem zo32 : ZeroOk Pr 32 [.d (.int .i64 0), .d (.int .i64 0), .d (.str ⟨#[]⟩), .d (.str ⟨#[]⟩), .d (.str ⟨#[]⟩), .d (.int .i64 0), .d (.int .i64 0), .d (.int .i64 0), .d (.int .i64 0), .d (.list 3 [])] := ⟨.agg #[.int .i64 0, .int .i64 0, .string ⟨#[]⟩, .string ⟨#[]⟩, .string ⟨#[]⟩, .int .i64 0, .int .i64 0, .int .i64 0, .int .i64 0, .slice none 0 0], fun _ => by kernel_rfl, fun μ ρ => (rcc zi (rcc zi (rcc zs (rcc zs (rcc zs (rcc zi (rcc zi (rcc zi (rcc zi (rcc zl rcn)))))))))), by simp [Value.cells, Value.oneCell']⟩
set_option maxRecDepth 20000 in
theorem c_slices_IndexFunc_sMut_Mut (l : List Mu) (p : Mu → Bool) (gk : FuncId) (caps : List D) (hf : ∀ m ∈ l, Pure Pr gk (m.d :: caps) (.bool (p m))) (hl : l.length < 4611686018427387904) : Pure Pr 75 [mus l, .clo (.func gk) caps] (I (idxI p l)) := by
  refine pure_of Tryz.func75 (by kernel_rfl) rfl Tryz.ntmps75 (by simp) fun w μ => ?_
  refine ok_seq ?_
  refine ok_region rfl ?_
  refine k (asg gi) ?_
  refine ok_end (ok_then ?_)
  refine ok_seq ?_
  refine ok_seq ?_
  refine ok_region rfl ?_
  refine k (mv (g rfl)) ?_
  refine k (ln (g rfl) e33) ?_
  refine k (mv gi) ?_
  refine ok_end (ok_then ?_)
  refine ok_block ?_
  refine ok_loop (ι := { k : Nat // k ≤ l.length ∧ ∀ j m, j < k → l[j]? = some m → p m = false }) 0 (fun i => l.length - i.1) (fun i => (upd 8 (.d (.int .i64 (i.1 : Nat))) (keepB 0 [0, 1, 7] _))) (fun _ => _) ⟨0, Nat.zero_le _, fun j m h => absurd h (Nat.not_lt_zero j)⟩ (le_upd rfl le_keep_self) (eb_upd rfl eb_keep) rfl rfl rfl ?_
  rintro ⟨q, hk, hz⟩
  refine ok_seq ?_
  refine ok_region rfl ?_
  refine k (bn (g rfl) (g rfl) rfl) ?_
  refine ok_end (ok_then ?_)
  refine ok_seq ?_
  refine ok_cond (g rfl) (fun h1 => ?_) (fun h1 => ?_)
  · refine ok_skip (ok_then ?_)
    refine ok_seq ?_
    refine ok_block ?_
    refine ok_seq ?_
    refine ok_region rfl ?_
    refine k (mv (g rfl)) ?_
    refine k (asg (g rfl)) ?_
    refine ok_end (ok_then ?_)
    refine ok_seq ?_
    refine ok_region rfl ?_
    refine k (mv (g rfl)) ?_
    refine k (mv (g rfl)) ?_
    refine k (mv (g rfl)) ?_
    refine k (ixm (g rfl) (g rfl) e33 (by simp at h1; exact h1)) ?_
    refine k (lR (g rfl) t32 (Nat.le_of_ble_eq_true rfl)) ?_
    refine k (cv (g rfl) rfl (a1 (g rfl) rfl a0) (hf _ (List.getElem_mem _))) ?_
    refine ok_end (ok_then ?_)
    refine ok_cond (g rfl) (fun h2 => ?_) (fun h2 => ?_)
    · refine ok_seq ?_
      refine ok_region rfl ?_
      refine k (mv (g rfl)) ?_
      refine k (asg (g rfl)) ?_
      refine ok_end (ok_then ?_)
      exact ok_ret (ok_inBlock_ret (ok_then_ret (ok_then_ret (ok_inBlock_ret (ok_then_ret (ret_tmp rfl rfl (by simp at h1; rw [idxI_at h1 hz h2]; rfl)))))))
    · refine ok_skip (ok_inBlock_normal (ok_then ?_))
      refine ok_region rfl ?_
      refine k (bn (g rfl) gi rfl) ?_
      refine k (mv (g rfl)) ?_
      exact ok_end (ok_round 0 ⟨q + 1, by simp at h1; omega, zstep hz (by simp at h1; exact h1) h2⟩ (by simp at h1 ⊢; omega) (le_upd (winc (k := q) (by omega)) (le_keep ⟨rfl, rfl, rfl, trivial⟩)) (eb_upd rfl eb_keep) rfl rfl rfl)
  · refine ok_exit (ok_then_exit (ok_then_exit (ok_inBlock_exit (ok_then ?_))))
    refine ok_seq ?_
    refine ok_region rfl ?_
    refine k (asg gi) ?_
    refine ok_end (ok_then ?_)
    exact ok_ret (ret_tmp rfl rfl (by rw [idxI_no fun j m hj hm => hz j m (by simp at h1; omega) hm]; rfl))

set_option maxRecDepth 20000 in
theorem c_slices_DeleteFunc_sMut_Mut (l : List Mu) (p : Mu → Bool) (gk : FuncId) (caps : List D) (hf : ∀ m ∈ l, Pure Pr gk (m.d :: caps) (.bool (p m))) (hl : l.length < 4611686018427387904) : Spec Pr 58 [.row 0, .d (.clo (.func gk) caps)] [.row 32 10 (l.map Mu.d)] (.row 1) [.dead, .row 32 10 ((l.filter fun m => !p m).map Mu.d)] := by
  refine spec_of Tryz.func58 (by kernel_rfl) rfl Tryz.ntmps58 (by simp) fun w μ ρ => ?_
  refine ok_seq ?_
  refine ok_region rfl ?_
  refine k (asg gN) ?_
  refine ok_end (ok_then ?_)
  refine ok_seq ?_
  refine ok_region rfl ?_
  refine k (mv (g rfl)) ?_
  refine k (mv (g rfl)) ?_
  refine k (clL (nr (g rfl) rfl (mus_plain l) (n1 (g rfl) rfl n0)) (c_slices_IndexFunc_sMut_Mut l p gk caps hf hl) rfl) ?_
  refine k (asg (g rfl)) ?_
  refine ok_end (ok_then ?_)
  refine ok_seq ?_
  refine ok_seq ?_
  refine ok_region rfl ?_
  refine k (mv (g rfl)) ?_
  refine k (bn (g rfl) gi rfl) ?_
  refine ok_end (ok_then ?_)
  refine ok_cond (g rfl) (fun h1 => ?_) (fun h1 => ?_)
  · refine ok_seq ?_
    refine ok_region rfl ?_
    refine k (mv (g rfl)) ?_
    refine k (asg (g rfl)) ?_
    refine ok_end (ok_then ?_)
    refine ok_rename 4 (m := 1) rfl rfl rfl ?_
    refine ok_eqL [.dead, .row 32 10 ((l.filter fun m => !p m).map Mu.d)] (by rw [idx_none h1]; rfl) ?_
    exact ok_ret (ok_then_ret (sret_tmp rfl rfl))
  · obtain ⟨i0, hi0, hz0, hp0, he0⟩ := idx_some h1
    refine ok_skip (ok_then ?_)
    refine ok_seq ?_
    refine ok_seq ?_
    refine ok_region rfl ?_
    refine k (mv (g rfl)) ?_
    refine k (bn (g rfl) gi rfl) ?_
    refine k (asg (g rfl)) ?_
    refine ok_end (ok_then ?_)
    refine ok_block ?_
    refine ok_openM 0 rfl rfl fun cap hc1 hc2 => ?_
    refine ok_loop (ι := { s : Nat // i0 + 1 ≤ s ∧ s ≤ l.length }) 1 (fun i => l.length - i.1) (fun i => (upd 5 (.d (.int .i64 (cnt l (fun m => !p m) i.1 : Nat))) (upd 6 (.d (.int .i64 (i.1 : Nat))) (keepB 1 [0, 1] _)))) (fun i => [.arr 32 10 (delA Mu.d l (fun m => !p m) i.1 ++ List.replicate (cap - l.length) none)]) ⟨i0 + 1, Nat.le_refl _, hi0⟩ (le_upd (by rw [cnt_start l hi0 hz0 hp0, ← he0]; rfl) (le_upd (by show some (AV.d (.int .i64 (IntKind.i64.wrap (idxI p l + 1)))) = _; rw [he0]; exact winc (k := i0) (by omega)) le_keep_self)) (eb_upd rfl (eb_upd rfl eb_keep)) (by rw [delA_start Mu.d l hi0 hz0 hp0]; rfl) rfl rfl ?_
    rintro ⟨q, hq1, hq2⟩
    refine ok_seq ?_
    refine ok_seq ?_
    refine ok_region rfl ?_
    refine k (mv (g rfl)) ?_
    refine k (mv (g rfl)) ?_
    refine k (lns (g rfl) e33) ?_
    refine k (bn (g rfl) (g rfl) rfl) ?_
    refine ok_end (ok_then ?_)
    refine ok_cond (g rfl) (fun h2 => ?_) (fun h2 => ?_)
    · have hlt : q < l.length := by simpa using h2
      have hcq := cnt_le l (fun m => !p m) q
      refine ok_skip (ok_then ?_)
      refine ok_seq ?_
      refine ok_block ?_
      refine ok_seq ?_
      refine ok_region rfl ?_
      refine k (mv (g rfl)) ?_
      refine k (mv (g rfl)) ?_
      refine k (ixe (g rfl) (g rfl) e33 rfl (by simp at h2; exact h2) (by omega)) ?_
      refine k (leA (g rfl) t32 rfl rfl (delA_el Mu.d l _ hlt _)) ?_
      refine kal (n := 1) zo32 rfl ?_
      refine kst (g rfl) (g rfl) t32 rfl rfl rfl rfl ?_
      refine ok_end (ok_then ?_)
      refine ok_seq ?_
      refine ok_region rfl ?_
      refine k (mv (g rfl)) ?_
      refine k (lB (g rfl) t32 rfl rfl) ?_
      refine k (cv (g rfl) rfl (a1 (g rfl) rfl a0) (hf _ (List.getElem_mem _))) ?_
      refine k (nt (g rfl)) ?_
      refine ok_end (ok_then ?_)
      refine ok_cond (g rfl) (fun h3 => ?_) (fun h3 => ?_)
      · refine ok_seq ?_
        refine ok_region rfl ?_
        refine k (mv (g rfl)) ?_
        refine k (mv (g rfl)) ?_
        refine k (lB (g rfl) t32 rfl rfl) ?_
        refine k (ixe (g rfl) (g rfl) e33 rfl (Nat.lt_of_le_of_lt hcq hlt) (by omega)) ?_
        refine ke0 (ste (g rfl) (g rfl) rfl rfl t32 rfl rfl rfl (by rw [List.length_append, delA_len]; exact Nat.lt_of_le_of_lt hcq (Nat.lt_of_lt_of_le hlt (Nat.le_add_right _ _)))) ?_
        refine ok_end (ok_then ?_)
        refine ok_region rfl ?_
        refine k (mv (g rfl)) ?_
        refine k (bn (g rfl) gi rfl) ?_
        refine k (asg (g rfl)) ?_
        refine ok_end (ok_inBlock_normal (ok_then ?_))
        refine ok_region rfl ?_
        refine k (mv (g rfl)) ?_
        refine k (bn (g rfl) gi rfl) ?_
        refine k (asg (g rfl)) ?_
        exact ok_end (ok_round 1 ⟨q + 1, by omega, by simp at h2; omega⟩ (by simp at h2 ⊢; omega) (le_upd (by rw [cnt_keep l _ hlt h3]; exact winc (k := cnt l (fun m => !p m) q) (by omega)) (le_upd (winc (k := q) (by omega)) (le_keep ⟨rfl, rfl, trivial⟩))) (eb_upd rfl (eb_upd rfl eb_keep)) (by rw [← delA_keep Mu.d l _ hlt h3]; rfl) rfl rfl)
      · refine ok_skip (ok_inBlock_normal (ok_then ?_))
        refine ok_region rfl ?_
        refine k (mv (g rfl)) ?_
        refine k (bn (g rfl) gi rfl) ?_
        refine k (asg (g rfl)) ?_
        exact ok_end (ok_round 1 ⟨q + 1, by omega, by simp at h2; omega⟩ (by simp at h2 ⊢; omega) (le_upd (by rw [cnt_drop l _ hlt h3]; rfl) (le_upd (winc (k := q) (by omega)) (le_keep ⟨rfl, rfl, trivial⟩))) (eb_upd rfl (eb_upd rfl eb_keep)) (by rw [← delA_drop Mu.d l _ hlt h3]; rfl) rfl rfl)
    · have hq : q = l.length := by simp at h2; omega
      subst hq
      have hcq := cnt_le l (fun m => !p m) l.length
      refine ok_exit (ok_then_exit (ok_then_exit (ok_inBlock_exit (ok_then ?_))))
      refine ok_seq ?_
      refine ok_region rfl ?_
      refine k (mv (g rfl)) ?_
      refine k (mv (g rfl)) ?_
      refine k (sls (g rfl) e33 (sb1 (g rfl) rfl) sb0 (cnt_le' l _ _) (by omega)) ?_
      refine ke0 (clr (g rfl) e33 zn32 rfl (Nat.sub_le_sub_right hc1 _) (by rw [delJ_len _ _ _ hc1]; have := cnt_le' l (fun m => !p m) l.length; show cnt l _ l.length + 0 + (cap - cnt l _ l.length) ≤ cap; omega)) ?_
      refine ok_end (ok_then ?_)
      refine ok_seq ?_
      refine ok_region rfl ?_
      refine k (mv (g rfl)) ?_
      refine k (mv (g rfl)) ?_
      refine k (sls (g rfl) e33 sb0 (sb1 (g rfl) rfl) (Nat.zero_le _) (Nat.le_trans (cnt_le' l _ _) hc1)) ?_
      refine k (asg (g rfl)) ?_
      refine ok_end (ok_then ?_)
      refine ok_fold 4 (m := 1) (ys := (l.filter fun m => !p m).map Mu.d) rfl rfl (by simp only [List.append_assoc]; exact delA_end Mu.d l _ rfl) (Nat.le_trans (cnt_le' l _ _) hc1) (clr_len (by rw [delJ_len _ _ _ hc1]; have := cnt_le' l (fun m => !p m) l.length; show cnt l _ l.length + (l.length - cnt l _ l.length) ≤ cap; omega) (delJ_len _ _ _ hc1 _)) hc2 rfl ?_
      exact ok_ret (sret_tmp rfl rfl)
end Go.Aw
