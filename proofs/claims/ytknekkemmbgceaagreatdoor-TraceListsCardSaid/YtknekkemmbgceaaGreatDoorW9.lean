/- Contracts of functions of the program, walked: c_slices_BinarySearchFunc_sMut_Mut_string, c_slices_BinarySearchFunc_sMut_Mut_Mut. By an AI agent. -/
import Derived.Test.YtknekkemmbgceaaGreatDoorW8
import Derived.Test.YtknekkemmbgceaaGreatDoorSp
set_option linter.all false
/-! W9 -/
namespace Go.Aw
open Go.RowKit Go.Proofs
private theorem e33 : elemF Pr 33 = some (32, 10) := by kernel_rfl
private theorem i3 : Pr.underlying 3 = some (.int .i64) := by kernel_rfl
private theorem i89 : Pr.underlying 89 = some (.int .u64) := by kernel_rfl
private theorem t32 : tyF Pr 32 = some (10, true) := by kernel_rfl
set_option maxRecDepth 20000 in
theorem c_slices_BinarySearchFunc_sMut_Mut_string (l : List Mu) (t : ByteArray) (c : Mu → Int) (gk : FuncId) (hf : ∀ m ∈ l, Pure Pr gk [m.d, .str t] (I (c m))) (hl : l.length < 4611686018427387904) : Pure Pr 84 [mus l, .str t, .clo (.func gk) []] (.tup [I (bsP c l : Nat), .bool (bsF c l)]) := by
  refine pure_of Tryz.func84 (by kernel_rfl) rfl Tryz.ntmps84 (by simp) fun w μ => ?_
  refine ok_seq ?_
  refine ok_region rfl ?_
  refine k (asg gi) ?_
  refine k (asg gb) ?_
  refine ok_end (ok_then ?_)
  refine ok_seq ?_
  refine ok_region rfl ?_
  refine k (mv (g rfl)) ?_
  refine k (ln (g rfl) e33) ?_
  refine k (asg (g rfl)) ?_
  refine ok_end (ok_then ?_)
  refine ok_seq ?_
  refine ok_region rfl ?_
  refine k (mv (g rfl)) ?_
  refine k (asg gi) ?_
  refine k (asg (g rfl)) ?_
  refine ok_end (ok_then ?_)
  refine ok_seq ?_
  refine ok_block ?_
  refine ok_loop (ι := { s : Nat × Nat × Nat // (s.1 ≤ s.2.1 ∧ s.2.1 ≤ l.length) ∧ s.2.1 - s.1 ≤ s.2.2 ∧ bs (at_ c l) s.2.2 s.1 s.2.1 = bsP c l }) 0 (fun i => i.1.2.1 - i.1.1) (fun i => (upd 9 (.d (.int .i64 (i.1.1 : Nat))) (upd 10 (.d (.int .i64 (i.1.2.1 : Nat))) (keepB 0 [0, 1, 2, 8] _)))) (fun _ => _) ⟨(0, l.length, l.length), ⟨Nat.zero_le _, Nat.le_refl _⟩, Nat.le_refl _, rfl⟩ (le_upd rfl (le_upd (congrArg (fun n : Nat => some (AV.d (.int .i64 n))) (List.length_map _)) le_keep_self)) (eb_upd rfl (eb_upd rfl eb_keep)) rfl rfl rfl ?_
  rintro ⟨⟨i, j, f⟩, ⟨hij, hjn⟩, hf1, hz⟩
  refine ok_seq ?_
  refine ok_seq ?_
  refine ok_region rfl ?_
  refine k (mv (g rfl)) ?_
  refine k (mv (g rfl)) ?_
  refine k (bn (g rfl) (g rfl) rfl) ?_
  refine ok_end (ok_then ?_)
  refine ok_cond (g rfl) (fun h1 => ?_) (fun h1 => ?_)
  · have hlt : i < j := by simpa using h1
    have hjn2 : j ≤ l.length := hjn
    have hf2 : j - i ≤ f := hf1
    have hm : (i + j) / 2 < l.length := by omega
    have hmid := mid (i := i) (j := j) (by omega)
    refine ok_skip (ok_then ?_)
    refine ok_block ?_
    refine ok_seq ?_
    refine ok_region rfl ?_
    refine k (mv (g rfl)) ?_
    refine k (mv (g rfl)) ?_
    refine k (bn (g rfl) (g rfl) rfl) ?_
    refine k (cvi (g rfl) i3 i89) ?_
    refine k (sh (g rfl) gi (by decide)) ?_
    refine k (cvi (g rfl) i89 i3) ?_
    refine k (asg (g rfl)) ?_
    refine ok_end (ok_then ?_)
    refine ok_seq ?_
    refine ok_region rfl ?_
    refine k (mv (g rfl)) ?_
    refine k (mv (g rfl)) ?_
    refine k (mv (g rfl)) ?_
    refine k (ixn (g rfl) (g rfl) e33 hmid hm) ?_
    refine k (lR (g rfl) t32 (Nat.le_of_ble_eq_true rfl)) ?_
    refine k (mv (g rfl)) ?_
    refine k (cv (g rfl) rfl (a1 (g rfl) rfl (a1 (g rfl) rfl a0)) (hf _ (List.getElem_mem _))) ?_
    refine k (bn (g rfl) gi rfl) ?_
    refine ok_end (ok_then ?_)
    refine ok_cond (g rfl) (fun h2 => ?_) (fun h2 => ?_)
    · refine ok_region rfl ?_
      refine k (mv (g rfl)) ?_
      refine k (bn (g rfl) gi rfl) ?_
      refine k (asg (g rfl)) ?_
      exact ok_end (ok_inBlock_normal (ok_round 0 ⟨((i + j) / 2 + 1, j, f - 1), ⟨by show (i + j) / 2 + 1 ≤ j; omega, hjn⟩, by show j - ((i + j) / 2 + 1) ≤ f - 1; omega, bs_lo (n := 0) hlt hf1 hz (by rw [at_get hm]; simpa using h2)⟩ (by show j - ((i + j) / 2 + 1) < j - i; omega) (le_upd ((congrArg (fun n => some (AV.d (.int .i64 (IntKind.i64.wrap (n + 1))))) hmid).trans (winc (k := (i + j) / 2) (by omega))) (le_upd rfl (le_keep ⟨rfl, rfl, rfl, rfl, trivial⟩))) (eb_upd rfl (eb_upd rfl eb_keep)) rfl rfl rfl))
    · refine ok_region rfl ?_
      refine k (mv (g rfl)) ?_
      refine k (asg (g rfl)) ?_
      exact ok_end (ok_inBlock_normal (ok_round 0 ⟨(i, (i + j) / 2, f - 1), ⟨by show i ≤ (i + j) / 2; omega, by show (i + j) / 2 ≤ l.length; omega⟩, by show (i + j) / 2 - i ≤ f - 1; omega, bs_hi (n := 0) hlt hf1 hz (by rw [at_get hm]; simpa using h2)⟩ (by show (i + j) / 2 - i < j - i; omega) (le_upd rfl (le_upd (congrArg (fun n => some (AV.d (.int .i64 n))) hmid) (le_keep ⟨rfl, rfl, rfl, rfl, trivial⟩))) (eb_upd rfl (eb_upd rfl eb_keep)) rfl rfl rfl))
  · have hnl : ¬ i < j := by simpa using h1
    have hP := bs_end hnl hz
    refine ok_exit (ok_then_exit (ok_then_exit (ok_inBlock_exit (ok_then ?_))))
    refine ok_seq ?_
    refine ok_region rfl ?_
    refine k (mv (g rfl)) ?_
    refine k (mv (g rfl)) ?_
    refine k (mv (g rfl)) ?_
    refine k (bn (g rfl) (g rfl) rfl) ?_
    refine k (mv (g rfl)) ?_
    refine kg rfl rfl rfl (fun hg => mv (g rfl)) ?_
    refine kg rfl rfl rfl (fun hg => mv (g rfl)) ?_
    refine kg rfl rfl rfl (fun hg => mv (g rfl)) ?_
    refine kg rfl rfl rfl (fun hg => ixd mu0 (go rfl hg) (go rfl hg) e33 rfl (by simpa using hg)) ?_
    refine kg rfl rfl rfl (fun hg => lR (go rfl hg) t32 (Nat.le_of_ble_eq_true rfl)) ?_
    refine kg rfl rfl rfl (fun hg => mv (g rfl)) ?_
    refine kg rfl rfl rfl (fun hg => cv (go rfl hg) rfl (a1 (go rfl hg) rfl (a1 (go rfl hg) rfl a0)) (hf _ (getD_mem' (by simpa using hg)))) ?_
    refine kg rfl rfl rfl (fun hg => bn (go rfl hg) gi rfl) ?_
    refine k (an (g rfl) (fun h => (go rfl (by rw [h]; rfl)))) ?_
    refine k (asg (g rfl)) ?_
    refine k (asg (g rfl)) ?_
    refine ok_end (ok_then ?_)
    exact ok_ret (ret_2 rfl (.tmp rfl) (.tmp rfl) (bsRes (f := Mu.d) (d := mu0) hP))

set_option maxRecDepth 20000 in
theorem c_slices_BinarySearchFunc_sMut_Mut_Mut (l : List Mu) (t : Mu) (c : Mu → Int) (gk : FuncId) (hf : ∀ m ∈ l, Pure Pr gk [m.d, t.d] (I (c m))) (hl : l.length < 4611686018427387904) : Pure Pr 51 [mus l, t.d, .clo (.func gk) []] (.tup [I (bsP c l : Nat), .bool (bsF c l)]) := by
  refine pure_of Tryz.func51 (by kernel_rfl) rfl Tryz.ntmps51 (by simp) fun w μ => ?_
  refine ok_seq ?_
  refine ok_region rfl ?_
  refine kbox (n := 0) (g rfl) rfl rfl ?_
  refine k (asg gi) ?_
  refine k (asg gb) ?_
  refine ok_end (ok_then ?_)
  refine ok_seq ?_
  refine ok_region rfl ?_
  refine k (mv (g rfl)) ?_
  refine k (ln (g rfl) e33) ?_
  refine k (asg (g rfl)) ?_
  refine ok_end (ok_then ?_)
  refine ok_seq ?_
  refine ok_region rfl ?_
  refine k (mv (g rfl)) ?_
  refine k (asg gi) ?_
  refine k (asg (g rfl)) ?_
  refine ok_end (ok_then ?_)
  refine ok_seq ?_
  refine ok_block ?_
  refine ok_loop (ι := { s : Nat × Nat × Nat // (s.1 ≤ s.2.1 ∧ s.2.1 ≤ l.length) ∧ s.2.1 - s.1 ≤ s.2.2 ∧ bs (at_ c l) s.2.2 s.1 s.2.1 = bsP c l }) 1 (fun i => i.1.2.1 - i.1.1) (fun i => (upd 9 (.d (.int .i64 (i.1.1 : Nat))) (upd 10 (.d (.int .i64 (i.1.2.1 : Nat))) (keepB 1 [0, 2, 4, 8] _)))) (fun _ => _) ⟨(0, l.length, l.length), ⟨Nat.zero_le _, Nat.le_refl _⟩, Nat.le_refl _, rfl⟩ (le_upd rfl (le_upd (congrArg (fun n : Nat => some (AV.d (.int .i64 n))) (List.length_map _)) le_keep_self)) (eb_upd rfl (eb_upd rfl eb_keep)) rfl rfl rfl ?_
  rintro ⟨⟨i, j, f⟩, ⟨hij, hjn⟩, hf1, hz⟩
  refine ok_seq ?_
  refine ok_seq ?_
  refine ok_region rfl ?_
  refine k (mv (g rfl)) ?_
  refine k (mv (g rfl)) ?_
  refine k (bn (g rfl) (g rfl) rfl) ?_
  refine ok_end (ok_then ?_)
  refine ok_cond (g rfl) (fun h1 => ?_) (fun h1 => ?_)
  · have hlt : i < j := by simpa using h1
    have hjn2 : j ≤ l.length := hjn
    have hf2 : j - i ≤ f := hf1
    have hm : (i + j) / 2 < l.length := by omega
    have hmid := mid (i := i) (j := j) (by omega)
    refine ok_skip (ok_then ?_)
    refine ok_block ?_
    refine ok_seq ?_
    refine ok_region rfl ?_
    refine k (mv (g rfl)) ?_
    refine k (mv (g rfl)) ?_
    refine k (bn (g rfl) (g rfl) rfl) ?_
    refine k (cvi (g rfl) i3 i89) ?_
    refine k (sh (g rfl) gi (by decide)) ?_
    refine k (cvi (g rfl) i89 i3) ?_
    refine k (asg (g rfl)) ?_
    refine ok_end (ok_then ?_)
    refine ok_seq ?_
    refine ok_draw [24, 25, 26, 27, 28, 29, 30, 31] rfl (by kernel_rfl) ?_
    refine dr (mv (g rfl)) ?_
    refine dr (mv (g rfl)) ?_
    refine dr (mv (g rfl)) ?_
    refine dr (ixn (g rfl) (g rfl) e33 hmid hm) ?_
    refine dr (lR (g rfl) t32 (Nat.le_of_ble_eq_true rfl)) ?_
    refine dr (lB (g rfl) t32 rfl rfl) ?_
    refine dr (cv (g rfl) rfl (a1 (g rfl) rfl (a1 (g rfl) rfl a0)) (hf _ (List.getElem_mem _))) ?_
    refine dr (bn (g rfl) gi rfl) ?_
    refine draw_end mixed (ok_then ?_)
    refine ok_cond (g rfl) (fun h2 => ?_) (fun h2 => ?_)
    · refine ok_region rfl ?_
      refine k (mv (g rfl)) ?_
      refine k (bn (g rfl) gi rfl) ?_
      refine k (asg (g rfl)) ?_
      exact ok_end (ok_inBlock_normal (ok_round 1 ⟨((i + j) / 2 + 1, j, f - 1), ⟨by show (i + j) / 2 + 1 ≤ j; omega, hjn⟩, by show j - ((i + j) / 2 + 1) ≤ f - 1; omega, bs_lo (n := 0) hlt hf1 hz (by rw [at_get hm]; simpa using h2)⟩ (by show j - ((i + j) / 2 + 1) < j - i; omega) (le_upd ((congrArg (fun n => some (AV.d (.int .i64 (IntKind.i64.wrap (n + 1))))) hmid).trans (winc (k := (i + j) / 2) (by omega))) (le_upd rfl (le_keep ⟨rfl, rfl, rfl, rfl, trivial⟩))) (eb_upd rfl (eb_upd rfl eb_keep)) rfl rfl rfl))
    · refine ok_region rfl ?_
      refine k (mv (g rfl)) ?_
      refine k (asg (g rfl)) ?_
      exact ok_end (ok_inBlock_normal (ok_round 1 ⟨(i, (i + j) / 2, f - 1), ⟨by show i ≤ (i + j) / 2; omega, by show (i + j) / 2 ≤ l.length; omega⟩, by show (i + j) / 2 - i ≤ f - 1; omega, bs_hi (n := 0) hlt hf1 hz (by rw [at_get hm]; simpa using h2)⟩ (by show (i + j) / 2 - i < j - i; omega) (le_upd rfl (le_upd (congrArg (fun n => some (AV.d (.int .i64 n))) hmid) (le_keep ⟨rfl, rfl, rfl, rfl, trivial⟩))) (eb_upd rfl (eb_upd rfl eb_keep)) rfl rfl rfl))
  · have hnl : ¬ i < j := by simpa using h1
    have hP := bs_end hnl hz
    refine ok_exit (ok_then_exit (ok_then_exit (ok_inBlock_exit (ok_then ?_))))
    refine ok_seq ?_
    refine ok_draw [35, 36, 37, 38, 39, 40, 41, 42, 43, 44, 45, 46, 47, 48, 6, 7] rfl (by kernel_rfl) ?_
    refine dr (mv (g rfl)) ?_
    refine dr (mv (g rfl)) ?_
    refine dr (mv (g rfl)) ?_
    refine dr (bn (g rfl) (g rfl) rfl) ?_
    refine dr (mv (g rfl)) ?_
    refine dg rfl rfl rfl (fun hg => mv (g rfl)) ?_
    refine dg rfl rfl rfl (fun hg => mv (g rfl)) ?_
    refine dg rfl rfl rfl (fun hg => mv (g rfl)) ?_
    refine dg rfl rfl rfl (fun hg => ixd mu0 (go rfl hg) (go rfl hg) e33 rfl (by simpa using hg)) ?_
    refine dg rfl rfl rfl (fun hg => lR (go rfl hg) t32 (Nat.le_of_ble_eq_true rfl)) ?_
    refine dg rfl rfl rfl (fun hg => lB (g rfl) t32 rfl rfl) ?_
    refine dg rfl rfl rfl (fun hg => cv (go rfl hg) rfl (a1 (go rfl hg) rfl (a1 (go rfl hg) rfl a0)) (hf _ (getD_mem' (by simpa using hg)))) ?_
    refine dg rfl rfl rfl (fun hg => bn (go rfl hg) gi rfl) ?_
    refine dr (an (g rfl) (fun h => (go rfl (by rw [h]; rfl)))) ?_
    refine dr (asg (g rfl)) ?_
    refine dr (asg (g rfl)) ?_
    refine draw_end mixed (ok_then ?_)
    exact ok_ret (ret_2 rfl (.tmp rfl) (.tmp rfl) (bsRes (f := Mu.d) (d := mu0) hP))
end Go.Aw
