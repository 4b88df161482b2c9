/- Contracts of functions of the program, walked: c_slices_Concat_sMut_Mut, c_slices_Concat_sMut_Mut_p, c_state_Content_All, c_state_Content_Add. By an AI agent. -/
import Derived.Test.YtknekkemmbgceaaGreatDoorW22
import Derived.Test.YtknekkemmbgceaaGreatDoorSp
set_option linter.all false
/-! W23 -/
namespace Go.Aw
open Go.RowKit Go.Proofs
private theorem ap33 : AppF Pr 33 32 10 120 := appF_out (by kernel_rfl)
private theorem e117 : elemF Pr 117 = some (33, 1) := by kernel_rfl
private theorem e33 : elemF Pr 33 = some (32, 10) := by kernel_rfl
private theorem f32_0 : fldF Pr 32 0 = some (0, 1, false) := by kernel_rfl
private theorem f32_1 : fldF Pr 32 1 = some (1, 1, false) := by kernel_rfl
private theorem f35_0 : fldF Pr 35 0 = some (0, 1, false) := by kernel_rfl
private theorem f35_1 : fldF Pr 35 1 = some (1, 1, false) := by kernel_rfl
private theorem f35_2 : fldF Pr 35 2 = some (2, 1, false) := by kernel_rfl
private theorem t26 : tyF Pr 26 = some (1, false) := by kernel_rfl
private theorem t27 : tyF Pr 27 = some (1, false) := by kernel_rfl
private theorem t32 : tyF Pr 32 = some (10, true) := by kernel_rfl
private theorem t33 : tyF Pr 33 = some (1, false) := by kernel_rfl
private theorem t35 : tyF Pr 35 = some (3, true) := by kernel_rfl
private theorem z33 : ZeroSz Pr 33 1 := ⟨.slice none 0 0, fun _ => by kernel_rfl, rfl⟩
private theorem zo35 : ZeroOk Pr 35 [.d (.list 10 []), .d (.list 10 []), .d (.list 10 [])] := ⟨.agg #[.slice none 0 0, .slice none 0 0, .slice none 0 0], fun _ => by kernel_rfl, fun μ ρ => (rcc zl (rcc zl (rcc zl rcn))), by simp [Value.cells, Value.oneCell']⟩
theorem flat3 {a b c : List Mu} : [a, b, c].flatten = a ++ (b ++ c) := by simp

set_option maxRecDepth 20000 in
theorem c_slices_Concat_sMut_Mut (ls : List (List Mu)) (hl : ls.length ≤ 1000000) (hn : ls.flatten.length ≤ 1000000000) : Spec Pr 68 [.d (.list 1 (ls.map mus))] [] (.row 2) [.dead, .dead, .row 32 10 ((ls.flatten).map Mu.d)] := by
  refine spec_of Tryz.func68 (by kernel_rfl) rfl Tryz.ntmps68 (by simp) fun w μ ρ => ?_
  refine ok_seq ?_
  refine ok_region rfl ?_
  refine k (asg gN) ?_
  refine ok_end (ok_then ?_)
  refine ok_seq ?_
  refine ok_region rfl ?_
  refine k (asg gi) ?_
  refine ok_end (ok_then ?_)
  refine ok_seq ?_
  refine ok_seq ?_
  refine ok_region rfl ?_
  refine k (mv (g rfl)) ?_
  refine k (ln (g rfl) e117) ?_
  refine k (mv gi) ?_
  refine ok_end (ok_then ?_)
  refine ok_block ?_
  refine ok_loop (ι := { k : Nat // k ≤ ls.length }) 0 (fun i => ls.length - i.1) (fun i => (upd 11 (.d (.int .i64 (i.1 : Nat))) (upd 3 (.d (I (pre ls i.1 : Nat))) (keepB 0 [0, 9, 10] _)))) (fun _ => _) ⟨0, Nat.zero_le _⟩ (le_upd rfl (le_upd rfl le_keep_self)) (eb_upd rfl (eb_upd rfl eb_keep)) rfl rfl rfl ?_
  rintro ⟨q, hk⟩
  refine ok_seq ?_
  refine ok_region rfl ?_
  refine k (bn (g rfl) (g rfl) rfl) ?_
  refine ok_end (ok_then ?_)
  refine ok_seq ?_
  refine ok_cond (g rfl) (fun h1 => ?_) (fun h1 => ?_)
  · have hq : q < ls.length := by simp at h1; exact h1
    have hp1 := pre_le ls (q + 1)
    have hp2 := pre_succ hq
    have hw : IntKind.i64.wrap ((pre ls q : Int) + (((ls[q]).map Mu.d).length : Int)) = ((pre ls (q + 1) : Nat) : Int) := by rw [List.length_map, wrap_i64 (by omega) (by omega)]; omega
    refine ok_skip (ok_then ?_)
    refine ok_seq ?_
    refine ok_block ?_
    refine ok_seq ?_
    refine ok_region rfl ?_
    refine k (ixm (g rfl) (g rfl) e117 hq) ?_
    refine k (lr (g rfl) t33 rfl) ?_
    refine k (asg (g rfl)) ?_
    refine ok_end (ok_then ?_)
    refine ok_seq ?_
    refine ok_region rfl ?_
    refine k (mv (g rfl)) ?_
    refine k (mv (g rfl)) ?_
    refine k (ln (g rfl) e33) ?_
    refine k (bn (g rfl) (g rfl) rfl) ?_
    refine k (asg (g rfl)) ?_
    refine ok_end (ok_then ?_)
    refine ok_seq ?_
    refine ok_region rfl ?_
    refine k (mv (g rfl)) ?_
    refine k (bn (g rfl) gi rfl) ?_
    refine ok_end (ok_then ?_)
    refine ok_cond (g rfl) (fun h2 => ?_) (fun h2 => ?_)
    · exfalso; have h2 := of_decide_eq_true h2; rw [show IntKind.i64.wrap _ = _ from hw] at h2; omega
    · refine ok_skip (ok_inBlock_normal (ok_then ?_))
      refine ok_region rfl ?_
      refine k (bn (g rfl) gi rfl) ?_
      refine k (mv (g rfl)) ?_
      exact ok_end (ok_round 0 ⟨q + 1, hq⟩ (by show ls.length - (q + 1) < ls.length - q; omega) (le_upd (winc (k := q) (by omega)) (le_upd (congrArg (fun z => some (AV.d (I z))) hw) (le_keep ⟨rfl, rfl, rfl, trivial⟩))) (eb_upd rfl (eb_upd rfl eb_keep)) rfl rfl rfl)
  · have hq : q = ls.length := by simp at h1; omega
    refine ok_exit (ok_then_exit (ok_then_exit (ok_inBlock_exit (ok_then ?_))))
    refine ok_seq ?_
    refine ok_region rfl ?_
    refine k (mv (g rfl)) ?_
    refine ks [] (s1d gN rfl (s1d (g rfl) rfl s0)) (c_slices_Grow_sMut_Mut (pre ls q) (by have := pre_le ls q; omega)) ⟨rfl, trivial⟩ (by simp) rfl rfl ?_
    refine k (asg (g rfl)) ?_
    refine ok_end (ok_then ?_)
    refine ok_seq ?_
    refine ok_seq ?_
    refine ok_region rfl ?_
    refine k (mv (g rfl)) ?_
    refine k (ln (g rfl) e117) ?_
    refine k (mv gi) ?_
    refine ok_end (ok_then ?_)
    refine ok_block ?_
    refine ok_loop (ι := { k : Nat // k ≤ ls.length }) 3 (fun i => ls.length - i.1) (fun i => (upd 27 (.d (.int .i64 (i.1 : Nat))) (upd 6 (.row 2) (keepB 3 [25, 26] _)))) (fun i => [.dead, .dead, .row 32 10 (((ls.take i.1).flatten).map Mu.d)]) ⟨0, Nat.zero_le _⟩ (le_upd rfl (le_upd rfl le_keep_self)) (eb_upd rfl (eb_upd rfl eb_keep)) rfl rfl rfl ?_
    rintro ⟨q, hk⟩
    refine ok_seq ?_
    refine ok_region rfl ?_
    refine k (bn (g rfl) (g rfl) rfl) ?_
    refine ok_end (ok_then ?_)
    refine ok_seq ?_
    refine ok_cond (g rfl) (fun h3 => ?_) (fun h3 => ?_)
    · have hq : q < ls.length := by simp at h3; exact h3
      have hp1 := pre_le ls (q + 1)
      have hp2 := pre_succ hq
      have hp3 : ((ls.take q).flatten).length = pre ls q := rfl
      refine ok_skip (ok_then ?_)
      refine ok_seq ?_
      refine ok_block ?_
      refine ok_seq ?_
      refine ok_region rfl ?_
      refine k (ixm (g rfl) (g rfl) e117 hq) ?_
      refine k (lr (g rfl) t33 rfl) ?_
      refine k (asg (g rfl)) ?_
      refine ok_end (ok_then ?_)
      refine ok_region rfl ?_
      refine k (mv (g rfl)) ?_
      refine k (mv (g rfl)) ?_
      refine ok_append (g rfl) (g rfl) ap33 rfl (fun _ => rfl) (by rw [List.length_map, List.length_map]; show ((ls.take q).flatten.length + ls[q].length) * _ ≤ _; omega) (by rw [List.length_map, List.length_map]; show (ls.take q).flatten.length + ls[q].length ≤ _; omega) rfl rfl ?_
      refine k (asg (g rfl)) ?_
      refine ok_end (ok_inBlock_normal (ok_then ?_))
      refine ok_region rfl ?_
      refine k (bn (g rfl) gi rfl) ?_
      refine k (mv (g rfl)) ?_
      exact ok_end (ok_round 3 ⟨q + 1, hq⟩ (by show ls.length - (q + 1) < ls.length - q; omega) (le_upd (winc (k := q) (by omega)) (le_upd rfl (le_keep ⟨rfl, rfl, trivial⟩))) (eb_upd rfl (eb_upd rfl eb_keep)) (congrArg (fun z => [AO.dead, .dead, .row 32 10 z]) (flat_succ hq)) rfl rfl)
    · have hq3 : q = ls.length := by simp at h3; omega
      refine ok_exit (ok_then_exit (ok_then_exit (ok_inBlock_exit (ok_then ?_))))
      refine ok_seq ?_
      refine ok_region rfl ?_
      refine k (mv (g rfl)) ?_
      refine k (asg (g rfl)) ?_
      refine ok_end (ok_then ?_)
      refine ok_eqL [.dead, .dead, .row 32 10 ((ls.flatten).map Mu.d)] (by subst hq3; rw [List.take_length]) ?_
      exact ok_ret (sret_tmp rfl rfl)

theorem c_slices_Concat_sMut_Mut_p (ls : List (List Mu)) (hl : ls.length ≤ 1000000) (hn : ls.flatten.length ≤ 1000000000) : Pure Pr 68 [.list 1 (ls.map mus)] (mus ls.flatten) := pure_of_rowI (c_slices_Concat_sMut_Mut ls hl hn) rfl (mus_plain _)

set_option maxRecDepth 20000 in
theorem c_state_Content_All (c : Ct) (hc : c.le 300000) (hl : c.lite) : Pure Pr 45 [c.d] (mus c.all) := by
  have hc1 := hc.cells
  have hc2 := hc.wipes
  have hc3 := hc.sibs
  have hll : [c.cells, c.wipes, c.sibs].flatten.length ≤ 1000000 := by simp; omega
  have hlt : ∀ m ∈ [c.cells, c.wipes, c.sibs].flatten, m.lite := fun m hm => by
    simp only [List.flatten_cons, List.flatten_nil, List.append_nil, List.mem_append] at hm
    exact hm.elim (hl.cells m) fun h => h.elim (hl.wipes m) (hl.sibs m)
  refine pure_of Tryz.func45 (by kernel_rfl) rfl Tryz.ntmps45 (by simp) fun w μ => ?_
  refine ok_seq ?_
  refine ok_region rfl ?_
  refine kbox (n := 0) (g rfl) rfl rfl ?_
  refine k (asg gN) ?_
  refine ok_end (ok_then ?_)
  refine ok_seq ?_
  refine ok_region rfl ?_
  refine k (fb (g rfl) f35_0) ?_
  refine k (lb (g rfl) t33 rfl rfl) ?_
  refine k (fb (g rfl) f35_1) ?_
  refine k (lb (g rfl) t33 rfl rfl) ?_
  refine k (fb (g rfl) f35_2) ?_
  refine k (lb (g rfl) t33 rfl rfl) ?_
  refine k (mk e117 z33 (p1 (g rfl) rfl (p1 (g rfl) rfl (p1 (g rfl) rfl p0))) rfl rfl rfl rfl rfl) ?_
  refine k (cl (a1 (g rfl) rfl a0) (c_slices_Concat_sMut_Mut_p [c.cells, c.wipes, c.sibs] (by simp) (by omega))) ?_
  refine ks [] (s1d (g rfl) rfl s0) (c_mut_Copies [c.cells, c.wipes, c.sibs].flatten hll (fun x hx => by have := hlt x hx; unfold Mu.lite at this; omega)) ⟨rfl, trivial⟩ (by simp) rfl rfl ?_
  refine k (asg (g rfl)) ?_
  refine ok_end (ok_then ?_)
  refine ok_seq ?_
  refine ok_region rfl ?_
  refine k (mv (g rfl)) ?_
  refine ks [1] (s1 (a := .row 0) (g rfl) rfl (s1d gf rfl s0)) (c_slices_SortFunc_sMut_Mut [c.cells, c.wipes, c.sibs].flatten (by omega) hlt) ⟨rfl, ⟨⟨_, rfl, rfl⟩, trivial⟩⟩ (by simp) rfl rfl ?_
  refine ok_end (ok_then ?_)
  refine ok_seq ?_
  refine ok_freeze 1 rfl (mus_plain _) ?_
  refine ok_region rfl ?_
  refine k (mv (g rfl)) ?_
  refine k (asg (g rfl)) ?_
  refine ok_end (ok_then ?_)
  exact ok_ret (ret_tmp rfl rfl (by rw [Ct.all, List.append_assoc, ← flat3]; rfl))

set_option maxRecDepth 20000 in
theorem c_state_Content_Add (c : Ct) (m : Mu) (hc : c.le 1000000) (hl : c.lite) (hm : m.lite) : Pure Pr 26 [c.d, m.d] (c.add m).d := by
  have hc1 := hc.cells
  have hc2 := hc.wipes
  have hc3 := hc.sibs
  have hm1 : m.over.length ≤ 1000000 := hm
  refine pure_of Tryz.func26 (by kernel_rfl) rfl Tryz.ntmps26 (by simp) fun w μ => ?_
  refine ok_seq ?_
  refine ok_region rfl ?_
  refine kbox (n := 0) (g rfl) rfl rfl ?_
  refine kbox (n := 1) (g rfl) rfl rfl ?_
  refine kal (n := 2) zo35 rfl ?_
  refine ok_end (ok_then ?_)
  refine ok_seq ?_
  refine ok_block ?_
  refine ok_seq ?_
  refine ok_region rfl ?_
  refine k (lB (g rfl) t32 rfl rfl) ?_
  refine k (cl (a1 (g rfl) rfl a0) (c_mut_Right m (by omega))) ?_
  refine k (nt (g rfl)) ?_
  refine k (asg (g rfl)) ?_
  refine ok_end (ok_then ?_)
  refine ok_cond (g rfl) (fun h1 => ?_) (fun h1 => ?_)
  · have hr : m.right = false := nF h1
    refine ok_seq ?_
    refine ok_region rfl ?_
    refine k (lB (g rfl) t35 rfl rfl) ?_
    refine kst (g rfl) (g rfl) t35 rfl rfl rfl rfl ?_
    refine ok_end (ok_then ?_)
    exact ok_ret (ok_inBlock_ret (ok_then_ret (ret_cellA rfl rfl rfl t35 rfl (by rw [Ct.add, if_neg (by rw [hr]; decide)]; rfl))))
  · have hr : m.right = true := nT h1
    refine ok_seq ?_
    refine ok_region rfl ?_
    refine k (fb (g rfl) f32_0) ?_
    refine k (lb (g rfl) t26 rfl rfl) ?_
    refine k (bn (g rfl) gi rfl) ?_
    refine k (asg (g rfl)) ?_
    refine ok_end (ok_then ?_)
    refine ok_cond (g rfl) (fun h2 => ?_) (fun h2 => ?_)
    · refine ok_seq ?_
      refine ok_drawF [fun L => L.set 2 (.box 35 [.d (mus (c.sib m).cells), .d (mus (c.sib m).wipes), .d (mus (c.sib m).sibs)])] [14, 15, 16, 17] [4] [0, 0, 2, 7, 15] rfl (by kernel_rfl) ?_
      refine ss [0] rfl rfl ⟨lB (g rfl) t35 rfl rfl, trivial⟩ ?_
      refine ss [0] rfl rfl ⟨lB (g rfl) t32 rfl rfl, trivial⟩ ?_
      refine ss [0] rfl rfl ⟨cl (a1 (g rfl) rfl a0) (c_mut_Copy m (by omega)), trivial⟩ ?_
      refine ss [0] rfl rfl ⟨cl (a1 (g rfl) rfl (a1 (g rfl) rfl a0)) (c_state_Content_sib c m hc3 (fun x hx => by have := hl.sibs x hx; unfold Mu.lite at this; omega)), trivial⟩ ?_
      refine se0 0 rfl (stbE (g rfl) (g rfl) t35 rfl rfl rfl rfl rfl) ?_
      refine draws_end mixed (by kernel_rfl) rfl rfl (ok_then ?_)
      exact ok_ret (ok_inBlock_ret (ok_then_ret (ret_cellA rfl rfl rfl t35 rfl (by rw [Ct.add, if_pos hr, if_pos h2]; rfl))))
    · refine ok_seq ?_
      refine ok_region rfl ?_
      refine k (fb (g rfl) f32_1) ?_
      refine k (lb (g rfl) t27 rfl rfl) ?_
      refine k (bn (g rfl) gi rfl) ?_
      refine k (asg (g rfl)) ?_
      refine ok_end (ok_then ?_)
      refine ok_cond (g rfl) (fun h3 => ?_) (fun h3 => ?_)
      · refine ok_seq ?_
        refine ok_drawF [fun L => L.set 2 (.box 35 [.d (mus (c.wipe m).cells), .d (mus (c.wipe m).wipes), .d (mus (c.wipe m).sibs)])] [22, 23, 24, 25] [4] [0, 0, 2, 7, 15] rfl (by kernel_rfl) ?_
        refine ss [0] rfl rfl ⟨lB (g rfl) t35 rfl rfl, trivial⟩ ?_
        refine ss [0] rfl rfl ⟨lB (g rfl) t32 rfl rfl, trivial⟩ ?_
        refine ss [0] rfl rfl ⟨cl (a1 (g rfl) rfl a0) (c_mut_Copy m (by omega)), trivial⟩ ?_
        refine ss [0] rfl rfl ⟨cl (a1 (g rfl) rfl (a1 (g rfl) rfl a0)) (c_state_Content_wipe c m hc hl hm), trivial⟩ ?_
        refine se0 0 rfl (stbE (g rfl) (g rfl) t35 rfl rfl rfl rfl rfl) ?_
        refine draws_end mixed (by kernel_rfl) rfl rfl (ok_then ?_)
        exact ok_ret (ok_inBlock_ret (ok_then_ret (ret_cellA rfl rfl rfl t35 rfl (by rw [Ct.add, if_pos hr, if_neg (by rw [h2]; decide), if_pos h3]; rfl))))
      · refine ok_skip (ok_inBlock_normal (ok_then ?_))
        refine ok_seq ?_
        refine ok_drawF [fun L => L.set 2 (.box 35 [.d (mus (c.cell m).cells), .d (mus (c.cell m).wipes), .d (mus (c.cell m).sibs)])] [26, 27, 28, 29] [4] [0, 0, 2, 7, 15] rfl (by kernel_rfl) ?_
        refine ss [0] rfl rfl ⟨lB (g rfl) t35 rfl rfl, trivial⟩ ?_
        refine ss [0] rfl rfl ⟨lB (g rfl) t32 rfl rfl, trivial⟩ ?_
        refine ss [0] rfl rfl ⟨cl (a1 (g rfl) rfl a0) (c_mut_Copy m (by omega)), trivial⟩ ?_
        refine ss [0] rfl rfl ⟨cl (a1 (g rfl) rfl (a1 (g rfl) rfl a0)) (c_state_Content_cell c m hc1 hc2 (fun x hx => by have := hl.cells x hx; unfold Mu.lite at this; omega)), trivial⟩ ?_
        refine se0 0 rfl (stbE (g rfl) (g rfl) t35 rfl rfl rfl rfl rfl) ?_
        refine draws_end mixed (by kernel_rfl) rfl rfl (ok_then ?_)
        exact ok_ret (ret_cellA rfl rfl rfl t35 rfl (by rw [Ct.add, if_pos hr, if_neg (by rw [h2]; decide), if_neg (by rw [h3]; decide)]; rfl))
end Go.Aw
