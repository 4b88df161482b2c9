/- Contracts of functions of the program, walked: c_state_Content_cell. By an AI agent. -/
import Derived.Test.YtknekkemmbgceaaGreatDoorW11
import Derived.Test.YtknekkemmbgceaaGreatDoorSp
set_option linter.all false
/-! W12 -/
namespace Go.Aw
open Go.RowKit Go.Proofs
private theorem e33 : elemF Pr 33 = some (32, 10) := by kernel_rfl
private theorem f32_2 : fldF Pr 32 2 = some (2, 1, false) := by kernel_rfl
private theorem f32_6 : fldF Pr 32 6 = some (6, 3, true) := by kernel_rfl
private theorem f35_0 : fldF Pr 35 0 = some (0, 1, false) := by kernel_rfl
private theorem t29 : tyF Pr 29 = some (3, true) := by kernel_rfl
private theorem t32 : tyF Pr 32 = some (10, true) := by kernel_rfl
private theorem t33 : tyF Pr 33 = some (1, false) := by kernel_rfl
private theorem t35 : tyF Pr 35 = some (3, true) := by kernel_rfl
private theorem t9 : tyF Pr 9 = some (1, false) := by kernel_rfl
private theorem z32 : ZeroSz Pr 32 10 := ⟨.agg #[.int .i64 0, .int .i64 0, .string ⟨#[]⟩, .string ⟨#[]⟩, .string ⟨#[]⟩, .int .i64 0, .int .i64 0, .int .i64 0, .int .i64 0, .slice none 0 0], fun _ => by kernel_rfl, rfl⟩
private theorem zo35 : ZeroOk Pr 35 [.d (.list 10 []), .d (.list 10 []), .d (.list 10 [])] := ⟨.agg #[.slice none 0 0, .slice none 0 0, .slice none 0 0], fun _ => by kernel_rfl, fun μ ρ => (rcc zl (rcc zl (rcc zl rcn))), by simp [Value.cells, Value.oneCell']⟩
set_option maxRecDepth 20000 in
theorem c_state_Content_cell (c : Ct) (m : Mu) (hl : c.cells.length ≤ 1000000) (hw : c.wipes.length ≤ 1000000) (ho : ∀ x ∈ c.cells, x.over.length < 4611686018427387904) : Pure Pr 44 [c.d, m.d] (c.cell m).d := by
  refine pure_of Tryz.func44 (by kernel_rfl) rfl Tryz.ntmps44 (by simp) fun w μ => ?_
  refine ok_seq ?_
  refine ok_region rfl ?_
  refine kbox (n := 0) (g rfl) rfl rfl ?_
  refine kbox (n := 1) (g rfl) rfl rfl ?_
  refine kal (n := 2) zo35 rfl ?_
  refine ok_end (ok_then ?_)
  refine ok_seq ?_
  refine ok_seq ?_
  refine ok_region rfl ?_
  refine k (lB (g rfl) t35 rfl rfl) ?_
  refine k (fb (g rfl) f32_2) ?_
  refine k (lb (g rfl) t9 rfl rfl) ?_
  refine k (fb (g rfl) f32_6) ?_
  refine k (lB (g rfl) t29 rfl rfl) ?_
  refine k (cl (a1 (g rfl) rfl (a1 (g rfl) rfl (a1 (g rfl) rfl a0))) (c_state_Covered c m.key m.at_ (by omega))) ?_
  refine ok_end (ok_then ?_)
  refine ok_cond (g rfl) (fun h1 => ?_) (fun h1 => ?_)
  · refine ok_seq ?_
    refine ok_region rfl ?_
    refine k (lB (g rfl) t35 rfl rfl) ?_
    refine kst (g rfl) (g rfl) t35 rfl rfl rfl rfl ?_
    refine ok_end (ok_then ?_)
    exact ok_ret (ok_then_ret (ret_cellA rfl rfl rfl t35 rfl (by rw [Ct.cell, if_pos h1]; rfl)))
  · refine ok_skip (ok_then ?_)
    refine ok_seq ?_
    refine ok_region rfl ?_
    refine k (fb (g rfl) f35_0) ?_
    refine k (lb (g rfl) t33 rfl rfl) ?_
    refine k (fb (g rfl) f32_2) ?_
    refine k (lb (g rfl) t9 rfl rfl) ?_
    refine k (cl (a1 (g rfl) rfl (a1 (g rfl) rfl a0)) (c_state_place c.cells m.key (by omega))) ?_
    refine k (mv (g rfl)) ?_
    refine k (ex (g rfl) rfl) ?_
    refine k (ex (g rfl) rfl) ?_
    refine k (asg (g rfl)) ?_
    refine k (asg (g rfl)) ?_
    refine ok_end (ok_then ?_)
    refine ok_seq ?_
    refine ok_block ?_
    refine ok_seq ?_
    refine ok_region rfl ?_
    refine k (mv (g rfl)) ?_
    refine k (nt (g rfl)) ?_
    refine k (asg (g rfl)) ?_
    refine ok_end (ok_then ?_)
    refine ok_cond (g rfl) (fun h2 => ?_) (fun h2 => ?_)
    · refine ok_drawF [fun L => L ++ [.row 32 10 (c.cells.map Mu.d)], fun L => L.set 3 .dead ++ [.dead, .row 32 10 ((c.cells.take (bsP (fun x : Mu => cmpS x.key m.key) c.cells) ++ [m] ++ c.cells.drop (bsP (fun x : Mu => cmpS x.key m.key) c.cells)).map Mu.d)], fun L => L.set 0 (.box 35 [.row 5, .d (mus c.wipes), .d (mus c.sibs)])] [25, 26, 27, 28, 29, 30, 31, 32] [2, 6, 8] [0, 1, 3, 0, 0, 16, 63, 127, 255] rfl (by kernel_rfl) ?_
      refine ss [0] rfl rfl ⟨fb (g rfl) f35_0, trivial⟩ ?_
      refine ss [0] rfl rfl ⟨lb (g rfl) t33 rfl rfl, trivial⟩ ?_
      refine se 0 rfl (ekE [] (s1d (g rfl) rfl s0) (c_slices_Clone_sMut_Mut (c.cells.map Mu.d) (mus_plain _) (by simp; omega)) ⟨rfl, trivial⟩ (by simp) rfl rfl (r' := .row 3) rfl rfl) ?_
      refine ss [0, 1] rfl rfl ⟨mv (g rfl), mv (g rfl), trivial⟩ ?_
      refine ss [0, 1] rfl rfl ⟨lB (g rfl) t32 rfl rfl, lB (g rfl) t32 rfl rfl, trivial⟩ ?_
      refine ss [0, 1] rfl rfl ⟨mk e33 z32 (p1 (g rfl) rfl p0) rfl rfl rfl rfl rfl, mk e33 z32 (p1 (g rfl) rfl p0) rfl rfl rfl rfl rfl, trivial⟩ ?_
      refine se 1 rfl (ekE [3] (s1 (a := .row 0) (g rfl) rfl (s1d (g rfl) rfl (s1d (g rfl) rfl s0))) (c_slices_Insert_sMut_Mut c.cells [m] (bsP (fun x : Mu => cmpS x.key m.key) c.cells) (bsP_le _ _) (by simp) (by simp; omega)) ⟨rfl, ⟨⟨_, rfl, rfl⟩, trivial⟩⟩ (by simp) rfl rfl (r' := .row 5) rfl rfl) ?_
      refine ss [2] rfl rfl ⟨fb (g rfl) f35_0, trivial⟩ ?_
      refine se0 2 rfl (stbE (g rfl) (g rfl) t33 rfl rfl rfl rfl rfl) ?_
      refine draws_end mixed (by kernel_rfl) rfl rfl (ok_inBlock_normal (ok_then ?_))
      refine ok_seq ?_
      refine ok_freeze 5 rfl (mus_plain _) ?_
      refine ok_region rfl ?_
      refine k (lB (g rfl) t35 rfl rfl) ?_
      refine kst (g rfl) (g rfl) t35 rfl rfl rfl rfl ?_
      refine ok_end (ok_then ?_)
      exact ok_ret (ret_cellA rfl rfl rfl t35 rfl (by rw [Ct.cell, if_neg (by simpa using h1), if_neg (by simpa using h2)]; rfl))
    · have hF : bsF (fun x : Mu => cmpS x.key m.key) c.cells = true := by simpa using h2
      have hlt := bsF_lt hF
      refine ok_seq ?_
      refine ok_draw [34, 35, 36, 37, 38, 39, 40, 41, 33] rfl (by kernel_rfl) ?_
      refine dr (fb (g rfl) f35_0) ?_
      refine dr (lb (g rfl) t33 rfl rfl) ?_
      refine dr (mv (g rfl)) ?_
      refine dr (ixd mu0 (g rfl) (g rfl) e33 rfl hlt) ?_
      refine dr (lR (g rfl) t32 (Nat.le_of_ble_eq_true rfl)) ?_
      refine dr (lB (g rfl) t32 rfl rfl) ?_
      refine dr (cl (a1 (g rfl) rfl (a1 (g rfl) rfl a0)) (c_mut_Compare (c.cells.getD (bsP (fun x : Mu => cmpS x.key m.key) c.cells) mu0) m (ho _ (getD_mem' hlt)))) ?_
      refine dr (bn (g rfl) gi rfl) ?_
      refine dr (asg (g rfl)) ?_
      refine draw_end mixed (ok_then ?_)
      refine ok_cond (g rfl) (fun h3 => ?_) (fun h3 => ?_)
      · refine ok_seq ?_
        refine ok_region rfl ?_
        refine k (fb (g rfl) f35_0) ?_
        refine k (lb (g rfl) t33 rfl rfl) ?_
        refine ks [] (s1d (g rfl) rfl s0) (c_slices_Clone_sMut_Mut (c.cells.map Mu.d) (mus_plain _) (by simp; omega)) ⟨rfl, trivial⟩ (by simp) rfl rfl ?_
        refine k (fb (g rfl) f35_0) ?_
        refine kst (g rfl) (g rfl) t33 rfl rfl rfl rfl ?_
        refine ok_end (ok_then ?_)
        refine ok_region rfl ?_
        refine k (fb (g rfl) f35_0) ?_
        refine k (lb (g rfl) t33 rfl rfl) ?_
        refine k (mv (g rfl)) ?_
        refine k (lB (g rfl) t32 rfl rfl) ?_
        refine k (ixr (g rfl) rfl (g rfl) e33 rfl (by simpa using hlt)) ?_
        refine ke0 (str (g rfl) (g rfl) rfl rfl t32 rfl rfl rfl (by simpa using hlt)) ?_
        refine ok_end (ok_inBlock_normal (ok_then ?_))
        refine ok_seq ?_
        refine ok_eqL [.box 35 [.row 3, .d (mus c.wipes), .d (mus c.sibs)], _, _, .row 32 10 ((c.cells.set (bsP (fun x : Mu => cmpS x.key m.key) c.cells) m).map Mu.d)] (by rw [List.map_set]; rfl) ?_
        refine ok_freeze 3 rfl (mus_plain _) ?_
        refine ok_region rfl ?_
        refine k (lB (g rfl) t35 rfl rfl) ?_
        refine kst (g rfl) (g rfl) t35 rfl rfl rfl rfl ?_
        refine ok_end (ok_then ?_)
        exact ok_ret (ret_cellA rfl rfl rfl t35 rfl (by rw [Ct.cell, if_neg (by simpa using h1), if_pos hF, if_pos (by simpa using h3)]; rfl))
      · refine ok_skip (ok_inBlock_normal (ok_then ?_))
        refine ok_seq ?_
        refine ok_region rfl ?_
        refine k (lB (g rfl) t35 rfl rfl) ?_
        refine kst (g rfl) (g rfl) t35 rfl rfl rfl rfl ?_
        refine ok_end (ok_then ?_)
        exact ok_ret (ret_cellA rfl rfl rfl t35 rfl (by rw [Ct.cell, if_neg (by simpa using h1), if_pos hF, if_neg (by simpa using h3)]; rfl))
end Go.Aw
