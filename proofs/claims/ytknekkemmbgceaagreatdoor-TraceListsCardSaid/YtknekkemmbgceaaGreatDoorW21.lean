/- Contracts of functions of the program, walked: c_state_Content_wipe. By an AI agent. -/
import Derived.Test.YtknekkemmbgceaaGreatDoorW20
set_option linter.all false
/-! W21 -/
namespace Go.Aw
open Go.RowKit Go.Proofs
private theorem ap33 : AppF Pr 33 32 10 120 := appF_out (by kernel_rfl)
private theorem e33 : elemF Pr 33 = some (32, 10) := by kernel_rfl
private theorem f35_0 : fldF Pr 35 0 = some (0, 1, false) := by kernel_rfl
private theorem f35_1 : fldF Pr 35 1 = some (1, 1, false) := by kernel_rfl
private theorem t32 : tyF Pr 32 = some (10, true) := by kernel_rfl
private theorem t33 : tyF Pr 33 = some (1, false) := by kernel_rfl
private theorem t35 : tyF Pr 35 = some (3, true) := by kernel_rfl
private theorem z32 : ZeroSz Pr 32 10 := ⟨.agg #[.int .i64 0, .int .i64 0, .string ⟨#[]⟩, .string ⟨#[]⟩, .string ⟨#[]⟩, .int .i64 0, .int .i64 0, .int .i64 0, .int .i64 0, .slice none 0 0], fun _ => by kernel_rfl, rfl⟩
private theorem zo35 : ZeroOk Pr 35 [.d (.list 10 []), .d (.list 10 []), .d (.list 10 [])] := ⟨.agg #[.slice none 0 0, .slice none 0 0, .slice none 0 0], fun _ => by kernel_rfl, fun μ ρ => (rcc zl (rcc zl (rcc zl rcn))), by simp [Value.cells, Value.oneCell']⟩
set_option maxRecDepth 20000 in
theorem c_state_Content_wipe (c : Ct) (w0 : Mu) (hc : c.le 1000000) (hl : c.lite) (hw : w0.lite) : Pure Pr 43 [c.d, w0.d] (c.wipe w0).d := by
  refine pure_of Tryz.func43 (by kernel_rfl) rfl Tryz.ntmps43 (by simp) fun w μ => ?_
  refine ok_seq ?_
  refine ok_region rfl ?_
  refine kbox (n := 0) (g rfl) rfl rfl ?_
  refine kbox (n := 1) (g rfl) rfl rfl ?_
  refine kal (n := 2) zo35 rfl ?_
  refine ok_end (ok_then ?_)
  refine ok_seq ?_
  refine ok_seq ?_
  refine ok_seal 1 rfl rfl ?_
  refine ok_region rfl ?_
  refine k (fb (g rfl) f35_1) ?_
  refine k (lb (g rfl) t33 rfl rfl) ?_
  refine k (mf (c1 (g rfl) c0)) ?_
  refine k (cl (a1 (g rfl) rfl (a1 (g rfl) rfl a0)) (c_slices_ContainsFunc_sMut_Mut c.wipes (fun x => x.within w0) 56 [.ref w0.d.cells] (fun m _ => c_state_Content_wipe_1 m w0) (by have := hc.wipes; omega))) ?_
  refine ok_end (ok_then ?_)
  refine ok_cond (g rfl) (fun h1 => ?_) (fun h1 => ?_)
  · have hc2 := hc.wipes
    refine ok_seq ?_
    refine ok_region rfl ?_
    refine k (lB (g rfl) t35 rfl rfl) ?_
    refine kst (g rfl) (g rfl) t35 rfl rfl rfl rfl ?_
    refine ok_end (ok_then ?_)
    exact ok_ret (ok_then_ret (ret_cellA rfl rfl rfl t35 rfl (by rw [Ct.wipe, if_pos h1]; rfl)))
  · have hf1 := List.length_filter_le (fun x => !(w0.within x)) c.wipes
    have hc1 := hc.cells
    have hc2 := hc.wipes
    have hlw : ∀ m ∈ (c.wipes.filter fun x => !(w0.within x)) ++ [w0], m.lite := fun m hm => (List.mem_append.1 hm).elim (fun h => hl.wipes m (List.mem_filter.1 h).1) (fun h => List.mem_singleton.1 h ▸ hw)
    refine ok_skip (ok_then ?_)
    refine ok_seq ?_
    refine ok_region rfl ?_
    refine k (fb (g rfl) f35_1) ?_
    refine k (lb (g rfl) t33 rfl rfl) ?_
    refine ks [] (s1d (g rfl) rfl s0) (c_slices_Clone_sMut_Mut (c.wipes.map Mu.d) (mus_plain _) (by simp; omega)) ⟨rfl, trivial⟩ (by simp) rfl rfl ?_
    refine k (mf (c1 (g rfl) c0)) ?_
    refine ks [3] (s1 (a := .row 0) (g rfl) rfl (s1d (g rfl) rfl s0)) (c_slices_DeleteFunc_sMut_Mut c.wipes (fun x => w0.within x) 59 [.ref w0.d.cells] (fun m _ => c_state_Content_wipe_2 m w0) (by omega)) ⟨rfl, ⟨⟨_, rfl, rfl⟩, trivial⟩⟩ (by simp) rfl rfl ?_
    refine k (asg (g rfl)) ?_
    refine ok_end (ok_then ?_)
    refine ok_seq ?_
    refine ok_region rfl ?_
    refine k (mv (g rfl)) ?_
    refine k (lR (g rfl) t32 (Nat.le_of_ble_eq_true rfl)) ?_
    refine k (mk e33 z32 (p1 (g rfl) rfl p0) rfl rfl rfl rfl rfl) ?_
    refine ok_append (g rfl) (g rfl) ap33 rfl (fun _ => rfl) (by simp only [List.length_map, List.length_singleton, List.length_cons, List.length_nil]; omega) (by simp only [List.length_map, List.length_cons, List.length_nil]; omega) rfl rfl ?_
    refine k (fb (g rfl) f35_1) ?_
    refine kst (g rfl) (g rfl) t33 rfl rfl rfl rfl ?_
    refine ok_end (ok_then ?_)
    refine ok_seq ?_
    refine ok_eqL [.box 35 [.d (mus c.cells), .row 4, .d (mus c.sibs)], .dead, .box 35 [.d (.list 10 []), .d (.list 10 []), .d (.list 10 [])], .dead, .row 32 10 (((c.wipes.filter fun x => !(w0.within x)) ++ [w0]).map Mu.d)] (congrArg (fun z => [AO.box 35 [.d (mus c.cells), .row 4, .d (mus c.sibs)], .dead, .box 35 [.d (.list 10 []), .d (.list 10 []), .d (.list 10 [])], .dead, .row 32 10 z]) (map_snoc Mu.d (c.wipes.filter fun x => !(w0.within x)) w0)) ?_
    refine ok_region rfl ?_
    refine k (fb (g rfl) f35_1) ?_
    refine k (lb (g rfl) t33 rfl rfl) ?_
    refine ks [4] (s1 (a := .row 0) (g rfl) rfl (s1d gf rfl s0)) (c_slices_SortFunc_sMut_Mut ((c.wipes.filter fun x => !(w0.within x)) ++ [w0]) (by simp; omega) hlw) ⟨rfl, ⟨⟨_, rfl, rfl⟩, trivial⟩⟩ (by simp) rfl rfl ?_
    refine ok_end (ok_then ?_)
    refine ok_seq ?_
    refine ok_region rfl ?_
    refine k (fb (g rfl) f35_0) ?_
    refine k (lb (g rfl) t33 rfl rfl) ?_
    refine ks [] (s1d (g rfl) rfl s0) (c_slices_Clone_sMut_Mut (c.cells.map Mu.d) (mus_plain _) (by simp; omega)) ⟨rfl, trivial⟩ (by simp) rfl rfl ?_
    refine k (mf (c1 (g rfl) c0)) ?_
    refine ks [5] (s1 (a := .row 0) (g rfl) rfl (s1d (g rfl) rfl s0)) (c_slices_DeleteFunc_sMut_Mut c.cells (fun x => w0.hides x.key x.at_) 62 [.ref w0.d.cells] (fun m _ => c_state_Content_wipe_3 m w0) (by omega)) ⟨rfl, ⟨⟨_, rfl, rfl⟩, trivial⟩⟩ (by simp) rfl rfl ?_
    refine k (fb (g rfl) f35_0) ?_
    refine kst (g rfl) (g rfl) t33 rfl rfl rfl rfl ?_
    refine ok_end (ok_then ?_)
    refine ok_seq ?_
    refine ok_freeze 4 rfl (mus_plain _) ?_
    refine ok_freeze 6 rfl (mus_plain _) ?_
    refine ok_region rfl ?_
    refine k (lB (g rfl) t35 rfl rfl) ?_
    refine kst (g rfl) (g rfl) t35 rfl rfl rfl rfl ?_
    refine ok_end (ok_then ?_)
    exact ok_ret (ret_cellA rfl rfl rfl t35 rfl (by rw [Ct.wipe, if_neg (by simpa using h1)]; rfl))
end Go.Aw
