/- Contracts of functions of the program, walked: c_state_Content_sib. By an AI agent. -/
import Derived.Test.YtknekkemmbgceaaGreatDoorW10
import Derived.Test.YtknekkemmbgceaaGreatDoorW4
import Derived.Test.YtknekkemmbgceaaGreatDoorSp
set_option linter.all false
/-! W11 -/
namespace Go.Aw
open Go.RowKit Go.Proofs
private theorem e33 : elemF Pr 33 = some (32, 10) := by kernel_rfl
private theorem f35_2 : fldF Pr 35 2 = some (2, 1, false) := by kernel_rfl
private theorem t32 : tyF Pr 32 = some (10, true) := by kernel_rfl
private theorem t33 : tyF Pr 33 = some (1, false) := by kernel_rfl
private theorem t35 : tyF Pr 35 = some (3, true) := by kernel_rfl
private theorem z32 : ZeroSz Pr 32 10 := ⟨.agg #[.int .i64 0, .int .i64 0, .string ⟨#[]⟩, .string ⟨#[]⟩, .string ⟨#[]⟩, .int .i64 0, .int .i64 0, .int .i64 0, .int .i64 0, .slice none 0 0], fun _ => by kernel_rfl, rfl⟩
private theorem zo35 : ZeroOk Pr 35 [.d (.list 10 []), .d (.list 10 []), .d (.list 10 [])] := ⟨.agg #[.slice none 0 0, .slice none 0 0, .slice none 0 0], fun _ => by kernel_rfl, fun μ ρ => (rcc zl (rcc zl (rcc zl rcn))), by simp [Value.cells, Value.oneCell']⟩
set_option maxRecDepth 20000 in
theorem c_state_Content_sib (c : Ct) (m : Mu) (hl : c.sibs.length ≤ 1000000) (ho : ∀ x ∈ c.sibs, x.over.length < 4611686018427387904) : Pure Pr 42 [c.d, m.d] (c.sib m).d := by
  refine pure_of Tryz.func42 (by kernel_rfl) rfl Tryz.ntmps42 (by simp) fun w μ => ?_
  refine ok_seq ?_
  refine ok_region rfl ?_
  refine kbox (n := 0) (g rfl) rfl rfl ?_
  refine kbox (n := 1) (g rfl) rfl rfl ?_
  refine kal (n := 2) zo35 rfl ?_
  refine ok_end (ok_then ?_)
  refine ok_seq ?_
  refine ok_region rfl ?_
  refine k (fb (g rfl) f35_2) ?_
  refine k (lb (g rfl) t33 rfl rfl) ?_
  refine k (lB (g rfl) t32 rfl rfl) ?_
  refine k (cl (a1 (g rfl) rfl (a1 (g rfl) rfl (a1 gf rfl a0))) (c_slices_BinarySearchFunc_sMut_Mut_Mut c.sibs m (fun x : Mu => Mu.sib x m) 52 (fun x hx => c_state_siblings x m (ho x hx)) (by omega))) ?_
  refine k (mv (g rfl)) ?_
  refine k (ex (g rfl) rfl) ?_
  refine k (ex (g rfl) rfl) ?_
  refine k (asg (g rfl)) ?_
  refine k (asg (g rfl)) ?_
  refine ok_end (ok_then ?_)
  refine ok_seq ?_
  refine ok_seq ?_
  refine ok_region rfl ?_
  refine k (mv (g rfl)) ?_
  refine k (nt (g rfl)) ?_
  refine ok_end (ok_then ?_)
  refine ok_cond (g rfl) (fun h1 => ?_) (fun h1 => ?_)
  · refine ok_drawF [fun L => L ++ [.row 32 10 (c.sibs.map Mu.d)], fun L => L.set 3 .dead ++ [.dead, .row 32 10 ((c.sibs.take (bsP (fun x : Mu => Mu.sib x m) c.sibs) ++ [m] ++ c.sibs.drop (bsP (fun x : Mu => Mu.sib x m) c.sibs)).map Mu.d)], fun L => L.set 0 (.box 35 [.d (mus c.cells), .d (mus c.wipes), .row 5])] [16, 17, 18, 19, 20, 21, 22, 23] [2, 6, 8] [0, 1, 3, 0, 0, 16, 63, 127, 255] rfl (by kernel_rfl) ?_
    refine ss [0] rfl rfl ⟨fb (g rfl) f35_2, trivial⟩ ?_
    refine ss [0] rfl rfl ⟨lb (g rfl) t33 rfl rfl, trivial⟩ ?_
    refine se 0 rfl (ekE [] (s1d (g rfl) rfl s0) (c_slices_Clone_sMut_Mut (c.sibs.map Mu.d) (mus_plain _) (by simp; omega)) ⟨rfl, trivial⟩ (by simp) rfl rfl (r' := .row 3) rfl rfl) ?_
    refine ss [0, 1] rfl rfl ⟨mv (g rfl), mv (g rfl), trivial⟩ ?_
    refine ss [0, 1] rfl rfl ⟨lB (g rfl) t32 rfl rfl, lB (g rfl) t32 rfl rfl, trivial⟩ ?_
    refine ss [0, 1] rfl rfl ⟨mk e33 z32 (p1 (g rfl) rfl p0) rfl rfl rfl rfl rfl, mk e33 z32 (p1 (g rfl) rfl p0) rfl rfl rfl rfl rfl, trivial⟩ ?_
    refine se 1 rfl (ekE [3] (s1 (a := .row 0) (g rfl) rfl (s1d (g rfl) rfl (s1d (g rfl) rfl s0))) (c_slices_Insert_sMut_Mut c.sibs [m] (bsP (fun x : Mu => Mu.sib x m) c.sibs) (bsP_le _ _) (by simp) (by simp; omega)) ⟨rfl, ⟨⟨_, rfl, rfl⟩, trivial⟩⟩ (by simp) rfl rfl (r' := .row 5) rfl rfl) ?_
    refine ss [2] rfl rfl ⟨fb (g rfl) f35_2, trivial⟩ ?_
    refine se0 2 rfl (stbE (g rfl) (g rfl) t33 rfl rfl rfl rfl rfl) ?_
    refine draws_end mixed (by kernel_rfl) rfl rfl (ok_then ?_)
    refine ok_seq ?_
    refine ok_freeze 5 rfl (mus_plain _) ?_
    refine ok_region rfl ?_
    refine k (lB (g rfl) t35 rfl rfl) ?_
    refine kst (g rfl) (g rfl) t35 rfl rfl rfl rfl ?_
    refine ok_end (ok_then ?_)
    exact ok_ret (ret_cellA rfl rfl rfl t35 rfl (by rw [Ct.sib, if_neg (by simpa using h1)]; rfl))
  · refine ok_skip (ok_then ?_)
    refine ok_seq ?_
    refine ok_region rfl ?_
    refine k (lB (g rfl) t35 rfl rfl) ?_
    refine kst (g rfl) (g rfl) t35 rfl rfl rfl rfl ?_
    refine ok_end (ok_then ?_)
    exact ok_ret (ret_cellA rfl rfl rfl t35 rfl (by rw [Ct.sib, if_pos (by simpa using h1)]; rfl))
end Go.Aw
