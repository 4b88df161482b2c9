/- Contracts of functions of the program, walked: c_trace_Copy. By an AI agent. -/
import Derived.Test.YtknekkemmbgceaaGreatDoorW24
import Derived.Test.YtknekkemmbgceaaGreatDoorSp
set_option linter.all false
/-! W25 -/
namespace Go.Aw
open Go.RowKit Go.Proofs
private theorem f39_10 : fldF Pr 39 10 = some (25, 1, false) := by kernel_rfl
private theorem f39_11 : fldF Pr 39 11 = some (26, 1, false) := by kernel_rfl
private theorem f39_16 : fldF Pr 39 16 = some (31, 1, false) := by kernel_rfl
private theorem f39_17 : fldF Pr 39 17 = some (32, 1, false) := by kernel_rfl
private theorem f39_4 : fldF Pr 39 4 = some (4, 10, true) := by kernel_rfl
private theorem f39_5 : fldF Pr 39 5 = some (14, 3, true) := by kernel_rfl
private theorem pl35 : placesF Pr 35 = some [(0, 1), (1, 1), (2, 1)] := by kernel_rfl
private theorem t24 : tyF Pr 24 = some (1, false) := by kernel_rfl
private theorem t30 : tyF Pr 30 = some (1, false) := by kernel_rfl
private theorem t32 : tyF Pr 32 = some (10, true) := by kernel_rfl
private theorem t35 : tyF Pr 35 = some (3, true) := by kernel_rfl
private theorem t37 : tyF Pr 37 = some (1, false) := by kernel_rfl
private theorem t39 : tyF Pr 39 = some (33, true) := by kernel_rfl
private theorem zo35 : ZeroOk Pr 35 [.d (.list 10 []), .d (.list 10 []), .d (.list 10 [])] := ⟨.agg #[.slice none 0 0, .slice none 0 0, .slice none 0 0], fun _ => by kernel_rfl, fun μ ρ => (rcc zl (rcc zl (rcc zl rcn))), by simp [Value.cells, Value.oneCell']⟩
private theorem zo39 : ZeroOk Pr 39 [.d (.int .i64 0), .d (.int .i64 0), .d (.int .i64 0), .d (.int .i64 0), .d (.int .i64 0), .d (.int .i64 0), .d (.str ⟨#[]⟩), .d (.str ⟨#[]⟩), .d (.str ⟨#[]⟩), .d (.int .i64 0), .d (.int .i64 0), .d (.int .i64 0), .d (.int .i64 0), .d (.list 3 []), .d (.list 10 []), .d (.list 10 []), .d (.list 10 []), .d (.int .i64 0), .d (.int .i64 0), .d (.int .i64 0), .d (.int .i64 0), .d (.int .i64 0), .d (.int .i64 0), .d (.bool false), .d (.int .i64 0), .d (.list 1 []), .d (.list 1 []), .d (.int .i64 0), .d (.int .i64 0), .d (.str ⟨#[]⟩), .d (.str ⟨#[]⟩), .d (.list 5 []), .d (.list 3 [])] := ⟨.agg #[.int .i64 0, .int .i64 0, .int .i64 0, .int .i64 0, .int .i64 0, .int .i64 0, .string ⟨#[]⟩, .string ⟨#[]⟩, .string ⟨#[]⟩, .int .i64 0, .int .i64 0, .int .i64 0, .int .i64 0, .slice none 0 0, .slice none 0 0, .slice none 0 0, .slice none 0 0, .int .i64 0, .int .i64 0, .int .i64 0, .int .i64 0, .int .i64 0, .int .i64 0, .bool false, .int .i64 0, .slice none 0 0, .slice none 0 0, .int .i64 0, .int .i64 0, .string ⟨#[]⟩, .string ⟨#[]⟩, .slice none 0 0, .slice none 0 0], fun _ => by kernel_rfl, fun μ ρ => (rcc zi (rcc zi (rcc zi (rcc zi (rcc zi (rcc zi (rcc zs (rcc zs (rcc zs (rcc zi (rcc zi (rcc zi (rcc zi (rcc zl (rcc zl (rcc zl (rcc zl (rcc zi (rcc zi (rcc zi (rcc zi (rcc zi (rcc zi (rcc zb (rcc zi (rcc zl (rcc zl (rcc zi (rcc zi (rcc zs (rcc zs (rcc zl (rcc zl rcn))))))))))))))))))))))))))))))))), by simp [Value.cells, Value.oneCell']⟩
set_option maxRecDepth 20000 in
theorem c_trace_Copy (e : Ev) (he : e.fits) : Spec Pr 13 [.d e.d] [] (.agg (evA e (Ct.join ct0 e.c) (.row 2) (.row 3) (.row 4) (.row 5))) [.dead, .box 39 (evA e (Ct.join ct0 e.c) (.row 2) (.row 3) (.row 4) (.row 5)), .row 3 1 (e.q.map I), .row 3 1 (e.nos.map I), .row 49 5 (e.rows.map Ro.d), .row 29 3 (e.ctx.map St.d)] := by
  refine spec_of Tryz.func13 (by kernel_rfl) rfl Tryz.ntmps13 (by simp) fun w μ ρ => ?_
  refine ok_seq ?_
  refine ok_region rfl ?_
  refine kbox (n := 0) (g rfl) rfl rfl ?_
  refine kal (n := 1) zo39 rfl ?_
  refine ok_end (ok_then ?_)
  refine ok_seq ?_
  refine ok_region rfl ?_
  refine k (fb (g rfl) f39_4) ?_
  refine k (lB (g rfl) t32 rfl rfl) ?_
  refine k (cl (a1 (g rfl) rfl a0) (c_mut_Copy e.m (by have := he.m; unfold Mu.lite at this; omega))) ?_
  refine k (fb (g rfl) f39_4) ?_
  refine kst (g rfl) (g rfl) t32 rfl rfl rfl rfl ?_
  refine ok_end (ok_then ?_)
  refine ok_seq ?_
  refine ok_region rfl ?_
  refine k (bd zo35 pl35 b0 rfl) ?_
  refine k (fb (g rfl) f39_5) ?_
  refine k (lB (g rfl) t35 rfl rfl) ?_
  refine k (cl (a1 (g rfl) rfl (a1 (g rfl) rfl a0)) (c_state_Join ct0 e.c (ct0_le _) he.c ct0_lite he.cl)) ?_
  refine k (fb (g rfl) f39_5) ?_
  refine kst (g rfl) (g rfl) t35 rfl rfl rfl rfl ?_
  refine ok_end (ok_then ?_)
  refine ok_seq ?_
  refine ok_drawF [fun L => L ++ [.row 3 1 (e.q.map I)], fun L => L ++ [.row 3 1 (e.nos.map I)], fun L => L ++ [.row 49 5 (e.rows.map Ro.d)], fun L => L ++ [.row 29 3 (e.ctx.map St.d)], fun L => L.set 0 (.box 39 (evA e (Ct.join ct0 e.c) (.row 2) (nA e) (rA e) (xA e))), fun L => L.set 0 (.box 39 (evA e (Ct.join ct0 e.c) (.row 2) (.row 3) (rA e) (xA e))), fun L => L.set 0 (.box 39 (evA e (Ct.join ct0 e.c) (.row 2) (.row 3) (.row 4) (xA e))), fun L => L.set 0 (.box 39 (evA e (Ct.join ct0 e.c) (.row 2) (.row 3) (.row 4) (.row 5)))] [12, 13, 14, 15, 16, 17, 18, 19, 20, 21, 22, 23, 24, 25, 26, 27] [2, 5, 8, 11, 13, 15, 17, 19] [0, 1, 3, 0, 8, 31, 0, 64, 255, 0, 512, 2047, 1759, 8191, 16383, 32767, 65535, 131071, 262143, 524287] rfl (by kernel_rfl) ?_
  refine ss [0] rfl rfl ⟨fb (g rfl) f39_10, trivial⟩ ?_
  refine ss [0] rfl rfl ⟨lb (g rfl) t24 rfl rfl, trivial⟩ ?_
  refine se 0 rfl (ekE [] (s1d (g rfl) rfl s0) (c_slices_Clone_sint_int (e.q.map I) (map_plain (fun _ => rfl) _) (by rw [List.length_map]; exact he.q)) ⟨rfl, trivial⟩ (by simp) rfl rfl (r' := .row 2) rfl rfl) ?_
  refine ss [0, 1] rfl rfl ⟨fb (g rfl) f39_11, fb (g rfl) f39_11, trivial⟩ ?_
  refine ss [0, 1] rfl rfl ⟨lb (g rfl) t24 rfl rfl, lb (g rfl) t24 rfl rfl, trivial⟩ ?_
  refine se 1 rfl (ekE [] (s1d (g rfl) rfl s0) (c_slices_Clone_sint_int (e.nos.map I) (map_plain (fun _ => rfl) _) (by rw [List.length_map]; exact he.nos)) ⟨rfl, trivial⟩ (by simp) rfl rfl (r' := .row 3) rfl rfl) ?_
  refine ss [0, 1, 2] rfl rfl ⟨fb (g rfl) f39_16, fb (g rfl) f39_16, fb (g rfl) f39_16, trivial⟩ ?_
  refine ss [0, 1, 2] rfl rfl ⟨lb (g rfl) t37 rfl rfl, lb (g rfl) t37 rfl rfl, lb (g rfl) t37 rfl rfl, trivial⟩ ?_
  refine se 2 rfl (ekE [] (s1d (g rfl) rfl s0) (c_slices_Clone_sRow_Row (e.rows.map Ro.d) (map_plain (fun _ => rfl) _) (by rw [List.length_map]; exact he.rows)) ⟨rfl, trivial⟩ (by simp) rfl rfl (r' := .row 4) rfl rfl) ?_
  refine ss [0, 1, 2, 3] rfl rfl ⟨fb (g rfl) f39_17, fb (g rfl) f39_17, fb (g rfl) f39_17, fb (g rfl) f39_17, trivial⟩ ?_
  refine ss [0, 1, 2, 3] rfl rfl ⟨lb (g rfl) t30 rfl rfl, lb (g rfl) t30 rfl rfl, lb (g rfl) t30 rfl rfl, lb (g rfl) t30 rfl rfl, trivial⟩ ?_
  refine se 3 rfl (ekE [] (s1d (g rfl) rfl s0) (c_slices_Clone_sStamp_Stamp (e.ctx.map St.d) (map_plain (fun _ => rfl) _) (by rw [List.length_map]; exact he.ctx)) ⟨rfl, trivial⟩ (by simp) rfl rfl (r' := .row 5) rfl rfl) ?_
  refine ss [1, 2, 3, 4] rfl rfl ⟨fb (g rfl) f39_10, fb (g rfl) f39_10, fb (g rfl) f39_10, fb (g rfl) f39_10, trivial⟩ ?_
  refine se0 4 rfl (stbE (g rfl) (g rfl) t24 rfl rfl rfl rfl rfl) ?_
  refine ss [5] rfl rfl ⟨fb (g rfl) f39_11, trivial⟩ ?_
  refine se0 5 rfl (stbE (g rfl) (g rfl) t24 rfl rfl rfl rfl rfl) ?_
  refine ss [6] rfl rfl ⟨fb (g rfl) f39_16, trivial⟩ ?_
  refine se0 6 rfl (stbE (g rfl) (g rfl) t37 rfl rfl rfl rfl rfl) ?_
  refine ss [7] rfl rfl ⟨fb (g rfl) f39_17, trivial⟩ ?_
  refine se0 7 rfl (stbE (g rfl) (g rfl) t30 rfl rfl rfl rfl rfl) ?_
  refine draws_end mixed (by kernel_rfl) rfl rfl (ok_then ?_)
  refine ok_seq ?_
  refine ok_region rfl ?_
  refine k (lB (g rfl) t39 rfl rfl) ?_
  refine kst (g rfl) (g rfl) t39 rfl rfl rfl rfl ?_
  refine ok_end (ok_then ?_)
  refine ok_dead 0 rfl rfl ?_
  exact ok_ret (sret_one rfl (.cellA rfl rfl t39 rfl))
end Go.Aw
