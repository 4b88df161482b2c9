/- Contracts of functions of the program, walked: c_slices_ContainsFunc_sMut_Mut, c_mut_Covers, c_mut_Copy, c_stamp_Right. By an AI agent. -/
import Derived.Test.YtknekkemmbgceaaGreatDoorW2
import Derived.Test.YtknekkemmbgceaaGreatDoorW3
import Derived.Test.YtknekkemmbgceaaGreatDoorW5
import Derived.Test.YtknekkemmbgceaaGreatDoorSp
set_option linter.all false
/-! W6 -/
namespace Go.Aw
open Go.RowKit Go.Proofs
private theorem f29_0 : fldF Pr 29 0 = some (0, 1, false) := by kernel_rfl
private theorem f29_1 : fldF Pr 29 1 = some (1, 1, false) := by kernel_rfl
private theorem f29_2 : fldF Pr 29 2 = some (2, 1, false) := by kernel_rfl
private theorem f32_1 : fldF Pr 32 1 = some (1, 1, false) := by kernel_rfl
private theorem f32_2 : fldF Pr 32 2 = some (2, 1, false) := by kernel_rfl
private theorem f32_3 : fldF Pr 32 3 = some (3, 1, false) := by kernel_rfl
private theorem f32_7 : fldF Pr 32 7 = some (9, 1, false) := by kernel_rfl
private theorem fq29 : EqF Pr 29 3 [.int .i64, .int .i64, .int .i64] := ⟨by kernel_rfl, by kernel_rfl, by kernel_rfl⟩
private theorem pl29 : placesF Pr 29 = some [(0, 1), (1, 1), (2, 1)] := by kernel_rfl
private theorem t27 : tyF Pr 27 = some (1, false) := by kernel_rfl
private theorem t29 : tyF Pr 29 = some (3, true) := by kernel_rfl
private theorem t3 : tyF Pr 3 = some (1, false) := by kernel_rfl
private theorem t30 : tyF Pr 30 = some (1, false) := by kernel_rfl
private theorem t32 : tyF Pr 32 = some (10, true) := by kernel_rfl
private theorem t9 : tyF Pr 9 = some (1, false) := by kernel_rfl
private theorem zo29 : ZeroOk Pr 29 [.d (.int .i64 0), .d (.int .i64 0), .d (.int .i64 0)] := ⟨.agg #[.int .i64 0, .int .i64 0, .int .i64 0], fun _ => by kernel_rfl, fun μ ρ => (rcc zi (rcc zi (rcc zi rcn))), by simp [Value.cells, Value.oneCell']⟩
private theorem zo32 : ZeroOk Pr 32 [.d (.int .i64 0), .d (.int .i64 0), .d (.str ⟨#[]⟩), .d (.str ⟨#[]⟩), .d (.str ⟨#[]⟩), .d (.int .i64 0), .d (.int .i64 0), .d (.int .i64 0), .d (.int .i64 0), .d (.list 3 [])] := ⟨.agg #[.int .i64 0, .int .i64 0, .string ⟨#[]⟩, .string ⟨#[]⟩, .string ⟨#[]⟩, .int .i64 0, .int .i64 0, .int .i64 0, .int .i64 0, .slice none 0 0], fun _ => by kernel_rfl, fun μ ρ => (rcc zi (rcc zi (rcc zs (rcc zs (rcc zs (rcc zi (rcc zi (rcc zi (rcc zi (rcc zl rcn)))))))))), by simp [Value.cells, Value.oneCell']⟩
set_option maxRecDepth 20000 in
theorem c_slices_ContainsFunc_sMut_Mut (l : List Mu) (p : Mu → Bool) (gk : FuncId) (caps : List D) (hf : ∀ m ∈ l, Pure Pr gk (m.d :: caps) (.bool (p m))) (hl : l.length < 4611686018427387904) : Pure Pr 55 [mus l, .clo (.func gk) caps] (.bool (l.any p)) := by
  refine pure_of Tryz.func55 (by kernel_rfl) rfl Tryz.ntmps55 (by simp) fun w μ => ?_
  refine ok_seq ?_
  refine ok_region rfl ?_
  refine k (asg gb) ?_
  refine ok_end (ok_then ?_)
  refine ok_seq ?_
  refine ok_region rfl ?_
  refine k (mv (g rfl)) ?_
  refine k (mv (g rfl)) ?_
  refine k (cl (a1 (g rfl) rfl (a1 (g rfl) rfl a0)) (c_slices_IndexFunc_sMut_Mut l p gk caps hf hl)) ?_
  refine k (bn (g rfl) gi rfl) ?_
  refine k (asg (g rfl)) ?_
  refine ok_end (ok_then ?_)
  exact ok_ret (ret_tmp rfl rfl (by rw [← idx_ge p l]; rfl))

set_option maxRecDepth 20000 in
theorem c_mut_Covers (w0 : Mu) (k0 : ByteArray) : Pure Pr 63 [w0.d, .str k0] (.bool (w0.covers k0)) := by
  refine pure_of Tryz.func63 (by kernel_rfl) rfl Tryz.ntmps63 (by simp) fun w μ => ?_
  refine ok_seq ?_
  refine ok_region rfl ?_
  refine kbox (n := 0) (g rfl) rfl rfl ?_
  refine k (asg gb) ?_
  refine ok_end (ok_then ?_)
  refine ok_seq ?_
  refine ok_region rfl ?_
  refine k (fb (g rfl) f32_1) ?_
  refine k (lb (g rfl) t27 rfl rfl) ?_
  refine k (bn (g rfl) gi rfl) ?_
  refine k (mv (g rfl)) ?_
  refine kg rfl rfl rfl (fun hg => fb (g rfl) f32_2) ?_
  refine kg rfl rfl rfl (fun hg => lb (go rfl hg) t9 rfl rfl) ?_
  refine kg rfl rfl rfl (fun hg => mv (g rfl)) ?_
  refine kg rfl rfl rfl (fun hg => bn (go rfl hg) (go rfl hg) rfl) ?_
  refine k (an (g rfl) (fun h => (go rfl (by rw [h]; rfl)))) ?_
  refine k (mv (g rfl)) ?_
  refine kg rfl rfl rfl (fun hg => mv (g rfl)) ?_
  refine kg rfl rfl rfl (fun hg => fb (g rfl) f32_3) ?_
  refine kg rfl rfl rfl (fun hg => lb (go rfl hg) t9 rfl rfl) ?_
  refine kg rfl rfl rfl (fun hg => bn (go rfl hg) (go rfl hg) rfl) ?_
  refine k (an (g rfl) (fun h => (go rfl (by rw [h]; rfl)))) ?_
  refine k (asg (g rfl)) ?_
  refine ok_end (ok_then ?_)
  exact ok_ret (ret_tmp rfl rfl rfl)

set_option maxRecDepth 20000 in
theorem c_mut_Copy (m : Mu) (hb : m.over.length * 24 ≤ 140737488355328) : Pure Pr 27 [m.d] m.d := by
  refine pure_of Tryz.func27 (by kernel_rfl) rfl Tryz.ntmps27 (by simp) fun w μ => ?_
  refine ok_seq ?_
  refine ok_region rfl ?_
  refine kbox (n := 0) (g rfl) rfl rfl ?_
  refine kal (n := 1) zo32 rfl ?_
  refine ok_end (ok_then ?_)
  refine ok_seq ?_
  refine ok_region rfl ?_
  refine k (fb (g rfl) f32_7) ?_
  refine k (lb (g rfl) t30 rfl rfl) ?_
  refine k (cl (a1 (g rfl) rfl a0) (c_slices_Clone_sStamp_Stamp_p (m.over.map St.d) (sts_plain _) (by simpa using hb))) ?_
  refine k (fb (g rfl) f32_7) ?_
  refine kst (g rfl) (g rfl) t30 rfl rfl rfl rfl ?_
  refine ok_end (ok_then ?_)
  refine ok_seq ?_
  refine ok_region rfl ?_
  refine k (lB (g rfl) t32 rfl rfl) ?_
  refine kst (g rfl) (g rfl) t32 rfl rfl rfl rfl ?_
  refine ok_end (ok_then ?_)
  exact ok_ret (ret_cellA rfl rfl rfl t32 rfl rfl)

set_option maxRecDepth 20000 in
theorem c_stamp_Right (s : St) : Pure Pr 47 [s.d] (.bool s.right) := by
  refine pure_of Tryz.func47 (by kernel_rfl) rfl Tryz.ntmps47 (by simp) fun w μ => ?_
  refine ok_seq ?_
  refine ok_region rfl ?_
  refine kbox (n := 0) (g rfl) rfl rfl ?_
  refine k (asg gb) ?_
  refine ok_end (ok_then ?_)
  refine ok_seq ?_
  refine ok_region rfl ?_
  refine k (fb (g rfl) f29_0) ?_
  refine k (lb (g rfl) t3 rfl rfl) ?_
  refine k (bn (g rfl) gi rfl) ?_
  refine k (mv (g rfl)) ?_
  refine kg rfl rfl rfl (fun hg => fb (g rfl) f29_1) ?_
  refine kg rfl rfl rfl (fun hg => lb (go rfl hg) t3 rfl rfl) ?_
  refine kg rfl rfl rfl (fun hg => bn (go rfl hg) gi rfl) ?_
  refine k (an (g rfl) (fun h => (go rfl (by rw [h]; rfl)))) ?_
  refine k (mv (g rfl)) ?_
  refine kg rfl rfl rfl (fun hg => fb (g rfl) f29_2) ?_
  refine kg rfl rfl rfl (fun hg => lb (go rfl hg) t3 rfl rfl) ?_
  refine kg rfl rfl rfl (fun hg => bn (go rfl hg) gi rfl) ?_
  refine k (an (g rfl) (fun h => (go rfl (by rw [h]; rfl)))) ?_
  refine k (mv (g rfl)) ?_
  refine kg rfl rfl rfl (fun hg => fb (g rfl) f29_0) ?_
  refine kg rfl rfl rfl (fun hg => lb (go rfl hg) t3 rfl rfl) ?_
  refine kg rfl rfl rfl (fun hg => bn (go rfl hg) gi rfl) ?_
  refine k (an (g rfl) (fun h => (go rfl (by rw [h]; rfl)))) ?_
  refine k (mv (g rfl)) ?_
  refine kg rfl rfl rfl (fun hg => fb (g rfl) f29_1) ?_
  refine kg rfl rfl rfl (fun hg => lb (go rfl hg) t3 rfl rfl) ?_
  refine kg rfl rfl rfl (fun hg => bn (go rfl hg) gi rfl) ?_
  refine k (an (g rfl) (fun h => (go rfl (by rw [h]; rfl)))) ?_
  refine k (mv (g rfl)) ?_
  refine kg rfl rfl rfl (fun hg => fb (g rfl) f29_2) ?_
  refine kg rfl rfl rfl (fun hg => lb (go rfl hg) t3 rfl rfl) ?_
  refine kg rfl rfl rfl (fun hg => bn (go rfl hg) gi rfl) ?_
  refine k (an (g rfl) (fun h => (go rfl (by rw [h]; rfl)))) ?_
  refine k (mv (g rfl)) ?_
  refine kg rfl rfl rfl (fun hg => lB (g rfl) t29 rfl rfl) ?_
  refine kg rfl rfl rfl (fun hg => bd zo29 pl29 b0 rfl) ?_
  refine kg rfl rfl rfl (fun hg => neS fq29 (go rfl hg) (go rfl hg) rfl rfl rfl) ?_
  refine k (an (g rfl) (fun h => (go rfl (by rw [h]; rfl)))) ?_
  refine k (asg (g rfl)) ?_
  refine ok_end (ok_then ?_)
  exact ok_ret (ret_tmp rfl rfl (by simp [AV.toD, St.right, dEq1]))
end Go.Aw
