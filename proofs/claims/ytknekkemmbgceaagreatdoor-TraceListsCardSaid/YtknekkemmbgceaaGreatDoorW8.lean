/- Contracts of functions of the program, walked: c_state_place_1, c_state_siblings, c_state_within, c_state_Content_wipe_1, c_state_Content_wipe_2, c_state_Content_wipe_3, c_state_Covered_1, c_state_Covered. By an AI agent. -/
import Derived.Test.YtknekkemmbgceaaGreatDoorW7
import Derived.Test.YtknekkemmbgceaaGreatDoorSp
set_option linter.all false
/-! W8 -/
namespace Go.Aw
open Go.RowKit Go.Proofs
private theorem e24 : elemF Pr 24 = some (3, 1) := by kernel_rfl
private theorem f32_2 : fldF Pr 32 2 = some (2, 1, false) := by kernel_rfl
private theorem f32_3 : fldF Pr 32 3 = some (3, 1, false) := by kernel_rfl
private theorem f32_6 : fldF Pr 32 6 = some (6, 3, true) := by kernel_rfl
private theorem f35_1 : fldF Pr 35 1 = some (1, 1, false) := by kernel_rfl
private theorem t29 : tyF Pr 29 = some (3, true) := by kernel_rfl
private theorem t32 : tyF Pr 32 = some (10, true) := by kernel_rfl
private theorem t33 : tyF Pr 33 = some (1, false) := by kernel_rfl
private theorem t9 : tyF Pr 9 = some (1, false) := by kernel_rfl
private theorem z3 : ZeroSz Pr 3 1 := ⟨.int .i64 0, fun _ => by kernel_rfl, rfl⟩
set_option maxRecDepth 20000 in
theorem c_state_place_1 (m : Mu) (k0 : ByteArray) : Pure Pr 85 [m.d, .str k0] (I (cmpS m.key k0)) := by
  refine pure_of Tryz.func85 (by kernel_rfl) rfl Tryz.ntmps85 (by simp) fun w μ => ?_
  refine ok_seq ?_
  refine ok_region rfl ?_
  refine kbox (n := 0) (g rfl) rfl rfl ?_
  refine k (asg gi) ?_
  refine ok_end (ok_then ?_)
  refine ok_seq ?_
  refine ok_region rfl ?_
  refine k (fb (g rfl) f32_2) ?_
  refine k (lb (g rfl) t9 rfl rfl) ?_
  refine k (mv (g rfl)) ?_
  refine k (cl (a1 (g rfl) rfl (a1 (g rfl) rfl a0)) (c_cmp_Compare_string _ _)) ?_
  refine k (asg (g rfl)) ?_
  refine ok_end (ok_then ?_)
  exact ok_ret (ret_tmp rfl rfl rfl)

set_option maxRecDepth 20000 in
theorem c_state_siblings (a b : Mu) (ha : a.over.length < 4611686018427387904) : Pure Pr 52 [a.d, b.d] (I (Mu.sib a b)) := by
  refine pure_of Tryz.func52 (by kernel_rfl) rfl Tryz.ntmps52 (by simp) fun w μ => ?_
  refine ok_seq ?_
  refine ok_region rfl ?_
  refine kbox (n := 0) (g rfl) rfl rfl ?_
  refine kbox (n := 1) (g rfl) rfl rfl ?_
  refine k (asg gi) ?_
  refine ok_end (ok_then ?_)
  refine ok_seq ?_
  refine ok_draw [5, 6, 7, 8, 9, 10, 11, 12, 13, 14, 4] rfl (by kernel_rfl) ?_
  refine dr (fb (g rfl) f32_2) ?_
  refine dr (lb (g rfl) t9 rfl rfl) ?_
  refine dr (fb (g rfl) f32_2) ?_
  refine dr (lb (g rfl) t9 rfl rfl) ?_
  refine dr (cl (a1 (g rfl) rfl (a1 (g rfl) rfl a0)) (c_cmp_Compare_string _ _)) ?_
  refine dr (lB (g rfl) t32 rfl rfl) ?_
  refine dr (lB (g rfl) t32 rfl rfl) ?_
  refine dr (cl (a1 (g rfl) rfl (a1 (g rfl) rfl a0)) (c_mut_Compare a b ha)) ?_
  refine dr (mk e24 z3 (p1 (g rfl) rfl (p1 (g rfl) rfl p0)) rfl rfl rfl rfl rfl) ?_
  refine dr (cl (a1 (g rfl) rfl a0) (c_cmp_Or_int [cmpS a.key b.key, Mu.cmp a b] (by simp))) ?_
  refine dr (asg (g rfl)) ?_
  refine draw_end mixed (ok_then ?_)
  exact ok_ret (ret_tmp rfl rfl rfl)

set_option maxRecDepth 20000 in
theorem c_state_within (a b : Mu) : Pure Pr 57 [a.d, b.d] (.bool (a.within b)) := by
  refine pure_of Tryz.func57 (by kernel_rfl) rfl Tryz.ntmps57 (by simp) fun w μ => ?_
  refine ok_seq ?_
  refine ok_region rfl ?_
  refine kbox (n := 0) (g rfl) rfl rfl ?_
  refine kbox (n := 1) (g rfl) rfl rfl ?_
  refine k (asg gb) ?_
  refine ok_end (ok_then ?_)
  refine ok_seq ?_
  refine ok_region rfl ?_
  refine k (fb (g rfl) f32_2) ?_
  refine k (lb (g rfl) t9 rfl rfl) ?_
  refine k (fb (g rfl) f32_2) ?_
  refine k (lb (g rfl) t9 rfl rfl) ?_
  refine k (bn (g rfl) (g rfl) rfl) ?_
  refine k (mv (g rfl)) ?_
  refine kg rfl rfl rfl (fun hg => fb (g rfl) f32_3) ?_
  refine kg rfl rfl rfl (fun hg => lb (go rfl hg) t9 rfl rfl) ?_
  refine kg rfl rfl rfl (fun hg => fb (g rfl) f32_3) ?_
  refine kg rfl rfl rfl (fun hg => lb (go rfl hg) t9 rfl rfl) ?_
  refine kg rfl rfl rfl (fun hg => bn (go rfl hg) (go rfl hg) rfl) ?_
  refine k (an (g rfl) (fun h => (go rfl (by rw [h]; rfl)))) ?_
  refine k (mv (g rfl)) ?_
  refine kg rfl rfl rfl (fun hg => fb (g rfl) f32_6) ?_
  refine kg rfl rfl rfl (fun hg => lB (go rfl hg) t29 rfl rfl) ?_
  refine kg rfl rfl rfl (fun hg => fb (g rfl) f32_6) ?_
  refine kg rfl rfl rfl (fun hg => lB (go rfl hg) t29 rfl rfl) ?_
  refine kg rfl rfl rfl (fun hg => cl (a1 (go rfl hg) rfl (a1 (go rfl hg) rfl a0)) (c_stamp_Less _ _)) ?_
  refine kg rfl rfl rfl (fun hg => nt (go rfl hg)) ?_
  refine k (an (g rfl) (fun h => (go rfl (by rw [h]; rfl)))) ?_
  refine k (asg (g rfl)) ?_
  refine ok_end (ok_then ?_)
  exact ok_ret (ret_tmp rfl rfl rfl)

set_option maxRecDepth 20000 in
theorem c_state_Content_wipe_1 (x w0 : Mu) : Pure Pr 56 [x.d, .ref w0.d.cells] (.bool (x.within w0)) := by
  refine pure_of Tryz.func56 (by kernel_rfl) rfl Tryz.ntmps56 (by simp) fun w μ => ?_
  refine ok_seq ?_
  refine ok_region rfl ?_
  refine kbox (n := 0) (g rfl) rfl rfl ?_
  refine k (asg gb) ?_
  refine ok_end (ok_then ?_)
  refine ok_seq ?_
  refine ok_region rfl ?_
  refine k (lB (g rfl) t32 rfl rfl) ?_
  refine k (lR (g rfl) t32 (Nat.le_of_ble_eq_true rfl)) ?_
  refine k (cl (a1 (g rfl) rfl (a1 (g rfl) rfl a0)) (c_state_within x w0)) ?_
  refine k (asg (g rfl)) ?_
  refine ok_end (ok_then ?_)
  exact ok_ret (ret_tmp rfl rfl rfl)

set_option maxRecDepth 20000 in
theorem c_state_Content_wipe_2 (x w0 : Mu) : Pure Pr 59 [x.d, .ref w0.d.cells] (.bool (w0.within x)) := by
  refine pure_of Tryz.func59 (by kernel_rfl) rfl Tryz.ntmps59 (by simp) fun w μ => ?_
  refine ok_seq ?_
  refine ok_region rfl ?_
  refine kbox (n := 0) (g rfl) rfl rfl ?_
  refine k (asg gb) ?_
  refine ok_end (ok_then ?_)
  refine ok_seq ?_
  refine ok_region rfl ?_
  refine k (lR (g rfl) t32 (Nat.le_of_ble_eq_true rfl)) ?_
  refine k (lB (g rfl) t32 rfl rfl) ?_
  refine k (cl (a1 (g rfl) rfl (a1 (g rfl) rfl a0)) (c_state_within w0 x)) ?_
  refine k (asg (g rfl)) ?_
  refine ok_end (ok_then ?_)
  exact ok_ret (ret_tmp rfl rfl rfl)

set_option maxRecDepth 20000 in
theorem c_state_Content_wipe_3 (x w0 : Mu) : Pure Pr 62 [x.d, .ref w0.d.cells] (.bool (w0.hides x.key x.at_)) := by
  refine pure_of Tryz.func62 (by kernel_rfl) rfl Tryz.ntmps62 (by simp) fun w μ => ?_
  refine ok_seq ?_
  refine ok_region rfl ?_
  refine kbox (n := 0) (g rfl) rfl rfl ?_
  refine k (asg gb) ?_
  refine ok_end (ok_then ?_)
  refine ok_seq ?_
  refine ok_region rfl ?_
  refine k (lR (g rfl) t32 (Nat.le_of_ble_eq_true rfl)) ?_
  refine k (fb (g rfl) f32_2) ?_
  refine k (lb (g rfl) t9 rfl rfl) ?_
  refine k (cl (a1 (g rfl) rfl (a1 (g rfl) rfl a0)) (c_mut_Covers w0 x.key)) ?_
  refine k (mv (g rfl)) ?_
  refine kg rfl rfl rfl (fun hg => fb (g rfl) f32_6) ?_
  refine kg rfl rfl rfl (fun hg => lB (go rfl hg) t29 rfl rfl) ?_
  refine kg rfl rfl rfl (fun hg => fr (g rfl) f32_6) ?_
  refine kg rfl rfl rfl (fun hg => lR (go rfl hg) t29 (Nat.le_of_ble_eq_true rfl)) ?_
  refine kg rfl rfl rfl (fun hg => cl (a1 (go rfl hg) rfl (a1 (go rfl hg) rfl a0)) (c_stamp_Less x.at_ w0.at_)) ?_
  refine k (an (g rfl) (fun h => (go rfl (by rw [h]; rfl)))) ?_
  refine k (asg (g rfl)) ?_
  refine ok_end (ok_then ?_)
  exact ok_ret (ret_tmp rfl rfl rfl)

set_option maxRecDepth 20000 in
theorem c_state_Covered_1 (w0 : Mu) (key : ByteArray) (at_ : St) : Pure Pr 83 [w0.d, .ref [.str key], .ref at_.d.cells] (.bool (w0.hides key at_)) := by
  refine pure_of Tryz.func83 (by kernel_rfl) rfl Tryz.ntmps83 (by simp) fun w μ => ?_
  refine ok_seq ?_
  refine ok_region rfl ?_
  refine kbox (n := 0) (g rfl) rfl rfl ?_
  refine k (asg gb) ?_
  refine ok_end (ok_then ?_)
  refine ok_seq ?_
  refine ok_region rfl ?_
  refine k (lB (g rfl) t32 rfl rfl) ?_
  refine k (lr (g rfl) t9 rfl) ?_
  refine k (cl (a1 (g rfl) rfl (a1 (g rfl) rfl a0)) (c_mut_Covers w0 key)) ?_
  refine k (mv (g rfl)) ?_
  refine kg rfl rfl rfl (fun hg => lR (g rfl) t29 (Nat.le_of_ble_eq_true rfl)) ?_
  refine kg rfl rfl rfl (fun hg => fb (g rfl) f32_6) ?_
  refine kg rfl rfl rfl (fun hg => lB (go rfl hg) t29 rfl rfl) ?_
  refine kg rfl rfl rfl (fun hg => cl (a1 (go rfl hg) rfl (a1 (go rfl hg) rfl a0)) (c_stamp_Less at_ w0.at_)) ?_
  refine k (an (g rfl) (fun h => (go rfl (by rw [h]; rfl)))) ?_
  refine k (asg (g rfl)) ?_
  refine ok_end (ok_then ?_)
  exact ok_ret (ret_tmp rfl rfl rfl)

set_option maxRecDepth 20000 in
theorem c_state_Covered (c : Ct) (key : ByteArray) (at_ : St) (hl : c.wipes.length < 4611686018427387904) : Pure Pr 65 [c.d, .str key, at_.d] (.bool (c.covered key at_)) := by
  refine pure_of Tryz.func65 (by kernel_rfl) rfl Tryz.ntmps65 (by simp) fun w μ => ?_
  refine ok_seq ?_
  refine ok_region rfl ?_
  refine kbox (n := 0) (g rfl) rfl rfl ?_
  refine kbox (n := 1) (g rfl) rfl rfl ?_
  refine kbox (n := 2) (g rfl) rfl rfl ?_
  refine k (asg gb) ?_
  refine ok_end (ok_then ?_)
  refine ok_seq ?_
  refine ok_seal 1 rfl rfl ?_
  refine ok_seal 2 rfl rfl ?_
  refine ok_region rfl ?_
  refine k (fb (g rfl) f35_1) ?_
  refine k (lb (g rfl) t33 rfl rfl) ?_
  refine k (mf (c1 (g rfl) (c1 (g rfl) c0))) ?_
  refine k (cl (a1 (g rfl) rfl (a1 (g rfl) rfl a0)) (c_slices_ContainsFunc_sMut_Mut c.wipes (fun w => w.hides key at_) 83 [.ref [.str key], .ref at_.d.cells] (fun m _ => c_state_Covered_1 m key at_) hl)) ?_
  refine k (asg (g rfl)) ?_
  refine ok_end (ok_then ?_)
  exact ok_ret (ret_tmp rfl rfl rfl)
end Go.Aw
