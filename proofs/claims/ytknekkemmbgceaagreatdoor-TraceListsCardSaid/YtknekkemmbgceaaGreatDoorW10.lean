/- Contracts of functions of the program, walked: c_state_place. By an AI agent. -/
import Derived.Test.YtknekkemmbgceaaGreatDoorW9
set_option linter.all false
/-! W10 -/
namespace Go.Aw
open Go.RowKit Go.Proofs

set_option maxRecDepth 20000 in
theorem c_state_place (l : List Mu) (key : ByteArray) (hl : l.length < 4611686018427387904) : Pure Pr 66 [mus l, .str key] (.tup [I (bsP (fun m : Mu => cmpS m.key key) l : Nat), .bool (bsF (fun m : Mu => cmpS m.key key) l)]) := by
  refine pure_of Tryz.func66 (by kernel_rfl) rfl Tryz.ntmps66 (by simp) fun w μ => ?_
  refine ok_seq ?_
  refine ok_region rfl ?_
  refine k (asg gi) ?_
  refine k (asg gb) ?_
  refine ok_end (ok_then ?_)
  refine ok_seq ?_
  refine ok_region rfl ?_
  refine k (mv (g rfl)) ?_
  refine k (mv (g rfl)) ?_
  refine k (cl (a1 (g rfl) rfl (a1 (g rfl) rfl (a1 gf rfl a0))) (c_slices_BinarySearchFunc_sMut_Mut_string l key (fun m => cmpS m.key key) 85 (fun m _ => c_state_place_1 m key) hl)) ?_
  refine k (ex (g rfl) rfl) ?_
  refine k (ex (g rfl) rfl) ?_
  refine k (asg (g rfl)) ?_
  refine k (asg (g rfl)) ?_
  refine ok_end (ok_then ?_)
  exact ok_ret (ret_2 rfl (.tmp rfl) (.tmp rfl) rfl)
end Go.Aw
