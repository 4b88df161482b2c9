/- Contracts of functions of the program, walked: c_slices_Clone_sint_int, c_slices_Clone_sint_int_p, c_slices_Clone_sMut_Mut, c_slices_Clone_sMut_Mut_p, c_slices_Clone_sStamp_Stamp, c_slices_Clone_sStamp_Stamp_p, c_slices_Clone_sRow_Row, c_slices_Clone_sRow_Row_p. By an AI agent. -/
import Derived.Test.YtknekkemmbgceaaGreatDoorW1
import Derived.Test.YtknekkemmbgceaaGreatDoorSp
set_option linter.all false
/-! W2 -/
namespace Go.Aw
open Go.RowKit Go.Proofs
private theorem ap24 : AppF Pr 24 3 1 8 := appF_out (by kernel_rfl)
private theorem ap30 : AppF Pr 30 29 3 24 := appF_out (by kernel_rfl)
private theorem ap33 : AppF Pr 33 32 10 120 := appF_out (by kernel_rfl)
private theorem ap37 : AppF Pr 37 49 5 56 := appF_out (by kernel_rfl)
private theorem e24 : elemF Pr 24 = some (3, 1) := by kernel_rfl
private theorem e30 : elemF Pr 30 = some (29, 3) := by kernel_rfl
private theorem e33 : elemF Pr 33 = some (32, 10) := by kernel_rfl
private theorem e37 : elemF Pr 37 = some (49, 5) := by kernel_rfl
private theorem z29 : ZeroSz Pr 29 3 := ⟨.agg #[.int .i64 0, .int .i64 0, .int .i64 0], fun _ => by kernel_rfl, rfl⟩
private theorem z3 : ZeroSz Pr 3 1 := ⟨.int .i64 0, fun _ => by kernel_rfl, rfl⟩
private theorem z32 : ZeroSz Pr 32 10 := ⟨.agg #[.int .i64 0, .int .i64 0, .string ⟨#[]⟩, .string ⟨#[]⟩, .string ⟨#[]⟩, .int .i64 0, .int .i64 0, .int .i64 0, .int .i64 0, .slice none 0 0], fun _ => by kernel_rfl, rfl⟩
private theorem z49 : ZeroSz Pr 49 5 := ⟨.agg #[.string ⟨#[]⟩, .string ⟨#[]⟩, .int .i64 0, .int .i64 0, .int .i64 0], fun _ => by kernel_rfl, rfl⟩
set_option maxRecDepth 20000 in
theorem c_slices_Clone_sint_int (xs : List D) (hp : ∀ y ∈ xs, y.plain = true) (hb : xs.length * 8 ≤ 140737488355328) : Spec Pr 29 [.d (.list 1 xs)] [] (.row 0) [.row 3 1 xs] := by
  refine spec_of Tryz.func29 (by kernel_rfl) rfl Tryz.ntmps29 (by simp) fun w μ ρ => ?_
  refine ok_seq ?_
  refine ok_region rfl ?_
  refine k (asg gN) ?_
  refine ok_end (ok_then ?_)
  refine ok_seq ?_
  refine ok_seq ?_
  refine ok_region rfl ?_
  refine k (mv (g rfl)) ?_
  refine kx (nilq (g rfl) e24) fun b => ?_
  refine ok_end (ok_then ?_)
  refine ok_cond (g rfl) (fun h1 => ?_) (fun h1 => ?_)
  · refine ok_seq ?_
    refine ok_region rfl ?_
    refine k (asg gN) ?_
    refine ok_end (ok_then ?_)
    obtain ⟨b, hb2⟩ := b
    have hx0 : xs = [] := by
      by_cases e : xs = []
      · exact e
      · have := hb2 e; subst this; cases h1
    subst hx0
    refine ok_promote 2 3 1 (n := 0) rfl rfl ?_
    exact ok_ret (ok_then_ret (sret_tmp rfl rfl))
  · refine ok_skip (ok_then ?_)
    refine ok_seq ?_
    refine ok_region rfl ?_
    refine ke (bsr e24 z3 p0 rfl rfl rfl rfl rfl rfl) ?_
    refine k (mv (g rfl)) ?_
    refine ok_append (g rfl) (g rfl) ap24 rfl (fun _ => rfl) (by simp; omega) (by simp; omega) rfl rfl ?_
    refine k (asg (g rfl)) ?_
    refine ok_end (ok_then ?_)
    exact ok_ret (sret_tmp rfl rfl)

theorem c_slices_Clone_sint_int_p (xs : List D) (hp : ∀ y ∈ xs, y.plain = true) (hb : xs.length * 8 ≤ 140737488355328) : Pure Pr 29 [.list 1 xs] (.list 1 xs) := pure_of_row (xs := [.list 1 xs]) (c_slices_Clone_sint_int xs hp hb) hp

set_option maxRecDepth 20000 in
theorem c_slices_Clone_sMut_Mut (xs : List D) (hp : ∀ y ∈ xs, y.plain = true) (hb : xs.length * 120 ≤ 140737488355328) : Spec Pr 54 [.d (.list 10 xs)] [] (.row 0) [.row 32 10 xs] := by
  refine spec_of Tryz.func54 (by kernel_rfl) rfl Tryz.ntmps54 (by simp) fun w μ ρ => ?_
  refine ok_seq ?_
  refine ok_region rfl ?_
  refine k (asg gN) ?_
  refine ok_end (ok_then ?_)
  refine ok_seq ?_
  refine ok_seq ?_
  refine ok_region rfl ?_
  refine k (mv (g rfl)) ?_
  refine kx (nilq (g rfl) e33) fun b => ?_
  refine ok_end (ok_then ?_)
  refine ok_cond (g rfl) (fun h1 => ?_) (fun h1 => ?_)
  · refine ok_seq ?_
    refine ok_region rfl ?_
    refine k (asg gN) ?_
    refine ok_end (ok_then ?_)
    obtain ⟨b, hb2⟩ := b
    have hx0 : xs = [] := by
      by_cases e : xs = []
      · exact e
      · have := hb2 e; subst this; cases h1
    subst hx0
    refine ok_promote 2 32 10 (n := 0) rfl rfl ?_
    exact ok_ret (ok_then_ret (sret_tmp rfl rfl))
  · refine ok_skip (ok_then ?_)
    refine ok_seq ?_
    refine ok_region rfl ?_
    refine ke (bsr e33 z32 p0 rfl rfl rfl rfl rfl rfl) ?_
    refine k (mv (g rfl)) ?_
    refine ok_append (g rfl) (g rfl) ap33 rfl (fun _ => rfl) (by simp; omega) (by simp; omega) rfl rfl ?_
    refine k (asg (g rfl)) ?_
    refine ok_end (ok_then ?_)
    exact ok_ret (sret_tmp rfl rfl)

theorem c_slices_Clone_sMut_Mut_p (xs : List D) (hp : ∀ y ∈ xs, y.plain = true) (hb : xs.length * 120 ≤ 140737488355328) : Pure Pr 54 [.list 10 xs] (.list 10 xs) := pure_of_row (xs := [.list 10 xs]) (c_slices_Clone_sMut_Mut xs hp hb) hp

set_option maxRecDepth 20000 in
theorem c_slices_Clone_sStamp_Stamp (xs : List D) (hp : ∀ y ∈ xs, y.plain = true) (hb : xs.length * 24 ≤ 140737488355328) : Spec Pr 31 [.d (.list 3 xs)] [] (.row 0) [.row 29 3 xs] := by
  refine spec_of Tryz.func31 (by kernel_rfl) rfl Tryz.ntmps31 (by simp) fun w μ ρ => ?_
  refine ok_seq ?_
  refine ok_region rfl ?_
  refine k (asg gN) ?_
  refine ok_end (ok_then ?_)
  refine ok_seq ?_
  refine ok_seq ?_
  refine ok_region rfl ?_
  refine k (mv (g rfl)) ?_
  refine kx (nilq (g rfl) e30) fun b => ?_
  refine ok_end (ok_then ?_)
  refine ok_cond (g rfl) (fun h1 => ?_) (fun h1 => ?_)
  · refine ok_seq ?_
    refine ok_region rfl ?_
    refine k (asg gN) ?_
    refine ok_end (ok_then ?_)
    obtain ⟨b, hb2⟩ := b
    have hx0 : xs = [] := by
      by_cases e : xs = []
      · exact e
      · have := hb2 e; subst this; cases h1
    subst hx0
    refine ok_promote 2 29 3 (n := 0) rfl rfl ?_
    exact ok_ret (ok_then_ret (sret_tmp rfl rfl))
  · refine ok_skip (ok_then ?_)
    refine ok_seq ?_
    refine ok_region rfl ?_
    refine ke (bsr e30 z29 p0 rfl rfl rfl rfl rfl rfl) ?_
    refine k (mv (g rfl)) ?_
    refine ok_append (g rfl) (g rfl) ap30 rfl (fun _ => rfl) (by simp; omega) (by simp; omega) rfl rfl ?_
    refine k (asg (g rfl)) ?_
    refine ok_end (ok_then ?_)
    exact ok_ret (sret_tmp rfl rfl)

theorem c_slices_Clone_sStamp_Stamp_p (xs : List D) (hp : ∀ y ∈ xs, y.plain = true) (hb : xs.length * 24 ≤ 140737488355328) : Pure Pr 31 [.list 3 xs] (.list 3 xs) := pure_of_row (xs := [.list 3 xs]) (c_slices_Clone_sStamp_Stamp xs hp hb) hp

set_option maxRecDepth 20000 in
theorem c_slices_Clone_sRow_Row (xs : List D) (hp : ∀ y ∈ xs, y.plain = true) (hb : xs.length * 56 ≤ 140737488355328) : Spec Pr 30 [.d (.list 5 xs)] [] (.row 0) [.row 49 5 xs] := by
  refine spec_of Tryz.func30 (by kernel_rfl) rfl Tryz.ntmps30 (by simp) fun w μ ρ => ?_
  refine ok_seq ?_
  refine ok_region rfl ?_
  refine k (asg gN) ?_
  refine ok_end (ok_then ?_)
  refine ok_seq ?_
  refine ok_seq ?_
  refine ok_region rfl ?_
  refine k (mv (g rfl)) ?_
  refine kx (nilq (g rfl) e37) fun b => ?_
  refine ok_end (ok_then ?_)
  refine ok_cond (g rfl) (fun h1 => ?_) (fun h1 => ?_)
  · refine ok_seq ?_
    refine ok_region rfl ?_
    refine k (asg gN) ?_
    refine ok_end (ok_then ?_)
    obtain ⟨b, hb2⟩ := b
    have hx0 : xs = [] := by
      by_cases e : xs = []
      · exact e
      · have := hb2 e; subst this; cases h1
    subst hx0
    refine ok_promote 2 49 5 (n := 0) rfl rfl ?_
    exact ok_ret (ok_then_ret (sret_tmp rfl rfl))
  · refine ok_skip (ok_then ?_)
    refine ok_seq ?_
    refine ok_region rfl ?_
    refine ke (bsr e37 z49 p0 rfl rfl rfl rfl rfl rfl) ?_
    refine k (mv (g rfl)) ?_
    refine ok_append (g rfl) (g rfl) ap37 rfl (fun _ => rfl) (by simp; omega) (by simp; omega) rfl rfl ?_
    refine k (asg (g rfl)) ?_
    refine ok_end (ok_then ?_)
    exact ok_ret (sret_tmp rfl rfl)

theorem c_slices_Clone_sRow_Row_p (xs : List D) (hp : ∀ y ∈ xs, y.plain = true) (hb : xs.length * 56 ≤ 140737488355328) : Pure Pr 30 [.list 5 xs] (.list 5 xs) := pure_of_row (xs := [.list 5 xs]) (c_slices_Clone_sRow_Row xs hp hb) hp
end Go.Aw
