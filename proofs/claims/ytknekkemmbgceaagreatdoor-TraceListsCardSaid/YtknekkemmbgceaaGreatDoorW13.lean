/- Contracts of functions of the program, walked: c_mut_Copies. By an AI agent. -/
import Derived.Test.YtknekkemmbgceaaGreatDoorW12
set_option linter.all false
/-! W13 -/
namespace Go.Aw
open Go.RowKit Go.Proofs
private theorem ap33 : AppF Pr 33 32 10 120 := appF_out (by kernel_rfl)
private theorem e33 : elemF Pr 33 = some (32, 10) := by kernel_rfl
private theorem t32 : tyF Pr 32 = some (10, true) := by kernel_rfl
private theorem z32 : ZeroSz Pr 32 10 := ⟨.agg #[.int .i64 0, .int .i64 0, .string ⟨#[]⟩, .string ⟨#[]⟩, .string ⟨#[]⟩, .int .i64 0, .int .i64 0, .int .i64 0, .int .i64 0, .slice none 0 0], fun _ => by kernel_rfl, rfl⟩
private theorem zo32 : ZeroOk Pr 32 [.d (.int .i64 0), .d (.int .i64 0), .d (.str ⟨#[]⟩), .d (.str ⟨#[]⟩), .d (.str ⟨#[]⟩), .d (.int .i64 0), .d (.int .i64 0), .d (.int .i64 0), .d (.int .i64 0), .d (.list 3 [])] := ⟨.agg #[.int .i64 0, .int .i64 0, .string ⟨#[]⟩, .string ⟨#[]⟩, .string ⟨#[]⟩, .int .i64 0, .int .i64 0, .int .i64 0, .int .i64 0, .slice none 0 0], fun _ => by kernel_rfl, fun μ ρ => (rcc zi (rcc zi (rcc zs (rcc zs (rcc zs (rcc zi (rcc zi (rcc zi (rcc zi (rcc zl rcn)))))))))), by simp [Value.cells, Value.oneCell']⟩
theorem takeS {α : Type} (f : α → D) {l : List α} {q : Nat} (hq : q < l.length) : (l.take q).map f ++ [f l[q]] = (l.take (q + 1)).map f := by rw [List.take_add_one, List.getElem?_eq_getElem hq, List.map_append]; rfl

set_option maxRecDepth 20000 in
theorem c_mut_Copies (l : List Mu) (hl : l.length ≤ 1000000) (ho : ∀ x ∈ l, x.over.length * 24 ≤ 140737488355328) : Spec Pr 67 [.d (mus l)] [] (.row 0) [.row 32 10 (l.map Mu.d)] := by
  refine spec_of Tryz.func67 (by kernel_rfl) rfl Tryz.ntmps67 (by simp) fun w μ ρ => ?_
  refine ok_seq ?_
  refine ok_region rfl ?_
  refine k (asg gN) ?_
  refine ok_end (ok_then ?_)
  refine ok_seq ?_
  refine ok_region rfl ?_
  refine k (mv (g rfl)) ?_
  refine k (ln (g rfl) e33) ?_
  refine ke (mkr gi (g rfl) ap33 (by omega) (by simp; omega) (by simp; omega) rfl) ?_
  refine k (asg (g rfl)) ?_
  refine ok_end (ok_then ?_)
  refine ok_seq ?_
  refine ok_seq ?_
  refine ok_region rfl ?_
  refine k (mv (g rfl)) ?_
  refine k (ln (g rfl) e33) ?_
  refine k (mv gi) ?_
  refine ok_end (ok_then ?_)
  refine ok_block ?_
  refine ok_loop (ι := { k : Nat // k ≤ l.length }) 1 (fun i => l.length - i.1) (fun i => (upd 11 (.d (.int .i64 (i.1 : Nat))) (upd 3 (.row 0) (keepB 1 [9, 10] _)))) (fun i => [.row 32 10 ((l.take i.1).map Mu.d)]) ⟨0, Nat.zero_le _⟩ (le_upd rfl (le_upd rfl le_keep_self)) (eb_upd rfl (eb_upd rfl eb_keep)) rfl rfl rfl ?_
  rintro ⟨q, hk⟩
  refine ok_seq ?_
  refine ok_region rfl ?_
  refine k (bn (g rfl) (g rfl) rfl) ?_
  refine ok_end (ok_then ?_)
  refine ok_seq ?_
  refine ok_cond (g rfl) (fun h1 => ?_) (fun h1 => ?_)
  · have hq : q < l.length := by simpa using h1
    refine ok_skip (ok_then ?_)
    refine ok_seq ?_
    refine ok_block ?_
    refine ok_seq ?_
    refine ok_region rfl ?_
    refine k (ixm (g rfl) (g rfl) e33 hq) ?_
    refine k (lR (g rfl) t32 (Nat.le_of_ble_eq_true rfl)) ?_
    refine kal (n := 1) zo32 rfl ?_
    refine kst (g rfl) (g rfl) t32 rfl rfl rfl rfl ?_
    refine ok_end (ok_then ?_)
    refine ok_region rfl ?_
    refine k (mv (g rfl)) ?_
    refine k (lB (g rfl) t32 rfl rfl) ?_
    refine k (cl (a1 (g rfl) rfl a0) (c_mut_Copy l[q] (ho _ (List.getElem_mem _)))) ?_
    refine k (mk e33 z32 (p1 (g rfl) rfl p0) rfl rfl rfl rfl rfl) ?_
    refine ok_append (g rfl) (g rfl) ap33 rfl (fun _ => rfl) (by simp; omega) (by simp; omega) rfl rfl ?_
    refine k (asg (g rfl)) ?_
    refine ok_end (ok_inBlock_normal (ok_then ?_))
    refine ok_region rfl ?_
    refine k (bn (g rfl) gi rfl) ?_
    refine k (mv (g rfl)) ?_
    exact ok_end (ok_round 1 ⟨q + 1, hq⟩ (by show l.length - (q + 1) < l.length - q; omega) (le_upd (winc (k := q) (by omega)) (le_upd rfl (le_keep ⟨rfl, rfl, trivial⟩))) (eb_upd rfl (eb_upd rfl eb_keep)) (congrArg (fun z => [AO.row 32 10 z]) (takeS Mu.d hq)) rfl rfl)
  · have hq : q = l.length := by simp at h1; omega
    refine ok_exit (ok_then_exit (ok_then_exit (ok_inBlock_exit (ok_then ?_))))
    refine ok_seq ?_
    refine ok_region rfl ?_
    refine k (mv (g rfl)) ?_
    refine k (asg (g rfl)) ?_
    refine ok_end (ok_then ?_)
    refine ok_eqL [.row 32 10 (l.map Mu.d)] (by subst hq; rw [List.take_length]) ?_
    exact ok_ret (sret_tmp rfl rfl)
end Go.Aw
