/- Contracts of functions of the program, walked: c_state_Of, c_state_Join. By an AI agent. -/
import Derived.Test.YtknekkemmbgceaaGreatDoorW23
set_option linter.all false
/-! W24 -/
namespace Go.Aw
open Go.RowKit Go.Proofs
private theorem e33 : elemF Pr 33 = some (32, 10) := by kernel_rfl
private theorem pl35 : placesF Pr 35 = some [(0, 1), (1, 1), (2, 1)] := by kernel_rfl
private theorem t32 : tyF Pr 32 = some (10, true) := by kernel_rfl
private theorem t35 : tyF Pr 35 = some (3, true) := by kernel_rfl
private theorem zo32 : ZeroOk Pr 32 [.d (.int .i64 0), .d (.int .i64 0), .d (.str ⟨#[]⟩), .d (.str ⟨#[]⟩), .d (.str ⟨#[]⟩), .d (.int .i64 0), .d (.int .i64 0), .d (.int .i64 0), .d (.int .i64 0), .d (.list 3 [])] := ⟨.agg #[.int .i64 0, .int .i64 0, .string ⟨#[]⟩, .string ⟨#[]⟩, .string ⟨#[]⟩, .int .i64 0, .int .i64 0, .int .i64 0, .int .i64 0, .slice none 0 0], fun _ => by kernel_rfl, fun μ ρ => (rcc zi (rcc zi (rcc zs (rcc zs (rcc zs (rcc zi (rcc zi (rcc zi (rcc zi (rcc zl rcn)))))))))), by simp [Value.cells, Value.oneCell']⟩
private theorem zo35 : ZeroOk Pr 35 [.d (.list 10 []), .d (.list 10 []), .d (.list 10 [])] := ⟨.agg #[.slice none 0 0, .slice none 0 0, .slice none 0 0], fun _ => by kernel_rfl, fun μ ρ => (rcc zl (rcc zl (rcc zl rcn))), by simp [Value.cells, Value.oneCell']⟩
set_option maxRecDepth 20000 in
theorem c_state_Of (l : List Mu) (hl : l.length ≤ 900000) (ho : ∀ m ∈ l, m.lite) : Pure Pr 12 [mus l] (Ct.of l).d := by
  refine pure_of Tryz.func12 (by kernel_rfl) rfl Tryz.ntmps12 (by simp) fun w μ => ?_
  refine ok_seq ?_
  refine ok_region rfl ?_
  refine kal (n := 0) zo35 rfl ?_
  refine ok_end (ok_then ?_)
  refine ok_seq ?_
  refine ok_region rfl ?_
  refine k (bd zo35 pl35 b0 rfl) ?_
  refine kal (n := 1) zo35 rfl ?_
  refine kst (g rfl) (g rfl) t35 rfl rfl rfl rfl ?_
  refine ok_end (ok_then ?_)
  refine ok_seq ?_
  refine ok_seq ?_
  refine ok_region rfl ?_
  refine k (mv (g rfl)) ?_
  refine k (ln (g rfl) e33) ?_
  refine k (mv gi) ?_
  refine ok_end (ok_then ?_)
  refine ok_block ?_
  refine ok_loop (ι := { x : Nat × Ct // x.1 ≤ l.length ∧ (l.drop x.1).foldl Ct.add x.2 = Ct.of l ∧ x.2.le x.1 ∧ x.2.lite }) 2 (fun i => l.length - i.1.1) (fun i => (upd 9 (.d (.int .i64 (i.1.1 : Nat))) (keepB 2 [2, 3, 7, 8] _))) (fun i => [.box 35 [.d (mus []), .d (mus []), .d (mus [])], .box 35 [.d (mus i.1.2.cells), .d (mus i.1.2.wipes), .d (mus i.1.2.sibs)]]) ⟨(0, ⟨[], [], []⟩), Nat.zero_le _, rfl, ct0_le 0, ct0_lite⟩ (le_upd rfl le_keep_self) (eb_upd rfl eb_keep) rfl rfl rfl ?_
  rintro ⟨⟨q, c⟩, hk, hz, hc1, hc2⟩
  have hk : q ≤ l.length := hk
  have hz : (l.drop q).foldl Ct.add c = Ct.of l := hz
  refine ok_seq ?_
  refine ok_region rfl ?_
  refine k (bn (g rfl) (g rfl) rfl) ?_
  refine ok_end (ok_then ?_)
  refine ok_seq ?_
  refine ok_cond (g rfl) (fun h1 => ?_) (fun h1 => ?_)
  · have hq : q < l.length := by simp at h1; exact h1
    refine ok_skip (ok_then ?_)
    refine ok_seq ?_
    refine ok_block ?_
    refine ok_seq ?_
    refine ok_region rfl ?_
    refine k (ixm (g rfl) (g rfl) e33 hq) ?_
    refine k (lR (g rfl) t32 (Nat.le_of_ble_eq_true rfl)) ?_
    refine kal (n := 2) zo32 rfl ?_
    refine kst (g rfl) (g rfl) t32 rfl rfl rfl rfl ?_
    refine ok_end (ok_then ?_)
    refine ok_region rfl ?_
    refine k (lB (g rfl) t35 rfl rfl) ?_
    refine k (lB (g rfl) t32 rfl rfl) ?_
    refine k (cl (a1 (g rfl) rfl (a1 (g rfl) rfl a0)) (c_state_Content_Add c l[q] (Ct.le_mono hc1 (show q ≤ 1000000 by omega)) hc2 (ho _ (List.getElem_mem hq)))) ?_
    refine kst (g rfl) (g rfl) t35 rfl rfl rfl rfl ?_
    refine ok_end (ok_inBlock_normal (ok_then ?_))
    refine ok_region rfl ?_
    refine k (bn (g rfl) gi rfl) ?_
    refine k (mv (g rfl)) ?_
    exact ok_end (ok_round 2 ⟨(q + 1, c.add l[q]), hq, add_step hq hz, Ct.add_le hc1, Ct.add_lite hc2 (ho _ (List.getElem_mem hq))⟩ (by show l.length - (q + 1) < l.length - q; omega) (le_upd (winc (k := q) (by omega)) (le_keep ⟨rfl, rfl, rfl, rfl, trivial⟩)) (eb_upd rfl eb_keep) rfl rfl rfl)
  · have hq : l.length ≤ q := by simp at h1; exact h1
    have hz := add_end hq hz
    refine ok_exit (ok_then_exit (ok_then_exit (ok_inBlock_exit (ok_then ?_))))
    refine ok_seq ?_
    refine ok_region rfl ?_
    refine k (lB (g rfl) t35 rfl rfl) ?_
    refine kst (g rfl) (g rfl) t35 rfl rfl rfl rfl ?_
    refine ok_end (ok_then ?_)
    exact ok_ret (ret_cellA rfl rfl rfl t35 rfl (congrArg (fun z : Ct => some z.d) hz))

set_option maxRecDepth 20000 in
theorem c_state_Join (a b : Ct) (ha : a.le 50000) (hb : b.le 250000) (hal : a.lite) (hbl : b.lite) : Pure Pr 28 [a.d, b.d] (Ct.join a b).d := by
  have hl : b.all.length ≤ 750000 := Ct.all_len hb
  have ho := Ct.all_lite hbl
  refine pure_of Tryz.func28 (by kernel_rfl) rfl Tryz.ntmps28 (by simp) fun w μ => ?_
  refine ok_seq ?_
  refine ok_region rfl ?_
  refine kbox (n := 0) (g rfl) rfl rfl ?_
  refine kbox (n := 1) (g rfl) rfl rfl ?_
  refine kal (n := 2) zo35 rfl ?_
  refine ok_end (ok_then ?_)
  refine ok_seq ?_
  refine ok_seq ?_
  refine ok_region rfl ?_
  refine k (lB (g rfl) t35 rfl rfl) ?_
  refine k (cl (a1 (g rfl) rfl a0) (c_state_Content_All b (Ct.le_mono hb (by omega)) hbl)) ?_
  refine k (ln (g rfl) e33) ?_
  refine k (mv gi) ?_
  refine ok_end (ok_then ?_)
  refine ok_block ?_
  refine ok_loop (ι := { x : Nat × Ct // x.1 ≤ b.all.length ∧ (b.all.drop x.1).foldl Ct.add x.2 = Ct.join a b ∧ x.2.le (50000 + x.1) ∧ x.2.lite }) 3 (fun i => b.all.length - i.1.1) (fun i => (upd 10 (.d (.int .i64 (i.1.1 : Nat))) (keepB 3 [2, 4, 8, 9] _))) (fun i => [.box 35 [.d (mus i.1.2.cells), .d (mus i.1.2.wipes), .d (mus i.1.2.sibs)], .box 35 [.d (mus b.cells), .d (mus b.wipes), .d (mus b.sibs)], .box 35 [.d (mus []), .d (mus []), .d (mus [])]]) ⟨(0, a), Nat.zero_le _, rfl, ha, hal⟩ (le_upd rfl le_keep_self) (eb_upd rfl eb_keep) rfl rfl rfl ?_
  rintro ⟨⟨q, c⟩, hk, hz, hc1, hc2⟩
  have hk : q ≤ b.all.length := hk
  have hz : (b.all.drop q).foldl Ct.add c = Ct.join a b := hz
  refine ok_seq ?_
  refine ok_region rfl ?_
  refine k (bn (g rfl) (g rfl) rfl) ?_
  refine ok_end (ok_then ?_)
  refine ok_seq ?_
  refine ok_cond (g rfl) (fun h1 => ?_) (fun h1 => ?_)
  · have hq : q < b.all.length := by simp at h1; exact h1
    refine ok_skip (ok_then ?_)
    refine ok_seq ?_
    refine ok_block ?_
    refine ok_seq ?_
    refine ok_region rfl ?_
    refine k (ixm (g rfl) (g rfl) e33 hq) ?_
    refine k (lR (g rfl) t32 (Nat.le_of_ble_eq_true rfl)) ?_
    refine kal (n := 3) zo32 rfl ?_
    refine kst (g rfl) (g rfl) t32 rfl rfl rfl rfl ?_
    refine ok_end (ok_then ?_)
    refine ok_region rfl ?_
    refine k (lB (g rfl) t35 rfl rfl) ?_
    refine k (lB (g rfl) t32 rfl rfl) ?_
    refine k (cl (a1 (g rfl) rfl (a1 (g rfl) rfl a0)) (c_state_Content_Add c b.all[q] (Ct.le_mono hc1 (show 50000 + q ≤ 1000000 by omega)) hc2 (ho _ (List.getElem_mem hq)))) ?_
    refine kst (g rfl) (g rfl) t35 rfl rfl rfl rfl ?_
    refine ok_end (ok_inBlock_normal (ok_then ?_))
    refine ok_region rfl ?_
    refine k (bn (g rfl) gi rfl) ?_
    refine k (mv (g rfl)) ?_
    exact ok_end (ok_round 3 ⟨(q + 1, c.add b.all[q]), hq, add_step hq hz, Ct.add_le hc1, Ct.add_lite hc2 (ho _ (List.getElem_mem hq))⟩ (by show b.all.length - (q + 1) < b.all.length - q; omega) (le_upd (winc (k := q) (by omega)) (le_keep ⟨rfl, rfl, rfl, rfl, trivial⟩)) (eb_upd rfl eb_keep) rfl rfl rfl)
  · have hq : b.all.length ≤ q := by simp at h1; exact h1
    have hz := add_end hq hz
    refine ok_exit (ok_then_exit (ok_then_exit (ok_inBlock_exit (ok_then ?_))))
    refine ok_seq ?_
    refine ok_region rfl ?_
    refine k (lB (g rfl) t35 rfl rfl) ?_
    refine kst (g rfl) (g rfl) t35 rfl rfl rfl rfl ?_
    refine ok_end (ok_then ?_)
    exact ok_ret (ret_cellA rfl rfl rfl t35 rfl (congrArg (fun z : Ct => some z.d) hz))
end Go.Aw
