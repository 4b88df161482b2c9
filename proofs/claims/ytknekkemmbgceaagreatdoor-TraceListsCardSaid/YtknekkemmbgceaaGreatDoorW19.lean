/- Contracts of functions of the program, walked: c_trace_nodes, c_trace_Line, c_cenotaphlaw30_alive. By an AI agent. -/
import Derived.Test.YtknekkemmbgceaaGreatDoorW18
import Derived.Test.YtknekkemmbgceaaGreatDoorSp
set_option linter.all false
/-! W19 -/
namespace Go.Aw
open Go.RowKit Go.Proofs
private theorem e24 : elemF Pr 24 = some (3, 1) := by kernel_rfl
private theorem e37 : elemF Pr 37 = some (49, 5) := by kernel_rfl
private theorem f39_0 : fldF Pr 39 0 = some (0, 1, false) := by kernel_rfl
private theorem f39_1 : fldF Pr 39 1 = some (1, 1, false) := by kernel_rfl
private theorem f39_10 : fldF Pr 39 10 = some (25, 1, false) := by kernel_rfl
private theorem f39_16 : fldF Pr 39 16 = some (31, 1, false) := by kernel_rfl
private theorem f39_2 : fldF Pr 39 2 = some (2, 1, false) := by kernel_rfl
private theorem f39_3 : fldF Pr 39 3 = some (3, 1, false) := by kernel_rfl
private theorem f39_4 : fldF Pr 39 4 = some (4, 10, true) := by kernel_rfl
private theorem f39_6 : fldF Pr 39 6 = some (17, 3, true) := by kernel_rfl
private theorem f39_9 : fldF Pr 39 9 = some (24, 1, false) := by kernel_rfl
private theorem f49_0 : fldF Pr 49 0 = some (0, 1, false) := by kernel_rfl
private theorem f49_1 : fldF Pr 49 1 = some (1, 1, false) := by kernel_rfl
private theorem pl29 : placesF Pr 29 = some [(0, 1), (1, 1), (2, 1)] := by kernel_rfl
private theorem pl32 : placesF Pr 32 = some [(0, 1), (1, 1), (2, 1), (3, 1), (4, 1), (5, 1), (6, 3), (9, 1)] := by kernel_rfl
private theorem pl39 : placesF Pr 39 = some [(0, 1), (1, 1), (2, 1), (3, 1), (4, 10), (14, 3), (17, 3), (20, 3), (23, 1), (24, 1), (25, 1), (26, 1), (27, 1), (28, 1), (29, 1), (30, 1), (31, 1), (32, 1)] := by kernel_rfl
private theorem t23 : tyF Pr 23 = some (1, false) := by kernel_rfl
private theorem t24 : tyF Pr 24 = some (1, false) := by kernel_rfl
private theorem t29 : tyF Pr 29 = some (3, true) := by kernel_rfl
private theorem t3 : tyF Pr 3 = some (1, false) := by kernel_rfl
private theorem t32 : tyF Pr 32 = some (10, true) := by kernel_rfl
private theorem t36 : tyF Pr 36 = some (1, false) := by kernel_rfl
private theorem t37 : tyF Pr 37 = some (1, false) := by kernel_rfl
private theorem t39 : tyF Pr 39 = some (33, true) := by kernel_rfl
private theorem t49 : tyF Pr 49 = some (5, true) := by kernel_rfl
private theorem t9 : tyF Pr 9 = some (1, false) := by kernel_rfl
private theorem zo29 : ZeroOk Pr 29 [.d (.int .i64 0), .d (.int .i64 0), .d (.int .i64 0)] := ⟨.agg #[.int .i64 0, .int .i64 0, .int .i64 0], fun _ => by kernel_rfl, fun μ ρ => (rcc zi (rcc zi (rcc zi rcn))), by simp [Value.cells, Value.oneCell']⟩
private theorem zo32 : ZeroOk Pr 32 [.d (.int .i64 0), .d (.int .i64 0), .d (.str ⟨#[]⟩), .d (.str ⟨#[]⟩), .d (.str ⟨#[]⟩), .d (.int .i64 0), .d (.int .i64 0), .d (.int .i64 0), .d (.int .i64 0), .d (.list 3 [])] := ⟨.agg #[.int .i64 0, .int .i64 0, .string ⟨#[]⟩, .string ⟨#[]⟩, .string ⟨#[]⟩, .int .i64 0, .int .i64 0, .int .i64 0, .int .i64 0, .slice none 0 0], fun _ => by kernel_rfl, fun μ ρ => (rcc zi (rcc zi (rcc zs (rcc zs (rcc zs (rcc zi (rcc zi (rcc zi (rcc zi (rcc zl rcn)))))))))), by simp [Value.cells, Value.oneCell']⟩
private theorem zo39 : ZeroOk Pr 39 [.d (.int .i64 0), .d (.int .i64 0), .d (.int .i64 0), .d (.int .i64 0), .d (.int .i64 0), .d (.int .i64 0), .d (.str ⟨#[]⟩), .d (.str ⟨#[]⟩), .d (.str ⟨#[]⟩), .d (.int .i64 0), .d (.int .i64 0), .d (.int .i64 0), .d (.int .i64 0), .d (.list 3 []), .d (.list 10 []), .d (.list 10 []), .d (.list 10 []), .d (.int .i64 0), .d (.int .i64 0), .d (.int .i64 0), .d (.int .i64 0), .d (.int .i64 0), .d (.int .i64 0), .d (.bool false), .d (.int .i64 0), .d (.list 1 []), .d (.list 1 []), .d (.int .i64 0), .d (.int .i64 0), .d (.str ⟨#[]⟩), .d (.str ⟨#[]⟩), .d (.list 5 []), .d (.list 3 [])] := ⟨.agg #[.int .i64 0, .int .i64 0, .int .i64 0, .int .i64 0, .int .i64 0, .int .i64 0, .string ⟨#[]⟩, .string ⟨#[]⟩, .string ⟨#[]⟩, .int .i64 0, .int .i64 0, .int .i64 0, .int .i64 0, .slice none 0 0, .slice none 0 0, .slice none 0 0, .slice none 0 0, .int .i64 0, .int .i64 0, .int .i64 0, .int .i64 0, .int .i64 0, .int .i64 0, .bool false, .int .i64 0, .slice none 0 0, .slice none 0 0, .int .i64 0, .int .i64 0, .string ⟨#[]⟩, .string ⟨#[]⟩, .slice none 0 0, .slice none 0 0], fun _ => by kernel_rfl, fun μ ρ => (rcc zi (rcc zi (rcc zi (rcc zi (rcc zi (rcc zi (rcc zs (rcc zs (rcc zs (rcc zi (rcc zi (rcc zi (rcc zi (rcc zl (rcc zl (rcc zl (rcc zl (rcc zi (rcc zi (rcc zi (rcc zi (rcc zi (rcc zi (rcc zb (rcc zi (rcc zl (rcc zl (rcc zi (rcc zi (rcc zs (rcc zs (rcc zl (rcc zl rcn))))))))))))))))))))))))))))))))), by simp [Value.cells, Value.oneCell']⟩
private theorem zo49 : ZeroOk Pr 49 [.d (.str ⟨#[]⟩), .d (.str ⟨#[]⟩), .d (.int .i64 0), .d (.int .i64 0), .d (.int .i64 0)] := ⟨.agg #[.string ⟨#[]⟩, .string ⟨#[]⟩, .int .i64 0, .int .i64 0, .int .i64 0], fun _ => by kernel_rfl, fun μ ρ => (rcc zs (rcc zs (rcc zi (rcc zi (rcc zi rcn))))), by simp [Value.cells, Value.oneCell']⟩
def ev1 : Ev := ⟨1, 0, 1, 0, ⟨0, 1, ⟨#[107]⟩, ⟨#[]⟩, ⟨#[118]⟩, 0, ⟨2, 0, 1⟩, []⟩, ⟨[], [], []⟩, ⟨0, 0, 0⟩, ⟨0, 0, 0⟩, false, 0, [], [], 0, 0, ⟨#[]⟩, ⟨#[]⟩, [], []⟩
theorem ev1_small : ev1.small := ⟨⟨by decide, by decide, by decide⟩, by decide, by decide, fun r h => by cases h⟩
theorem ev1_line : ((((((sEq ev1.line ⟨#[97, 99, 99, 101, 112, 116, 32, 48, 32, 49, 32, 112, 117, 116, 32, 107, 32, 50, 46, 48, 46, 49, 32, 34, 118, 34]⟩ && true) && true) && true) && true) && true) && true) = true := by decide +kernel

set_option maxRecDepth 20000 in
theorem c_trace_nodes (l : List Int) (hl : l.length ≤ 1000000) : Pure Pr 24 [ints l] (.str (nodesS l)) := by
  refine pure_of Tryz.func24 (by kernel_rfl) rfl Tryz.ntmps24 (by simp) fun w μ => ?_
  refine ok_seq ?_
  refine ok_region rfl ?_
  refine k (asg gs) ?_
  refine ok_end (ok_then ?_)
  refine ok_seq ?_
  refine ok_region rfl ?_
  refine k (asg gs) ?_
  refine ok_end (ok_then ?_)
  refine ok_seq ?_
  refine ok_seq ?_
  refine ok_region rfl ?_
  refine k (mv (g rfl)) ?_
  refine k (ln (g rfl) e24) ?_
  refine k (mv gi) ?_
  refine ok_end (ok_then ?_)
  refine ok_block ?_
  refine ok_loop (ι := { x : Nat × ByteArray // x.1 ≤ l.length ∧ nodesG x.1 (l.drop x.1) x.2 = nodesS l ∧ x.2.size ≤ 21 * x.1 }) 0 (fun i => l.length - i.1.1) (fun i => (upd 8 (.d (.int .i64 (i.1.1 : Nat))) (upd 3 (.d (.str i.1.2)) (keepB 0 [6, 7] _)))) (fun _ => _) ⟨(0, ⟨#[]⟩), Nat.zero_le _, rfl, Nat.le_refl _⟩ (le_upd rfl (le_upd rfl le_keep_self)) (eb_upd rfl (eb_upd rfl eb_keep)) rfl rfl rfl ?_
  rintro ⟨⟨q, s⟩, hk, hz, hs⟩
  have hk : q ≤ l.length := hk
  have hz : nodesG q (l.drop q) s = nodesS l := hz
  have hs : s.size ≤ 21 * q := hs
  refine ok_seq ?_
  refine ok_region rfl ?_
  refine k (bn (g rfl) (g rfl) rfl) ?_
  refine ok_end (ok_then ?_)
  refine ok_seq ?_
  refine ok_cond (g rfl) (fun h1 => ?_) (fun h1 => ?_)
  · have hq : q < l.length := by simp at h1; exact h1
    have hsq : s.size ≤ 21000000 := by omega
    have hs1 : (bif decide (0 < (q : Int)) then s ++ ⟨#[44]⟩ else s).size ≤ 21000001 := by cases decide (0 < (q : Int)); exact Nat.le_trans hsq (by omega); exact cat_le hsq (one_le _)
    refine ok_skip (ok_then ?_)
    refine ok_seq ?_
    refine ok_block ?_
    refine ok_seq ?_
    refine ok_region rfl ?_
    refine k (mv (g rfl)) ?_
    refine k (ixm (g rfl) (g rfl) e24 hq) ?_
    refine k (lr (g rfl) t3 rfl) ?_
    refine k (asg (g rfl)) ?_
    refine k (asg (g rfl)) ?_
    refine ok_end (ok_then ?_)
    refine ok_cutE (fun E0 => (upd 3 (.d (.str (bif decide (0 < (q : Int)) then s ++ ⟨#[44]⟩ else s))) (keepB 0 [5, 6, 7, 8] E0))) (fun L0 => L0) ?_ ?_
    · refine ok_seq ?_
      refine ok_region rfl ?_
      refine k (mv (g rfl)) ?_
      refine k (bn (g rfl) gi rfl) ?_
      refine ok_end (ok_then ?_)
      refine ok_cond (g rfl) (fun h2 => ?_) (fun h2 => ?_)
      · refine ok_region rfl ?_
        refine k (mv (g rfl)) ?_
        refine k (ct (g rfl) gs (catOk hsq (one_le _))) ?_
        refine k (asg (g rfl)) ?_
        exact ok_end (ok_to 0 (le_upd (congrArg (fun z => some (AV.d (D.str (bif z then s ++ (⟨#[44]⟩ : ByteArray) else s)))) h2.symm) (le_keep ⟨rfl, rfl, rfl, rfl, trivial⟩)) (eb_upd rfl eb_keep) rfl rfl rfl)
      · exact ok_skip (ok_to 0 (le_upd (congrArg (fun z => some (AV.d (D.str (bif z then s ++ (⟨#[44]⟩ : ByteArray) else s)))) h2.symm) (le_keep ⟨rfl, rfl, rfl, rfl, trivial⟩)) (eb_upd rfl eb_keep) rfl rfl rfl)
    refine ok_region rfl ?_
    refine k (mv (g rfl)) ?_
    refine k (mv (g rfl)) ?_
    refine k (cl (a1 (g rfl) rfl a0) (c_nums_Text _)) ?_
    refine k (ct (g rfl) (g rfl) (catOk hs1 (textI_size _))) ?_
    refine k (asg (g rfl)) ?_
    refine ok_end (ok_inBlock_normal (ok_then ?_))
    refine ok_region rfl ?_
    refine k (bn (g rfl) gi rfl) ?_
    refine k (mv (g rfl)) ?_
    exact ok_end (ok_round 0 ⟨(q + 1, nodeStep q l[q] s), hq, nodes_next hq hz, by have := nodeStep_size q l[q] s; show (nodeStep q l[q] s).size ≤ 21 * (q + 1); omega⟩ (by show l.length - (q + 1) < l.length - q; omega) (le_upd (winc (k := q) (by omega)) (le_upd rfl (le_keep ⟨rfl, rfl, trivial⟩))) (eb_upd rfl (eb_upd rfl eb_keep)) rfl rfl rfl)
  · have hq : l.length ≤ q := by simp at h1; exact h1
    have hz := nodes_end hq hz
    refine ok_exit (ok_then_exit (ok_then_exit (ok_inBlock_exit (ok_then ?_))))
    refine ok_seq ?_
    refine ok_region rfl ?_
    refine k (mv (g rfl)) ?_
    refine k (asg (g rfl)) ?_
    refine ok_end (ok_then ?_)
    exact ok_ret (ret_tmp rfl rfl (congrArg (fun z => some (D.str z)) hz))

set_option maxRecDepth 20000 in
theorem c_trace_Line (e : Ev) (he : e.small) : Pure Pr 8 [e.d] (.str e.line) := by
  refine pure_of Tryz.func8 (by kernel_rfl) rfl Tryz.ntmps8 (by simp) fun w μ => ?_
  refine ok_seq ?_
  refine ok_region rfl ?_
  refine kbox (n := 0) (g rfl) rfl rfl ?_
  refine k (asg gs) ?_
  refine ok_end (ok_then ?_)
  refine ok_seq ?_
  refine ok_region rfl ?_
  refine k (fb (g rfl) f39_0) ?_
  refine k (lb (g rfl) t23 rfl rfl) ?_
  refine k (cl (a1 (g rfl) rfl a0) (c_trace_name _)) ?_
  refine k (asg (g rfl)) ?_
  refine ok_end (ok_then ?_)
  refine ok_seq ?_
  refine ok_seq ?_
  refine ok_region rfl ?_
  refine k (mv (g rfl)) ?_
  refine k (bn (g rfl) gs rfl) ?_
  refine ok_end (ok_then ?_)
  refine ok_cond (g rfl) (fun h1 => ?_) (fun h1 => ?_)
  · refine ok_seq ?_
    refine ok_region rfl ?_
    refine k (asg gs) ?_
    refine ok_end (ok_then ?_)
    exact ok_ret (ok_then_ret (ret_tmp rfl rfl (by rw [Ev.line, h1]; rfl)))
  · refine ok_skip (ok_then ?_)
    refine ok_seq ?_
    refine ok_region rfl ?_
    refine k (mv (g rfl)) ?_
    refine k (fb (g rfl) f39_1) ?_
    refine k (lb (g rfl) t3 rfl rfl) ?_
    refine k (cl (a1 (g rfl) rfl a0) (c_nums_Text _)) ?_
    refine k (ct gs (g rfl) (catOk (one_le _) (textI_size _))) ?_
    refine k (ct (g rfl) (g rfl) (catOk (kindWord_size _) (cat_le (one_le _) (textI_size _)))) ?_
    refine k (asg (g rfl)) ?_
    refine ok_end (ok_then ?_)
    refine ok_seq ?_
    refine ok_seq ?_
    refine ok_region rfl ?_
    refine k (fb (g rfl) f39_0) ?_
    refine k (lb (g rfl) t23 rfl rfl) ?_
    refine ok_end (ok_then ?_)
    refine ok_block ?_
    refine ok_cutE (fun E0 => (upd 19 (.d (.bool (e.kind == 1 || e.kind == 4))) (keepB 1 [1, 3, 18] E0))) (fun L0 => L0) ?_ ?_
    · refine ok_seq ?_
      refine ok_region rfl ?_
      refine k (bn (g rfl) gi rfl) ?_
      refine k (asg (g rfl)) ?_
      refine ok_end (ok_then ?_)
      refine ok_cond (g rfl) (fun h2 => ?_) (fun h2 => ?_)
      · exact ok_skip (ok_to 1 (le_upd (congrArg (fun z => some (AV.d (D.bool z))) (by rw [h2]; rfl)) (le_keep ⟨by kernel_rfl, by kernel_rfl, by kernel_rfl, trivial⟩)) (eb_upd rfl eb_keep) rfl rfl rfl)
      · refine ok_region rfl ?_
        refine k (bn (g rfl) gi rfl) ?_
        refine k (asg (g rfl)) ?_
        exact ok_end (ok_to 1 (le_upd (congrArg (fun z => some (AV.d (D.bool z))) (by rw [h2]; rfl)) (le_keep ⟨by kernel_rfl, by kernel_rfl, by kernel_rfl, trivial⟩)) (eb_upd rfl eb_keep) rfl rfl rfl)
    refine ok_cond (g rfl) (fun h3 => ?_) (fun h3 => ?_)
    · refine ok_seq ?_
      refine ok_draw [22, 23, 24, 25, 26, 27, 28, 29, 30, 31, 32, 2] rfl (by kernel_rfl) ?_
      refine dr (mv (g rfl)) ?_
      refine dr (ct (g rfl) gs (catOk e.l0_size (one_le _))) ?_
      refine dr (fb (g rfl) f39_2) ?_
      refine dr (lb (g rfl) t3 rfl rfl) ?_
      refine dr (cl (a1 (g rfl) rfl a0) (c_nums_Text _)) ?_
      refine dr (ct (g rfl) (g rfl) (catOk (cat_le e.l0_size (one_le _)) (textI_size _))) ?_
      refine dr (ct (g rfl) gs (catOk (cat_le (cat_le e.l0_size (one_le _)) (textI_size _)) (one_le _))) ?_
      refine dr (fb (g rfl) f39_4) ?_
      refine dr (lB (g rfl) t32 rfl rfl) ?_
      refine dr (cl (a1 (g rfl) rfl a0) (c_trace_Mut e.m he.m)) ?_
      refine dr (ct (g rfl) (g rfl) (catOk (cat_le (cat_le (cat_le e.l0_size (one_le _)) (textI_size _)) (one_le _)) (mutS_size he.m))) ?_
      refine dr (asg (g rfl)) ?_
      refine draw_end mixed (ok_then ?_)
      exact ok_ret (ok_inBlock_ret (ok_then_ret (ret_tmp rfl rfl (by rw [Ev.line, h1, h3]; rfl))))
    · refine ok_cutE (fun E0 => (upd 33 (.d (.bool (e.kind == 2 || e.kind == 3))) (keepB 1 [1, 3, 18] E0))) (fun L0 => L0) ?_ ?_
      · refine ok_seq ?_
        refine ok_region rfl ?_
        refine k (bn (g rfl) gi rfl) ?_
        refine k (asg (g rfl)) ?_
        refine ok_end (ok_then ?_)
        refine ok_cond (g rfl) (fun h4 => ?_) (fun h4 => ?_)
        · exact ok_skip (ok_to 1 (le_upd (congrArg (fun z => some (AV.d (D.bool z))) (by rw [h4]; rfl)) (le_keep ⟨by kernel_rfl, by kernel_rfl, by kernel_rfl, trivial⟩)) (eb_upd rfl eb_keep) rfl rfl rfl)
        · refine ok_region rfl ?_
          refine k (bn (g rfl) gi rfl) ?_
          refine k (asg (g rfl)) ?_
          exact ok_end (ok_to 1 (le_upd (congrArg (fun z => some (AV.d (D.bool z))) (by rw [h4]; rfl)) (le_keep ⟨by kernel_rfl, by kernel_rfl, by kernel_rfl, trivial⟩)) (eb_upd rfl eb_keep) rfl rfl rfl)
      refine ok_cond (g rfl) (fun h5 => ?_) (fun h5 => ?_)
      · refine ok_seq ?_
        refine ok_draw [36, 37, 38, 39, 40, 41, 42, 43, 44, 45, 46, 2] rfl (by kernel_rfl) ?_
        refine dr (mv (g rfl)) ?_
        refine dr (ct (g rfl) gs (catOk e.l0_size (one_le _))) ?_
        refine dr (fb (g rfl) f39_2) ?_
        refine dr (lb (g rfl) t3 rfl rfl) ?_
        refine dr (cl (a1 (g rfl) rfl a0) (c_nums_Text _)) ?_
        refine dr (ct (g rfl) (g rfl) (catOk (cat_le e.l0_size (one_le _)) (textI_size _))) ?_
        refine dr (ct (g rfl) gs (catOk (cat_le (cat_le e.l0_size (one_le _)) (textI_size _)) (one_le _))) ?_
        refine dr (fb (g rfl) f39_6) ?_
        refine dr (lB (g rfl) t29 rfl rfl) ?_
        refine dr (cl (a1 (g rfl) rfl a0) (c_nums_Stamp _)) ?_
        refine dr (ct (g rfl) (g rfl) (catOk (cat_le (cat_le (cat_le e.l0_size (one_le _)) (textI_size _)) (one_le _)) (stampS_size _))) ?_
        refine dr (asg (g rfl)) ?_
        refine draw_end mixed (ok_then ?_)
        exact ok_ret (ok_inBlock_ret (ok_then_ret (ret_tmp rfl rfl (by rw [Ev.line, h1, h3, h5]; rfl))))
      · refine ok_cutE (fun E0 => (upd 47 (.d (.bool ((e.kind == 8 || e.kind == 7) || e.kind == 9))) (keepB 1 [1, 3, 18] E0))) (fun L0 => L0) ?_ ?_
        · refine ok_seq ?_
          refine ok_region rfl ?_
          refine k (bn (g rfl) gi rfl) ?_
          refine k (asg (g rfl)) ?_
          refine ok_end (ok_then ?_)
          refine ok_cond (g rfl) (fun h6 => ?_) (fun h6 => ?_)
          · exact ok_skip (ok_to 1 (le_upd (congrArg (fun z => some (AV.d (D.bool z))) (by rw [h6]; rfl)) (le_keep ⟨by kernel_rfl, by kernel_rfl, by kernel_rfl, trivial⟩)) (eb_upd rfl eb_keep) rfl rfl rfl)
          · refine ok_seq ?_
            refine ok_region rfl ?_
            refine k (bn (g rfl) gi rfl) ?_
            refine k (asg (g rfl)) ?_
            refine ok_end (ok_then ?_)
            refine ok_cond (g rfl) (fun h7 => ?_) (fun h7 => ?_)
            · exact ok_skip (ok_to 1 (le_upd (congrArg (fun z => some (AV.d (D.bool z))) (by rw [h6, h7]; rfl)) (le_keep ⟨by kernel_rfl, by kernel_rfl, by kernel_rfl, trivial⟩)) (eb_upd rfl eb_keep) rfl rfl rfl)
            · refine ok_region rfl ?_
              refine k (bn (g rfl) gi rfl) ?_
              refine k (asg (g rfl)) ?_
              exact ok_end (ok_to 1 (le_upd (congrArg (fun z => some (AV.d (D.bool z))) (by rw [h6, h7]; rfl)) (le_keep ⟨by kernel_rfl, by kernel_rfl, by kernel_rfl, trivial⟩)) (eb_upd rfl eb_keep) rfl rfl rfl)
        refine ok_cond (g rfl) (fun h8 => ?_) (fun h8 => ?_)
        · refine ok_seq ?_
          refine ok_region rfl ?_
          refine k (mv (g rfl)) ?_
          refine k (ct (g rfl) gs (catOk e.l0_size (one_le _))) ?_
          refine k (fb (g rfl) f39_2) ?_
          refine k (lb (g rfl) t3 rfl rfl) ?_
          refine k (cl (a1 (g rfl) rfl a0) (c_nums_Text _)) ?_
          refine k (ct (g rfl) (g rfl) (catOk (cat_le e.l0_size (one_le _)) (textI_size _))) ?_
          refine k (asg (g rfl)) ?_
          refine ok_end (ok_then ?_)
          exact ok_ret (ok_inBlock_ret (ok_then_ret (ret_tmp rfl rfl (by rw [Ev.line, h1, h3, h5, h8]; rfl))))
        · refine ok_seq ?_
          refine ok_region rfl ?_
          refine k (bn (g rfl) gi rfl) ?_
          refine k (asg (g rfl)) ?_
          refine ok_end (ok_then ?_)
          refine ok_cond (g rfl) (fun h9 => ?_) (fun h9 => ?_)
          · refine ok_seq ?_
            refine ok_draw [59, 60, 61, 62, 63, 64, 65, 66, 67, 68, 69, 2] rfl (by kernel_rfl) ?_
            refine dr (mv (g rfl)) ?_
            refine dr (ct (g rfl) gs (catOk e.l0_size (one_le _))) ?_
            refine dr (fb (g rfl) f39_2) ?_
            refine dr (lb (g rfl) t3 rfl rfl) ?_
            refine dr (cl (a1 (g rfl) rfl a0) (c_nums_Text _)) ?_
            refine dr (ct (g rfl) (g rfl) (catOk (cat_le e.l0_size (one_le _)) (textI_size _))) ?_
            refine dr (ct (g rfl) gs (catOk (cat_le (cat_le e.l0_size (one_le _)) (textI_size _)) (one_le _))) ?_
            refine dr (fb (g rfl) f39_3) ?_
            refine dr (lb (g rfl) t3 rfl rfl) ?_
            refine dr (cl (a1 (g rfl) rfl a0) (c_nums_Text _)) ?_
            refine dr (ct (g rfl) (g rfl) (catOk (cat_le (cat_le (cat_le e.l0_size (one_le _)) (textI_size _)) (one_le _)) (textI_size _))) ?_
            refine dr (asg (g rfl)) ?_
            refine draw_end mixed (ok_then ?_)
            exact ok_ret (ok_inBlock_ret (ok_then_ret (ret_tmp rfl rfl (by rw [Ev.line, h1, h3, h5, h8, h9]; rfl))))
          · refine ok_seq ?_
            refine ok_region rfl ?_
            refine k (bn (g rfl) gi rfl) ?_
            refine k (asg (g rfl)) ?_
            refine ok_end (ok_then ?_)
            refine ok_cond (g rfl) (fun h10 => ?_) (fun h10 => ?_)
            · refine ok_seq ?_
              refine ok_region rfl ?_
              refine k (mv (g rfl)) ?_
              refine k (ct (g rfl) gs (catOk e.l0_size (one_le _))) ?_
              refine k (fb (g rfl) f39_3) ?_
              refine k (lb (g rfl) t3 rfl rfl) ?_
              refine k (cl (a1 (g rfl) rfl a0) (c_nums_Text _)) ?_
              refine k (ct (g rfl) (g rfl) (catOk (cat_le e.l0_size (one_le _)) (textI_size _))) ?_
              refine k (asg (g rfl)) ?_
              refine ok_end (ok_then ?_)
              exact ok_ret (ok_inBlock_ret (ok_then_ret (ret_tmp rfl rfl (by rw [Ev.line, h1, h3, h5, h8, h9, h10]; rfl))))
            · refine ok_seq ?_
              refine ok_region rfl ?_
              refine k (bn (g rfl) gi rfl) ?_
              refine k (asg (g rfl)) ?_
              refine ok_end (ok_then ?_)
              refine ok_cond (g rfl) (fun h11 => ?_) (fun h11 => ?_)
              · refine ok_seq ?_
                refine ok_draw [80, 81, 82, 83, 84, 85, 86, 87, 88, 89, 90, 3] rfl (by kernel_rfl) ?_
                refine dr (mv (g rfl)) ?_
                refine dr (fb (g rfl) f39_3) ?_
                refine dr (lb (g rfl) t3 rfl rfl) ?_
                refine dr (cl (a1 (g rfl) rfl a0) (c_nums_Text _)) ?_
                refine dr (ct gs (g rfl) (catOk (one_le _) (textI_size _))) ?_
                refine dr (ct (g rfl) gs (catOk (cat_le (one_le _) (textI_size _)) (one_le _))) ?_
                refine dr (fb (g rfl) f39_9) ?_
                refine dr (lb (g rfl) t36 rfl rfl) ?_
                refine dr (cl (a1 (g rfl) rfl a0) (c_nums_Text _)) ?_
                refine dr (ct (g rfl) (g rfl) (catOk (cat_le (cat_le (one_le _) (textI_size _)) (one_le _)) (textI_size _))) ?_
                refine dr (ct (g rfl) (g rfl) (catOk e.l0_size (cat_le (cat_le (cat_le (one_le _) (textI_size _)) (one_le _)) (textI_size _)))) ?_
                refine dr (asg (g rfl)) ?_
                refine draw_end mixed (ok_then ?_)
                refine ok_cutE (fun E0 => (upd 3 (.d (.str e.l2)) (keepB 1 [1] E0))) (fun L0 => L0) ?_ ?_
                · refine ok_seq ?_
                  refine ok_region rfl ?_
                  refine k (fb (g rfl) f39_10) ?_
                  refine k (lb (g rfl) t24 rfl rfl) ?_
                  refine k (ln (g rfl) e24) ?_
                  refine k (bn (g rfl) gi rfl) ?_
                  refine ok_end (ok_then ?_)
                  refine ok_cond (g rfl) (fun h12 => ?_) (fun h12 => ?_)
                  · rw [List.length_map] at h12
                    refine ok_region rfl ?_
                    refine k (mv (g rfl)) ?_
                    refine k (fb (g rfl) f39_10) ?_
                    refine k (lb (g rfl) t24 rfl rfl) ?_
                    refine k (cl (a1 (g rfl) rfl a0) (c_trace_nodes e.q he.q)) ?_
                    refine k (ct gs (g rfl) (catOk (one_le _) (nodes_le he))) ?_
                    refine k (ct (g rfl) (g rfl) (catOk e.l1_size (cat_le (one_le _) (nodes_le he)))) ?_
                    refine k (asg (g rfl)) ?_
                    exact ok_end (ok_to 1 (le_upd (congrArg (fun z => some (AV.d (D.str (bif z then e.l1 ++ ((⟨#[32]⟩ : ByteArray) ++ nodesS e.q) else e.l1)))) h12.symm) (le_keep ⟨by kernel_rfl, trivial⟩)) (eb_upd rfl eb_keep) rfl rfl rfl)
                  · rw [List.length_map] at h12
                    exact ok_skip (ok_to 1 (le_upd (congrArg (fun z => some (AV.d (D.str (bif z then e.l1 ++ ((⟨#[32]⟩ : ByteArray) ++ nodesS e.q) else e.l1)))) h12.symm) (le_keep ⟨by kernel_rfl, trivial⟩)) (eb_upd rfl eb_keep) rfl rfl rfl)
                refine ok_seq ?_
                refine ok_region rfl ?_
                refine k (fb (g rfl) f39_16) ?_
                refine k (lb (g rfl) t37 rfl rfl) ?_
                refine k (ln (g rfl) e37) ?_
                refine k (mv gi) ?_
                refine ok_end (ok_then ?_)
                refine ok_block ?_
                refine ok_loop (ι := { x : Nat × ByteArray // x.1 ≤ e.rows.length ∧ rowsG (e.rows.drop x.1) x.2 = rowsG e.rows e.l2 ∧ x.2.size ≤ 21000074 + 6000004 * x.1 }) 1 (fun i => e.rows.length - i.1.1) (fun i => (upd 104 (.d (.int .i64 (i.1.1 : Nat))) (upd 3 (.d (.str i.1.2)) (keepB 1 [102, 103] _)))) (fun _ => _) ⟨(0, e.l2), Nat.zero_le _, rfl, Ev.l2_size he⟩ (le_upd rfl (le_upd rfl le_keep_self)) (eb_upd rfl (eb_upd rfl eb_keep)) rfl rfl rfl ?_
                rintro ⟨⟨q, s⟩, hk, hz, hs⟩
                have hk : q ≤ e.rows.length := hk
                have hz : rowsG (e.rows.drop q) s = rowsG e.rows e.l2 := hz
                have hs : s.size ≤ 21000074 + 6000004 * q := hs
                have hr := he.r
                refine ok_seq ?_
                refine ok_region rfl ?_
                refine k (bn (g rfl) (g rfl) rfl) ?_
                refine ok_end (ok_then ?_)
                refine ok_seq ?_
                refine ok_cond (g rfl) (fun h13 => ?_) (fun h13 => ?_)
                · have hq : q < e.rows.length := by simp at h13; exact h13
                  have hsq : s.size ≤ 6100000000000 := by omega
                  have hro := he.rs _ (List.getElem_mem hq)
                  refine ok_skip (ok_then ?_)
                  refine ok_seq ?_
                  refine ok_block ?_
                  refine ok_seq ?_
                  refine ok_region rfl ?_
                  refine k (ixm (g rfl) (g rfl) e37 hq) ?_
                  refine k (lR (g rfl) t49 (Nat.le_of_ble_eq_true rfl)) ?_
                  refine kal (n := 1) zo49 rfl ?_
                  refine kst (g rfl) (g rfl) t49 rfl rfl rfl rfl ?_
                  refine ok_end (ok_then ?_)
                  refine ok_draw [108, 109, 110, 111, 112, 113, 114, 115, 116, 117, 3] rfl (by kernel_rfl) ?_
                  refine dr (mv (g rfl)) ?_
                  refine dr (fb (g rfl) f49_0) ?_
                  refine dr (lb (g rfl) t9 rfl rfl) ?_
                  refine dr (ct gs (g rfl) (catOk (one_le _) hro.1)) ?_
                  refine dr (ct (g rfl) gs (catOk (cat_le (one_le _) hro.1) (one_le _))) ?_
                  refine dr (fb (g rfl) f49_1) ?_
                  refine dr (lb (g rfl) t9 rfl rfl) ?_
                  refine dr (cl (a1 (g rfl) rfl a0) (c_runes_Quote (e.rows[q]'hq).val (Nat.le_trans (he.rs _ (List.getElem_mem hq)).2 (by decide)))) ?_
                  refine dr (ct (g rfl) (g rfl) (catOk (cat_le (cat_le (one_le _) hro.1) (one_le _)) (quote_le hro.2))) ?_
                  refine dr (ct (g rfl) (g rfl) (catOk hsq (Ro.s_size hro))) ?_
                  refine dr (asg (g rfl)) ?_
                  refine draw_end mixed (ok_inBlock_normal (ok_then ?_))
                  refine ok_region rfl ?_
                  refine k (bn (g rfl) gi rfl) ?_
                  refine k (mv (g rfl)) ?_
                  exact ok_end (ok_round 1 ⟨(q + 1, s ++ (e.rows[q]'hq).s), hq, rows_next hq hz, by have := Ro.s_size (he.rs _ (List.getElem_mem hq)); show (s ++ (e.rows[q]'hq).s).size ≤ _; rw [ByteArray.size_append]; show _ ≤ 21000074 + 6000004 * (q + 1); omega⟩ (by show e.rows.length - (q + 1) < e.rows.length - q; omega) (le_upd (winc (k := q) (by omega)) (le_upd rfl (le_keep ⟨by kernel_rfl, by kernel_rfl, trivial⟩))) (eb_upd rfl (eb_upd rfl eb_keep)) rfl rfl rfl)
                · have hq : e.rows.length ≤ q := by simp at h13; exact h13
                  have hz := rowsG_end hq hz
                  refine ok_exit (ok_then_exit (ok_then_exit (ok_inBlock_exit (ok_inBlock_normal (ok_then ?_)))))
                  refine ok_seq ?_
                  refine ok_region rfl ?_
                  refine k (mv (g rfl)) ?_
                  refine k (asg (g rfl)) ?_
                  refine ok_end (ok_then ?_)
                  exact ok_ret (ret_tmp rfl rfl (by rw [Ev.line, h1, h3, h5, h8, h9, h10, h11]; exact congrArg (fun z => some (D.str z)) hz))
              · refine ok_skip (ok_inBlock_normal (ok_then ?_))
                refine ok_seq ?_
                refine ok_region rfl ?_
                refine k (mv (g rfl)) ?_
                refine k (asg (g rfl)) ?_
                refine ok_end (ok_then ?_)
                exact ok_ret (ret_tmp rfl rfl (by rw [Ev.line, h1, h3, h5, h8, h9, h10, h11]; rfl))

set_option maxRecDepth 20000 in
theorem c_cenotaphlaw30_alive (u : Unit) : Pure Pr 11 [] (.bool true) := by
  refine pure_of Tryz.func11 (by kernel_rfl) rfl Tryz.ntmps11 (by simp) fun w μ => ?_
  refine ok_seq ?_
  refine ok_region rfl ?_
  refine k (asg gb) ?_
  refine ok_end (ok_then ?_)
  refine ok_seq ?_
  refine ok_region rfl ?_
  refine k (bd zo29 pl29 (b1 gi (b1 gi b0)) rfl) ?_
  refine k (bd zo32 pl32 (b1 gi (b1 gs (b1 gs (b1 (g rfl) b0)))) rfl) ?_
  refine k (bd zo39 pl39 (b1 gi (b1 gi (b1 (g rfl) b0))) rfl) ?_
  refine kal (n := 0) zo39 rfl ?_
  refine kst (g rfl) (g rfl) t39 rfl rfl rfl rfl ?_
  refine ok_end (ok_then ?_)
  refine ok_seq ?_
  refine ok_region rfl ?_
  refine k (lB (g rfl) t39 rfl rfl) ?_
  refine k (cl (a1 (g rfl) rfl a0) (c_trace_Line ev1 ev1_small)) ?_
  refine k (bn (g rfl) gs rfl) ?_
  refine k (mv (g rfl)) ?_
  refine k (an (g rfl) (fun h => gb)) ?_
  refine k (mv (g rfl)) ?_
  refine k (an (g rfl) (fun h => gb)) ?_
  refine k (mv (g rfl)) ?_
  refine k (an (g rfl) (fun h => gb)) ?_
  refine k (mv (g rfl)) ?_
  refine k (an (g rfl) (fun h => gb)) ?_
  refine k (mv (g rfl)) ?_
  refine k (an (g rfl) (fun h => gb)) ?_
  refine k (mv (g rfl)) ?_
  refine k (an (g rfl) (fun h => gb)) ?_
  refine k (asg (g rfl)) ?_
  refine ok_end (ok_then ?_)
  exact ok_ret (ret_tmp rfl rfl (congrArg (fun z => some (D.bool z)) ev1_line))
end Go.Aw
