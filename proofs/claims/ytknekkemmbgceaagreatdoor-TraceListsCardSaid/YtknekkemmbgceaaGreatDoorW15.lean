/- Contracts of functions of the program, walked: c_cenotaphlaw08_Great, c_cenotaphlaw08_Mine, c_cenotaphref08_Same, c_cenotaphlaw30_great, c_runes_part, c_nums_Text. By an AI agent. -/
import Derived.Test.YtknekkemmbgceaaGreatDoorW14
import Derived.Test.YtknekkemmbgceaaGreatDoorSp
set_option linter.all false
/-! W15 -/
namespace Go.Aw
open Go.RowKit Go.Proofs
private theorem ar80 : arrF Pr 80 = some (20, 5, 1) := by kernel_rfl
private theorem e24 : elemF Pr 24 = some (3, 1) := by kernel_rfl
private theorem e30 : elemF Pr 30 = some (29, 3) := by kernel_rfl
private theorem e33 : elemF Pr 33 = some (32, 10) := by kernel_rfl
private theorem e37 : elemF Pr 37 = some (49, 5) := by kernel_rfl
private theorem f32_2 : fldF Pr 32 2 = some (2, 1, false) := by kernel_rfl
private theorem f32_3 : fldF Pr 32 3 = some (3, 1, false) := by kernel_rfl
private theorem f32_4 : fldF Pr 32 4 = some (4, 1, false) := by kernel_rfl
private theorem f32_7 : fldF Pr 32 7 = some (9, 1, false) := by kernel_rfl
private theorem f35_0 : fldF Pr 35 0 = some (0, 1, false) := by kernel_rfl
private theorem f35_1 : fldF Pr 35 1 = some (1, 1, false) := by kernel_rfl
private theorem f35_2 : fldF Pr 35 2 = some (2, 1, false) := by kernel_rfl
private theorem f39_10 : fldF Pr 39 10 = some (25, 1, false) := by kernel_rfl
private theorem f39_16 : fldF Pr 39 16 = some (31, 1, false) := by kernel_rfl
private theorem f39_4 : fldF Pr 39 4 = some (4, 10, true) := by kernel_rfl
private theorem f49_0 : fldF Pr 49 0 = some (0, 1, false) := by kernel_rfl
private theorem f49_1 : fldF Pr 49 1 = some (1, 1, false) := by kernel_rfl
private theorem f56_0 : fldF Pr 56 0 = some (0, 1, false) := by kernel_rfl
private theorem f56_1 : fldF Pr 56 1 = some (1, 1, false) := by kernel_rfl
private theorem f56_2 : fldF Pr 56 2 = some (2, 1, false) := by kernel_rfl
private theorem i3 : Pr.underlying 3 = some (.int .i64) := by kernel_rfl
private theorem i5 : Pr.underlying 5 = some (.int .u8) := by kernel_rfl
private theorem pl56 : placesF Pr 56 = some [(0, 1), (1, 1), (2, 1)] := by kernel_rfl
private theorem s81 : Pr.underlying 81 = some (.slice 5) := by kernel_rfl
private theorem s9 : Pr.underlying 9 = some .string := by kernel_rfl
private theorem t24 : tyF Pr 24 = some (1, false) := by kernel_rfl
private theorem t30 : tyF Pr 30 = some (1, false) := by kernel_rfl
private theorem t32 : tyF Pr 32 = some (10, true) := by kernel_rfl
private theorem t33 : tyF Pr 33 = some (1, false) := by kernel_rfl
private theorem t37 : tyF Pr 37 = some (1, false) := by kernel_rfl
private theorem t5 : tyF Pr 5 = some (1, false) := by kernel_rfl
private theorem t56 : tyF Pr 56 = some (3, true) := by kernel_rfl
private theorem t9 : tyF Pr 9 = some (1, false) := by kernel_rfl
private theorem z32 : ZeroSz Pr 32 10 := ⟨.agg #[.int .i64 0, .int .i64 0, .string ⟨#[]⟩, .string ⟨#[]⟩, .string ⟨#[]⟩, .int .i64 0, .int .i64 0, .int .i64 0, .int .i64 0, .slice none 0 0], fun _ => by kernel_rfl, rfl⟩
private theorem zo56 : ZeroOk Pr 56 [.d (.list 10 []), .d (.list 10 []), .d (.list 10 [])] := ⟨.agg #[.slice none 0 0, .slice none 0 0, .slice none 0 0], fun _ => by kernel_rfl, fun μ ρ => (rcc zl (rcc zl (rcc zl rcn))), by simp [Value.cells, Value.oneCell']⟩
private theorem zo80 : ZeroOk Pr 80 [.d (.int .u8 0), .d (.int .u8 0), .d (.int .u8 0), .d (.int .u8 0), .d (.int .u8 0), .d (.int .u8 0), .d (.int .u8 0), .d (.int .u8 0), .d (.int .u8 0), .d (.int .u8 0), .d (.int .u8 0), .d (.int .u8 0), .d (.int .u8 0), .d (.int .u8 0), .d (.int .u8 0), .d (.int .u8 0), .d (.int .u8 0), .d (.int .u8 0), .d (.int .u8 0), .d (.int .u8 0)] := ⟨.agg #[.int .u8 0, .int .u8 0, .int .u8 0, .int .u8 0, .int .u8 0, .int .u8 0, .int .u8 0, .int .u8 0, .int .u8 0, .int .u8 0, .int .u8 0, .int .u8 0, .int .u8 0, .int .u8 0, .int .u8 0, .int .u8 0, .int .u8 0, .int .u8 0, .int .u8 0, .int .u8 0], fun _ => by kernel_rfl, fun μ ρ => (rcc zi (rcc zi (rcc zi (rcc zi (rcc zi (rcc zi (rcc zi (rcc zi (rcc zi (rcc zi (rcc zi (rcc zi (rcc zi (rcc zi (rcc zi (rcc zi (rcc zi (rcc zi (rcc zi (rcc zi rcn)))))))))))))))))))), by simp [Value.cells, Value.oneCell']⟩
theorem gr1 {e : Ev} (h : ((greatL [e.m] 1 || decide (20 < (e.q.length : Int))) || decide (20 < (e.rows.length : Int))) = true) : some (D.bool true) = some (D.bool e.great) := by simp [Ev.great, h]
theorem gr2 {e : Ev} (h : e.rows.any Ro.big = true) : some (D.bool true) = some (D.bool e.great) := by simp [Ev.great, h]
theorem gr3 {e : Ev} (h : ((greatL [e.m] 1 || decide (20 < (e.q.length : Int))) || decide (20 < (e.rows.length : Int))) = false) (h2 : e.rows.any Ro.big = false) : some (D.bool false) = some (D.bool e.great) := by simp [Ev.great, h, h2]

set_option maxRecDepth 20000 in
theorem c_cenotaphlaw08_Great (l : List Mu) (n : Int) (hl : l.length < 4611686018427387904) : Pure Pr 5 [mus l, I n] (.bool (greatL l n)) := by
  refine pure_of Tryz.func5 (by kernel_rfl) rfl Tryz.ntmps5 (by simp) fun w μ => ?_
  refine ok_seq ?_
  refine ok_region rfl ?_
  refine k (asg gb) ?_
  refine ok_end (ok_then ?_)
  refine ok_seq ?_
  refine ok_seq ?_
  refine ok_region rfl ?_
  refine k (mv (g rfl)) ?_
  refine k (ln (g rfl) e33) ?_
  refine k (mv (g rfl)) ?_
  refine k (bn (g rfl) (g rfl) rfl) ?_
  refine ok_end (ok_then ?_)
  refine ok_cond (g rfl) (fun h1 => ?_) (fun h1 => ?_)
  · refine ok_seq ?_
    refine ok_region rfl ?_
    refine k (asg gb) ?_
    refine ok_end (ok_then ?_)
    exact ok_ret (ok_then_ret (ret_tmp rfl rfl (by simp at h1; simp [AV.toD, greatL, h1])))
  · rw [List.length_map] at h1
    refine ok_skip (ok_then ?_)
    refine ok_seq ?_
    refine ok_seq ?_
    refine ok_region rfl ?_
    refine k (asg gi) ?_
    refine ok_end (ok_then ?_)
    refine ok_block ?_
    refine ok_loop (ι := { k : Nat // k ≤ l.length ∧ ∀ j m, j < k → l[j]? = some m → m.big = false }) 0 (fun i => l.length - i.1) (fun i => (upd 5 (.d (.int .i64 (i.1 : Nat))) (keepB 0 [0] _))) (fun _ => _) ⟨0, Nat.zero_le _, fun j m h => absurd h (Nat.not_lt_zero j)⟩ (le_upd rfl le_keep_self) (eb_upd rfl eb_keep) rfl rfl rfl ?_
    rintro ⟨q, hk, hz⟩
    refine ok_seq ?_
    refine ok_seq ?_
    refine ok_region rfl ?_
    refine k (mv (g rfl)) ?_
    refine k (mv (g rfl)) ?_
    refine k (ln (g rfl) e33) ?_
    refine k (bn (g rfl) (g rfl) rfl) ?_
    refine ok_end (ok_then ?_)
    refine ok_cond (g rfl) (fun h2 => ?_) (fun h2 => ?_)
    · have hq : q < l.length := by simp at h2; exact h2
      refine ok_skip (ok_then ?_)
      refine ok_seq ?_
      refine ok_block ?_
      refine ok_seq ?_
      refine ok_region rfl ?_
      refine k (mv (g rfl)) ?_
      refine k (mv (g rfl)) ?_
      refine k (ixm (g rfl) (g rfl) e33 hq) ?_
      refine k (fr (g rfl) f32_2) ?_
      refine k (lr (g rfl) t9 rfl) ?_
      refine k (ls (g rfl) s9) ?_
      refine k (bn (g rfl) gi rfl) ?_
      refine k (mv (g rfl)) ?_
      refine kg rfl rfl rfl (fun hg => mv (g rfl)) ?_
      refine kg rfl rfl rfl (fun hg => mv (g rfl)) ?_
      refine kg rfl rfl rfl (fun hg => ixm (go rfl hg) (go rfl hg) e33 hq) ?_
      refine kg rfl rfl rfl (fun hg => fr (go rfl hg) f32_3) ?_
      refine kg rfl rfl rfl (fun hg => lr (go rfl hg) t9 rfl) ?_
      refine kg rfl rfl rfl (fun hg => ls (go rfl hg) s9) ?_
      refine kg rfl rfl rfl (fun hg => bn (go rfl hg) gi rfl) ?_
      refine k (orr (g rfl) (fun h => (go rfl (by rw [h]; rfl)))) ?_
      refine k (mv (g rfl)) ?_
      refine kg rfl rfl rfl (fun hg => mv (g rfl)) ?_
      refine kg rfl rfl rfl (fun hg => mv (g rfl)) ?_
      refine kg rfl rfl rfl (fun hg => ixm (go rfl hg) (go rfl hg) e33 hq) ?_
      refine kg rfl rfl rfl (fun hg => fr (go rfl hg) f32_4) ?_
      refine kg rfl rfl rfl (fun hg => lr (go rfl hg) t9 rfl) ?_
      refine kg rfl rfl rfl (fun hg => ls (go rfl hg) s9) ?_
      refine kg rfl rfl rfl (fun hg => bn (go rfl hg) gi rfl) ?_
      refine k (orr (g rfl) (fun h => (go rfl (by rw [h]; rfl)))) ?_
      refine k (mv (g rfl)) ?_
      refine kg rfl rfl rfl (fun hg => mv (g rfl)) ?_
      refine kg rfl rfl rfl (fun hg => mv (g rfl)) ?_
      refine kg rfl rfl rfl (fun hg => ixm (go rfl hg) (go rfl hg) e33 hq) ?_
      refine kg rfl rfl rfl (fun hg => fr (go rfl hg) f32_7) ?_
      refine kg rfl rfl rfl (fun hg => lr (go rfl hg) t30 rfl) ?_
      refine kg rfl rfl rfl (fun hg => ln (go rfl hg) e30) ?_
      refine kg rfl rfl rfl (fun hg => bn (go rfl hg) gi rfl) ?_
      refine k (orr (g rfl) (fun h => (go rfl (by rw [h]; rfl)))) ?_
      refine ok_end (ok_then ?_)
      refine ok_cond (g rfl) (fun h3 => ?_) (fun h3 => ?_)
      · rw [List.length_map] at h3
        refine ok_seq ?_
        refine ok_region rfl ?_
        refine k (asg gb) ?_
        refine ok_end (ok_then ?_)
        exact ok_ret (ok_inBlock_ret (ok_then_ret (ok_then_ret (ok_inBlock_ret (ok_then_ret (ret_tmp rfl rfl (by rw [greatL, any_at (p := Mu.big) hq h3, Bool.or_true]; rfl)))))))
      · rw [List.length_map] at h3
        refine ok_skip (ok_inBlock_normal (ok_then ?_))
        refine ok_region rfl ?_
        refine k (mv (g rfl)) ?_
        refine k (bn (g rfl) gi rfl) ?_
        refine k (asg (g rfl)) ?_
        exact ok_end (ok_round 0 ⟨q + 1, hq, zstep (p := Mu.big) hz hq h3⟩ (by show l.length - (q + 1) < l.length - q; omega) (le_upd (winc (k := q) (by omega)) (le_keep ⟨rfl, trivial⟩)) (eb_upd rfl eb_keep) rfl rfl rfl)
    · have hq : l.length ≤ q := by simp at h2; exact h2
      refine ok_exit (ok_then_exit (ok_then_exit (ok_inBlock_exit (ok_then ?_))))
      refine ok_seq ?_
      refine ok_region rfl ?_
      refine k (asg gb) ?_
      refine ok_end (ok_then ?_)
      exact ok_ret (ret_tmp rfl rfl (by rw [greatL, any_no (p := Mu.big) fun j m hj hm => hz j m (by show j < q; omega) hm]; simp at h1; simp [AV.toD, h1]))

set_option maxRecDepth 20000 in
theorem c_cenotaphlaw08_Mine (c : Ct) : Pure Pr 18 [c.d] c.d := by
  refine pure_of Tryz.func18 (by kernel_rfl) rfl Tryz.ntmps18 (by simp) fun w μ => ?_
  refine ok_seq ?_
  refine ok_region rfl ?_
  refine kbox (n := 0) (g rfl) rfl rfl ?_
  refine kal (n := 1) zo56 rfl ?_
  refine ok_end (ok_then ?_)
  refine ok_seq ?_
  refine ok_region rfl ?_
  refine k (fb (g rfl) f35_0) ?_
  refine k (lb (g rfl) t33 rfl rfl) ?_
  refine k (fb (g rfl) f35_1) ?_
  refine k (lb (g rfl) t33 rfl rfl) ?_
  refine k (fb (g rfl) f35_2) ?_
  refine k (lb (g rfl) t33 rfl rfl) ?_
  refine k (bd zo56 pl56 (b1 (g rfl) (b1 (g rfl) (b1 (g rfl) b0))) rfl) ?_
  refine kst (g rfl) (g rfl) t56 rfl rfl rfl rfl ?_
  refine ok_end (ok_then ?_)
  exact ok_ret (ret_cellA rfl rfl rfl t56 rfl rfl)

set_option maxRecDepth 20000 in
theorem c_cenotaphref08_Same (a b : Ct) (h1 : a.cells.length < 4611686018427387904 ∧ a.wipes.length < 4611686018427387904 ∧ a.sibs.length < 4611686018427387904) (h2 : (∀ m ∈ a.cells, m.over.length < 4611686018427387904) ∧ (∀ m ∈ a.wipes, m.over.length < 4611686018427387904) ∧ (∀ m ∈ a.sibs, m.over.length < 4611686018427387904)) : Pure Pr 17 [a.d, b.d] (.bool ((sameL (fun x y => Mu.cmp x y == 0) a.cells b.cells && sameL (fun x y => Mu.cmp x y == 0) a.wipes b.wipes) && sameL (fun x y => Mu.cmp x y == 0) a.sibs b.sibs)) := by
  refine pure_of Tryz.func17 (by kernel_rfl) rfl Tryz.ntmps17 (by simp) fun w μ => ?_
  refine ok_seq ?_
  refine ok_region rfl ?_
  refine kbox (n := 0) (g rfl) rfl rfl ?_
  refine kbox (n := 1) (g rfl) rfl rfl ?_
  refine k (asg gb) ?_
  refine ok_end (ok_then ?_)
  refine ok_seq ?_
  refine ok_region rfl ?_
  refine k (fb (g rfl) f56_0) ?_
  refine k (lb (g rfl) t33 rfl rfl) ?_
  refine k (fb (g rfl) f56_0) ?_
  refine k (lb (g rfl) t33 rfl rfl) ?_
  refine k (cl (a1 (g rfl) rfl (a1 (g rfl) rfl a0)) (c_cenotaphref07_Same a.cells b.cells h1.1 h2.1)) ?_
  refine k (mv (g rfl)) ?_
  refine kg rfl rfl rfl (fun hg => fb (g rfl) f56_1) ?_
  refine kg rfl rfl rfl (fun hg => lb (go rfl hg) t33 rfl rfl) ?_
  refine kg rfl rfl rfl (fun hg => fb (g rfl) f56_1) ?_
  refine kg rfl rfl rfl (fun hg => lb (go rfl hg) t33 rfl rfl) ?_
  refine kg rfl rfl rfl (fun hg => cl (a1 (go rfl hg) rfl (a1 (go rfl hg) rfl a0)) (c_cenotaphref07_Same a.wipes b.wipes h1.2.1 h2.2.1)) ?_
  refine k (an (g rfl) (fun h => (go rfl (by rw [h]; rfl)))) ?_
  refine k (mv (g rfl)) ?_
  refine kg rfl rfl rfl (fun hg => fb (g rfl) f56_2) ?_
  refine kg rfl rfl rfl (fun hg => lb (go rfl hg) t33 rfl rfl) ?_
  refine kg rfl rfl rfl (fun hg => fb (g rfl) f56_2) ?_
  refine kg rfl rfl rfl (fun hg => lb (go rfl hg) t33 rfl rfl) ?_
  refine kg rfl rfl rfl (fun hg => cl (a1 (go rfl hg) rfl (a1 (go rfl hg) rfl a0)) (c_cenotaphref07_Same a.sibs b.sibs h1.2.2 h2.2.2)) ?_
  refine k (an (g rfl) (fun h => (go rfl (by rw [h]; rfl)))) ?_
  refine k (asg (g rfl)) ?_
  refine ok_end (ok_then ?_)
  exact ok_ret (ret_tmp rfl rfl rfl)

set_option maxRecDepth 20000 in
theorem c_cenotaphlaw30_great (e : Ev) (hl : e.rows.length < 4611686018427387904) : Pure Pr 4 [e.d] (.bool e.great) := by
  refine pure_of Tryz.func4 (by kernel_rfl) rfl Tryz.ntmps4 (by simp) fun w μ => ?_
  refine ok_seq ?_
  refine ok_region rfl ?_
  refine kbox (n := 0) (g rfl) rfl rfl ?_
  refine k (asg gb) ?_
  refine ok_end (ok_then ?_)
  refine ok_seq ?_
  refine ok_seq ?_
  refine ok_region rfl ?_
  refine k (fb (g rfl) f39_4) ?_
  refine k (lB (g rfl) t32 rfl rfl) ?_
  refine k (mk e33 z32 (p1 (g rfl) rfl p0) rfl rfl rfl rfl rfl) ?_
  refine k (cl (a1 (g rfl) rfl (a1 gi rfl a0)) (c_cenotaphlaw08_Great [e.m] 1 (by simp))) ?_
  refine k (mv (g rfl)) ?_
  refine kg rfl rfl rfl (fun hg => fb (g rfl) f39_10) ?_
  refine kg rfl rfl rfl (fun hg => lb (go rfl hg) t24 rfl rfl) ?_
  refine kg rfl rfl rfl (fun hg => ln (go rfl hg) e24) ?_
  refine kg rfl rfl rfl (fun hg => bn (go rfl hg) gi rfl) ?_
  refine k (orr (g rfl) (fun h => (go rfl (by rw [h]; rfl)))) ?_
  refine k (mv (g rfl)) ?_
  refine kg rfl rfl rfl (fun hg => fb (g rfl) f39_16) ?_
  refine kg rfl rfl rfl (fun hg => lb (go rfl hg) t37 rfl rfl) ?_
  refine kg rfl rfl rfl (fun hg => ln (go rfl hg) e37) ?_
  refine kg rfl rfl rfl (fun hg => bn (go rfl hg) gi rfl) ?_
  refine k (orr (g rfl) (fun h => (go rfl (by rw [h]; rfl)))) ?_
  refine ok_end (ok_then ?_)
  refine ok_cond (g rfl) (fun h1 => ?_) (fun h1 => ?_)
  · rw [List.length_map, List.length_map] at h1
    refine ok_seq ?_
    refine ok_region rfl ?_
    refine k (asg gb) ?_
    refine ok_end (ok_then ?_)
    exact ok_ret (ok_then_ret (ret_tmp rfl rfl (gr1 h1)))
  · rw [List.length_map, List.length_map] at h1
    refine ok_skip (ok_then ?_)
    refine ok_seq ?_
    refine ok_seq ?_
    refine ok_region rfl ?_
    refine k (asg gi) ?_
    refine ok_end (ok_then ?_)
    refine ok_block ?_
    refine ok_loop (ι := { k : Nat // k ≤ e.rows.length ∧ ∀ j m, j < k → e.rows[j]? = some m → m.big = false }) 1 (fun i => e.rows.length - i.1) (fun i => (upd 3 (.d (.int .i64 (i.1 : Nat))) (keepB 1 [1] _))) (fun _ => _) ⟨0, Nat.zero_le _, fun j m h => absurd h (Nat.not_lt_zero j)⟩ (le_upd rfl le_keep_self) (eb_upd rfl eb_keep) rfl rfl rfl ?_
    rintro ⟨q, hk, hz⟩
    refine ok_seq ?_
    refine ok_seq ?_
    refine ok_region rfl ?_
    refine k (mv (g rfl)) ?_
    refine k (fb (g rfl) f39_16) ?_
    refine k (lb (g rfl) t37 rfl rfl) ?_
    refine k (ln (g rfl) e37) ?_
    refine k (bn (g rfl) (g rfl) rfl) ?_
    refine ok_end (ok_then ?_)
    refine ok_cond (g rfl) (fun h2 => ?_) (fun h2 => ?_)
    · have hq : q < e.rows.length := by simp at h2; exact h2
      refine ok_skip (ok_then ?_)
      refine ok_seq ?_
      refine ok_block ?_
      refine ok_seq ?_
      refine ok_region rfl ?_
      refine k (fb (g rfl) f39_16) ?_
      refine k (lb (g rfl) t37 rfl rfl) ?_
      refine k (mv (g rfl)) ?_
      refine k (ixm (g rfl) (g rfl) e37 hq) ?_
      refine k (fr (g rfl) f49_0) ?_
      refine k (lr (g rfl) t9 rfl) ?_
      refine k (ls (g rfl) s9) ?_
      refine k (bn (g rfl) gi rfl) ?_
      refine k (mv (g rfl)) ?_
      refine kg rfl rfl rfl (fun hg => fb (g rfl) f39_16) ?_
      refine kg rfl rfl rfl (fun hg => lb (go rfl hg) t37 rfl rfl) ?_
      refine kg rfl rfl rfl (fun hg => mv (g rfl)) ?_
      refine kg rfl rfl rfl (fun hg => ixm (go rfl hg) (go rfl hg) e37 hq) ?_
      refine kg rfl rfl rfl (fun hg => fr (go rfl hg) f49_1) ?_
      refine kg rfl rfl rfl (fun hg => lr (go rfl hg) t9 rfl) ?_
      refine kg rfl rfl rfl (fun hg => ls (go rfl hg) s9) ?_
      refine kg rfl rfl rfl (fun hg => bn (go rfl hg) gi rfl) ?_
      refine k (orr (g rfl) (fun h => (go rfl (by rw [h]; rfl)))) ?_
      refine ok_end (ok_then ?_)
      refine ok_cond (g rfl) (fun h3 => ?_) (fun h3 => ?_)
      · refine ok_seq ?_
        refine ok_region rfl ?_
        refine k (asg gb) ?_
        refine ok_end (ok_then ?_)
        exact ok_ret (ok_inBlock_ret (ok_then_ret (ok_then_ret (ok_inBlock_ret (ok_then_ret (ret_tmp rfl rfl (gr2 (any_at (p := Ro.big) hq h3))))))))
      · refine ok_skip (ok_inBlock_normal (ok_then ?_))
        refine ok_region rfl ?_
        refine k (mv (g rfl)) ?_
        refine k (bn (g rfl) gi rfl) ?_
        refine k (asg (g rfl)) ?_
        exact ok_end (ok_round 1 ⟨q + 1, hq, zstep (p := Ro.big) hz hq h3⟩ (by show e.rows.length - (q + 1) < e.rows.length - q; omega) (le_upd (winc (k := q) (by omega)) (le_keep ⟨rfl, trivial⟩)) (eb_upd rfl eb_keep) rfl rfl rfl)
    · have hq : e.rows.length ≤ q := by simp at h2; exact h2
      refine ok_exit (ok_then_exit (ok_then_exit (ok_inBlock_exit (ok_then ?_))))
      refine ok_seq ?_
      refine ok_region rfl ?_
      refine k (asg gb) ?_
      refine ok_end (ok_then ?_)
      exact ok_ret (ret_tmp rfl rfl (gr3 h1 (any_no (p := Ro.big) fun j m hj hm => hz j m (by show j < q; omega) hm)))

set_option maxRecDepth 20000 in
theorem c_runes_part (r : Int) (b : Bool) : Pure Pr 70 [.int .i32 r, .bool b] (.bool (partR r b)) := by
  refine pure_of Tryz.func70 (by kernel_rfl) rfl Tryz.ntmps70 (by simp) fun w μ => ?_
  refine ok_seq ?_
  refine ok_region rfl ?_
  refine k (asg gb) ?_
  refine ok_end (ok_then ?_)
  refine ok_seq ?_
  refine ok_block ?_
  refine ok_seq ?_
  refine ok_region rfl ?_
  refine k (mv (g rfl)) ?_
  refine k (bn (g rfl) gi rfl) ?_
  refine k (mv (g rfl)) ?_
  refine kg rfl rfl rfl (fun hg => mv (g rfl)) ?_
  refine kg rfl rfl rfl (fun hg => bn (go rfl hg) gi rfl) ?_
  refine k (an (g rfl) (fun h => (go rfl (by rw [h]; rfl)))) ?_
  refine k (mv (g rfl)) ?_
  refine kg rfl rfl rfl (fun hg => mv (g rfl)) ?_
  refine kg rfl rfl rfl (fun hg => bn (go rfl hg) gi rfl) ?_
  refine kg rfl rfl rfl (fun hg => mv (go rfl hg)) ?_
  refine kg rfl rfl rfl (fun hg => mv (g rfl)) ?_
  refine kg rfl rfl rfl (fun hg => bn (go rfl hg) gi rfl) ?_
  refine kg rfl rfl rfl (fun hg => an (go rfl hg) (fun h => (go rfl (by rw [hg, h]; rfl)))) ?_
  refine k (orr (g rfl) (fun h => (go rfl (by rw [h]; rfl)))) ?_
  refine k (mv (g rfl)) ?_
  refine kg rfl rfl rfl (fun hg => mv (g rfl)) ?_
  refine kg rfl rfl rfl (fun hg => bn (go rfl hg) gi rfl) ?_
  refine k (orr (g rfl) (fun h => (go rfl (by rw [h]; rfl)))) ?_
  refine k (asg (g rfl)) ?_
  refine ok_end (ok_then ?_)
  refine ok_cond (g rfl) (fun h1 => ?_) (fun h1 => ?_)
  · refine ok_seq ?_
    refine ok_region rfl ?_
    refine k (asg gb) ?_
    refine ok_end (ok_then ?_)
    exact ok_ret (ok_inBlock_ret (ok_then_ret (ret_tmp rfl rfl (by rw [partR, if_pos h1]; rfl))))
  · refine ok_seq ?_
    refine ok_region rfl ?_
    refine k (mv (g rfl)) ?_
    refine k (asg (g rfl)) ?_
    refine ok_end (ok_then ?_)
    refine ok_cond (g rfl) (fun h2 => ?_) (fun h2 => ?_)
    · refine ok_seq ?_
      refine ok_region rfl ?_
      refine k (asg gb) ?_
      refine ok_end (ok_then ?_)
      exact ok_ret (ok_inBlock_ret (ok_then_ret (ret_tmp rfl rfl (by rw [partR, if_neg (by rw [h1]; decide), if_pos h2]; rfl))))
    · refine ok_skip (ok_inBlock_normal (ok_then ?_))
      refine ok_seq ?_
      refine ok_region rfl ?_
      refine k (mv (g rfl)) ?_
      refine k (bn (g rfl) gi rfl) ?_
      refine k (mv (g rfl)) ?_
      refine kg rfl rfl rfl (fun hg => mv (g rfl)) ?_
      refine kg rfl rfl rfl (fun hg => bn (go rfl hg) gi rfl) ?_
      refine k (an (g rfl) (fun h => (go rfl (by rw [h]; rfl)))) ?_
      refine k (mv (g rfl)) ?_
      refine kg rfl rfl rfl (fun hg => mv (g rfl)) ?_
      refine kg rfl rfl rfl (fun hg => bn (go rfl hg) gi rfl) ?_
      refine k (orr (g rfl) (fun h => (go rfl (by rw [h]; rfl)))) ?_
      refine k (mv (g rfl)) ?_
      refine kg rfl rfl rfl (fun hg => mv (g rfl)) ?_
      refine kg rfl rfl rfl (fun hg => bn (go rfl hg) gi rfl) ?_
      refine k (orr (g rfl) (fun h => (go rfl (by rw [h]; rfl)))) ?_
      refine k (asg (g rfl)) ?_
      refine ok_end (ok_then ?_)
      exact ok_ret (ret_tmp rfl rfl (by rw [partR, if_neg (by rw [h1]; decide), if_neg (by rw [h2]; decide)]; rfl))

set_option maxRecDepth 20000 in
theorem c_nums_Text (n : Int) : Pure Pr 21 [I n] (.str (textI n)) := by
  have hc := clampI_le n
  have hcn : ((clampI n).toNat : Int) = clampI n := by omega
  refine pure_of Tryz.func21 (by kernel_rfl) rfl Tryz.ntmps21 (by simp) fun w μ => ?_
  refine ok_seq ?_
  refine ok_region rfl ?_
  refine k (asg gs) ?_
  refine ok_end (ok_then ?_)
  refine ok_seq ?_
  refine ok_region rfl ?_
  refine k (mv (g rfl)) ?_
  refine k (max2 (g rfl) gi) ?_
  refine k (min2 (g rfl) gi) ?_
  refine k (asg (g rfl)) ?_
  refine ok_end (ok_then ?_)
  refine ok_seq ?_
  refine ok_region rfl ?_
  refine kal (n := 0) zo80 rfl ?_
  refine ok_end (ok_then ?_)
  refine ok_seq ?_
  refine ok_region rfl ?_
  refine k (asg gi) ?_
  refine ok_end (ok_then ?_)
  refine ok_seq ?_
  refine ok_seq ?_
  refine ok_region rfl ?_
  refine k (asg gb) ?_
  refine ok_end (ok_then ?_)
  refine ok_block ?_
  refine ok_loop (ι := { s : TxSt // TxOk (digs 20 (clampI n).toNat []) s }) 1 (fun i => i.1.at_) (fun i => (upd 4 (.d (I (i.1.at_ : Nat))) (upd 0 (.d (I (i.1.n : Nat))) (upd 5 (.d (.bool i.1.ok)) (keepB 1 [3] _))))) (fun i => [.box 80 (i.1.bs.map u8f)]) ⟨⟨20, (clampI n).toNat, List.replicate 20 0, true⟩, by refine ⟨Nat.le_refl _, rfl, by show (clampI n).toNat ≤ _; omega, fun _ => ⟨by show 1 ≤ 20; omega, by show (clampI n).toNat < 10 ^ 20; omega, rfl⟩, fun h => by cases h⟩⟩ (le_upd rfl (le_upd (congrArg (fun z => some (AV.d (I z))) hcn.symm) (le_upd rfl le_keep_self))) (eb_upd rfl (eb_upd rfl (eb_upd rfl eb_keep))) rfl up1 rfl ?_
  rintro ⟨s, hs⟩
  refine ok_seq ?_
  refine ok_seq ?_
  refine ok_region rfl ?_
  refine k (mv (g rfl)) ?_
  refine ok_end (ok_then ?_)
  refine ok_cond (g rfl) (fun h1 => ?_) (fun h1 => ?_)
  · have hs1 := (hs.2.2.2.1 h1).1
    have hs2 := hs.1
    have hs3 := hs.2.1
    have hs4 := hs.2.2.1
    have hw := wdec hs1 (by omega)
    have hv := divV (n := s.n) (by omega)
    have ho : decide ((0 : Int) < IntKind.i64.wrap ((s.n : Int).tdiv 10)) = decide (0 < s.n / 10) := by rw [hv]; exact decide_eq_decide.2 (by omega)
    refine ok_skip (ok_then ?_)
    refine ok_seq ?_
    refine ok_block ?_
    refine ok_seq ?_
    refine ok_region rfl ?_
    refine k (mv (g rfl)) ?_
    refine k (bn (g rfl) gi rfl) ?_
    refine k (asg (g rfl)) ?_
    refine ok_end (ok_then ?_)
    refine ok_seq ?_
    refine ok_region rfl ?_
    refine k (mv (g rfl)) ?_
    refine k (mv (g rfl)) ?_
    refine k (re (g rfl) gi (by decide)) ?_
    refine k (bn gi (g rfl) rfl) ?_
    refine k (cvi (g rfl) i3 i5) ?_
    refine k (ixb (g rfl) (g rfl) ar80 hw (by omega)) ?_
    refine kst (g rfl) (g rfl) t5 rfl rfl rfl (by simp [Nat.ble_eq]; omega) ?_
    refine ok_end (ok_then ?_)
    refine ok_region rfl ?_
    refine k (mv (g rfl)) ?_
    refine k (qu (g rfl) gi (by decide)) ?_
    refine k (asg (g rfl)) ?_
    refine ok_end (ok_inBlock_normal (ok_then ?_))
    refine ok_region rfl ?_
    refine k (mv (g rfl)) ?_
    refine k (bn (g rfl) gi rfl) ?_
    refine k (asg (g rfl)) ?_
    exact ok_end (ok_round 1 ⟨s.next, tx_next hs h1⟩ (by show s.at_ - 1 < s.at_; omega) (le_upd (congrArg (fun z => some (AV.d (I z))) hw) (le_upd (congrArg (fun z => some (AV.d (I z))) hv) (le_upd (congrArg (fun z => some (AV.d (.bool z))) ho) (le_keep ⟨rfl, trivial⟩)))) (eb_upd rfl (eb_upd rfl (eb_upd rfl eb_keep))) (congrArg (fun z => [AO.box 80 z]) (setBs (show s.at_ - 1 < s.bs.length by omega) digV)) up1 rfl)
  · have hs1 := hs.2.2.2.2 h1
    have hs3 := hs.2.1
    have htc := tx_cells hs1.2 hs3 hs1.1
    refine ok_exit (ok_then_exit (ok_then_exit (ok_inBlock_exit (ok_then ?_))))
    refine ok_seq ?_
    refine ok_region rfl ?_
    refine k (mv (g rfl)) ?_
    refine k (slb (g rfl) ar80 (sb1 (g rfl) rfl) sb0 (show s.at_ ≤ 20 by omega) (Nat.le_refl _)) ?_
    refine k (cvbs (g rfl) s81 i5 s9 rfl (show 0 < 20 - s.at_ by omega) htc.1 htc.2) ?_
    refine k (asg (g rfl)) ?_
    refine ok_end (ok_then ?_)
    exact ok_ret (ret_tmp rfl rfl rfl)
end Go.Aw
