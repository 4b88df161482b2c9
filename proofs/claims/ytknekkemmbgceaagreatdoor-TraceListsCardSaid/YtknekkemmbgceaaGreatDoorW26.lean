/- Contracts of functions of the program, walked: c_trace_Of, i_trace_Of. By an AI agent. -/
import Derived.Test.YtknekkemmbgceaaGreatDoorW25
import Derived.Test.YtknekkemmbgceaaGreatDoorSp
set_option linter.all false
/-! W26 -/
namespace Go.Aw
open Go.RowKit Go.Proofs
private theorem e22 : elemF Pr 22 = some (39, 33) := by kernel_rfl
private theorem f39_0 : fldF Pr 39 0 = some (0, 1, false) := by kernel_rfl
private theorem t22 : tyF Pr 22 = some (1, false) := by kernel_rfl
private theorem t23 : tyF Pr 23 = some (1, false) := by kernel_rfl
private theorem t39 : tyF Pr 39 = some (33, true) := by kernel_rfl
private theorem zo39 : ZeroOk Pr 39 [.d (.int .i64 0), .d (.int .i64 0), .d (.int .i64 0), .d (.int .i64 0), .d (.int .i64 0), .d (.int .i64 0), .d (.str ⟨#[]⟩), .d (.str ⟨#[]⟩), .d (.str ⟨#[]⟩), .d (.int .i64 0), .d (.int .i64 0), .d (.int .i64 0), .d (.int .i64 0), .d (.list 3 []), .d (.list 10 []), .d (.list 10 []), .d (.list 10 []), .d (.int .i64 0), .d (.int .i64 0), .d (.int .i64 0), .d (.int .i64 0), .d (.int .i64 0), .d (.int .i64 0), .d (.bool false), .d (.int .i64 0), .d (.list 1 []), .d (.list 1 []), .d (.int .i64 0), .d (.int .i64 0), .d (.str ⟨#[]⟩), .d (.str ⟨#[]⟩), .d (.list 5 []), .d (.list 3 [])] := ⟨.agg #[.int .i64 0, .int .i64 0, .int .i64 0, .int .i64 0, .int .i64 0, .int .i64 0, .string ⟨#[]⟩, .string ⟨#[]⟩, .string ⟨#[]⟩, .int .i64 0, .int .i64 0, .int .i64 0, .int .i64 0, .slice none 0 0, .slice none 0 0, .slice none 0 0, .slice none 0 0, .int .i64 0, .int .i64 0, .int .i64 0, .int .i64 0, .int .i64 0, .int .i64 0, .bool false, .int .i64 0, .slice none 0 0, .slice none 0 0, .int .i64 0, .int .i64 0, .string ⟨#[]⟩, .string ⟨#[]⟩, .slice none 0 0, .slice none 0 0], fun _ => by kernel_rfl, fun μ ρ => (rcc zi (rcc zi (rcc zi (rcc zi (rcc zi (rcc zi (rcc zs (rcc zs (rcc zs (rcc zi (rcc zi (rcc zi (rcc zi (rcc zl (rcc zl (rcc zl (rcc zl (rcc zi (rcc zi (rcc zi (rcc zi (rcc zi (rcc zi (rcc zb (rcc zi (rcc zl (rcc zl (rcc zi (rcc zi (rcc zs (rcc zs (rcc zl (rcc zl rcn))))))))))))))))))))))))))))))))), by simp [Value.cells, Value.oneCell']⟩
/-- What of a trace is of this kind, each with its place. -/
def ofF (kd : Int) : Nat → List Ev → List (List D)
  | _, [] => []
  | n, e :: es => if e.kind = kd then [I n, e.d] :: ofF kd (n + 1) es else ofF kd (n + 1) es
theorem ofF_append (kd : Int) : ∀ (a b : List Ev) (n : Nat), ofF kd n (a ++ b) = ofF kd n a ++ ofF kd (n + a.length) b
  | [], b, n => by simp [ofF]
  | e :: a, b, n => by
    simp only [List.cons_append, ofF, List.length_cons]
    rw [ofF_append kd a b (n + 1), show n + 1 + a.length = n + (a.length + 1) by omega]
    split <;> simp
/-- How many among the first i. -/
def cntF (kd : Int) (es : List Ev) (i : Nat) : Nat := (ofF kd 0 (es.take i)).length
theorem ofF_split (kd : Int) (es : List Ev) {i : Nat} (hi : i < es.length) : ofF kd 0 es = ofF kd 0 (es.take i) ++ ofF kd i (es[i] :: es.drop (i + 1)) := by
  rw [List.getElem_cons_drop]
  conv => lhs; rw [← List.take_append_drop i es]
  rw [ofF_append, List.length_take, Nat.min_eq_left (Nat.le_of_lt hi), Nat.zero_add]
theorem cntF_hit {kd : Int} {es : List Ev} {i : Nat} (hi : i < es.length) (h : es[i].kind = kd) : (ofF kd 0 es)[cntF kd es i]? = some [I i, (es[i]).d] ∧ cntF kd es (i + 1) = cntF kd es i + 1 := by
  constructor
  · rw [ofF_split kd es hi, List.getElem?_append_right (by exact Nat.le_refl _)]
    simp [cntF, ofF, h]
  · unfold cntF
    rw [List.take_succ_eq_append_getElem hi, ofF_append]
    simp [ofF, h]
theorem cntF_miss {kd : Int} {es : List Ev} {i : Nat} (hi : i < es.length) (h : es[i].kind ≠ kd) : cntF kd es (i + 1) = cntF kd es i := by
  unfold cntF
  rw [List.take_succ_eq_append_getElem hi, ofF_append]
  simp [ofF, h]
theorem cntF_lt {kd : Int} {es : List Ev} {i : Nat} (hi : i < es.length) (h : es[i].kind = kd) : cntF kd es i < (ofF kd 0 es).length := (List.getElem?_eq_some_iff.1 (cntF_hit hi h).1).1
theorem cntF_all (kd : Int) (es : List Ev) : cntF kd es es.length = (ofF kd 0 es).length := by unfold cntF; rw [List.take_length]

set_option maxRecDepth 20000 in
theorem c_trace_Of (es : List Ev) (kd : Int) : Pure Pr 19 [I kd, .list 33 (es.map Ev.d)] (.clo (.func 37) [.ref [.list 33 (es.map Ev.d)], .ref [I kd]]) := by
  refine pure_of Tryz.func19 (by kernel_rfl) rfl Tryz.ntmps19 (by simp) fun w μ => ?_
  refine ok_seq ?_
  refine ok_region rfl ?_
  refine kbox (n := 0) (g rfl) rfl rfl ?_
  refine kbox (n := 1) (g rfl) rfl rfl ?_
  refine k (asg (gv rfl rfl)) ?_
  refine ok_end (ok_then ?_)
  refine ok_seq ?_
  refine ok_seal 0 rfl rfl ?_
  refine ok_seal 1 rfl rfl ?_
  refine ok_region rfl ?_
  refine k (mf (c1 (g rfl) (c1 (g rfl) c0))) ?_
  refine k (asg (g rfl)) ?_
  refine ok_end (ok_then ?_)
  exact ok_ret (ret_tmp rfl rfl rfl)

/-- The state at the loop's head. -/
private def itE (es : List Ev) (kd : Int) (l : Nat) (i : { i : Nat // i ≤ es.length }) : Env := upd 0 (.d (yv l)) (upd 2 (.d (.ref [I kd])) (upd 6 (.d (.list 33 (es.map Ev.d))) (upd 7 (.d (I (es.length : Nat))) (upd 8 (.d (.int .i64 (i.1 : Nat))) none0))))
set_option maxRecDepth 20000 in
theorem i_trace_Of (es : List Ev) (kd : Int) (hl : es.length < 4611686018427387904) : Iter Pr 37 [.ref [.list 33 (es.map Ev.d)], .ref [I kd]] (ofF kd 0 es) := by
  refine iter_of Tryz.func37 (by kernel_rfl) rfl Tryz.ntmps37 (by simp) fun l K w μ hJ => ?_
  refine ok_seq ?_
  refine ok_region rfl ?_
  refine k (lr (g rfl) t22 rfl) ?_
  refine k (ln (g rfl) e22) ?_
  refine k (mv gi) ?_
  refine ok_end (ok_then ?_)
  refine ok_block ?_
  have hll : (es.map Ev.d).length = es.length := List.length_map _
  intro a w1 s
  refine loop_any (fun i : { i : Nat // i ≤ es.length } => es.length - i.1) (fun i a w' => ∃ w0 μ1, (K.J (cntF kd es i.1) w0 μ1 ∧ ∀ j, K.stop = some j → cntF kd es i.1 ≤ j) ∧ MemLe μ μ1 ∧ Sim (Cx Pr 25 w0 μ1) a w' (itE es kd l i) []) ?_ ⟨0, Nat.zero_le _⟩ ⟨w, μ, ⟨hJ, fun j _ => Nat.zero_le _⟩, MemLe.refl μ, s.to 0 (le_upd rfl (le_upd rfl (le_upd rfl (le_upd (by rw [← hll]; rfl) (le_upd rfl (le_none _)))))) (eb_upd rfl (eb_upd rfl (eb_upd rfl (eb_upd rfl (eb_upd rfl (eb_none _)))))) rfl rfl rfl⟩
  clear s a w1
  rintro ⟨q, hk⟩ a w1 ⟨w0, μ1, ⟨hJ, hst⟩, hle, s⟩
  revert s; revert w1; revert a
  show CodeOk (Cx Pr 25 w0 μ1) _ _ _ _
  refine ok_seq ?_
  refine ok_region rfl ?_
  refine k (bn (g rfl) (g rfl) rfl) ?_
  refine ok_end (ok_then ?_)
  refine ok_seq ?_
  refine ok_cond (g rfl) (fun h1 => ?_) (fun h1 => ?_)
  · refine ok_skip (ok_then ?_)
    have hq : q < es.length := by simp at h1; exact h1
    refine ok_seq ?_
    refine ok_block ?_
    refine ok_seq ?_
    refine ok_region rfl ?_
    refine k (mv (g rfl)) ?_
    refine k (ixm (g rfl) (g rfl) e22 hq) ?_
    refine k (lR (g rfl) t39 (Nat.le_of_ble_eq_true rfl)) ?_
    refine kal (n := 0) zo39 rfl ?_
    refine k (asg (g rfl)) ?_
    refine kst (g rfl) (g rfl) t39 rfl rfl rfl rfl ?_
    refine ok_end (ok_then ?_)
    refine ok_seq ?_
    refine ok_region rfl ?_
    refine k (fb (g rfl) f39_0) ?_
    refine k (lb (g rfl) t23 rfl rfl) ?_
    refine k (lr (g rfl) t23 rfl) ?_
    refine k (bn (g rfl) (g rfl) rfl) ?_
    refine k (mv (g rfl)) ?_
    refine kg rfl rfl rfl (fun hg => mv (g rfl)) ?_
    refine kg rfl rfl rfl (fun hg => mv (g rfl)) ?_
    refine kg rfl rfl rfl (fun hg => lB (g rfl) t39 rfl rfl) ?_
    by_cases hb : es[q].kind = kd
    · have hb' : (es[q].kind == kd) = true := by simp [hb]
      have hb'' : ((es[q].kind == kd) == true) = true := by rw [hb']; rfl
      obtain ⟨hy, hc⟩ := cntF_hit hq hb
      refine ky K (cntF kd es q) (keepB 0 [0, 2, 6, 7, 8, 17] _) hy hst hJ (fun j want hj => ⟨17, _, by cases hj; rfl, by cases hj; rfl, by cases hj; show some (_ == true) = some true; rw [hb']; rfl⟩) (go rfl hb'') rfl (a1 (go rfl hb'') rfl (a1 (go rfl hb'') rfl a0)) le_keep_self eb_keep (fun hns w2 μ2 hJ2 hle2 => ?_) (fun hs w2 μ2 hJ2 hle2 => ?_)
      · refine kg rfl rfl rfl (fun hg => nt (g rfl)) ?_
        refine k (an (g rfl) (fun h => (go rfl (by rw [h]; rfl)))) ?_
        refine ok_end (ok_then ?_)
        refine ok_cond (g rfl) (fun h2 => ?_) (fun h2 => ?_)
        · simp at h2
        · refine ok_skip (ok_inBlock_normal (ok_then ?_))
          refine ok_region rfl ?_
          refine k (bn (g rfl) gi rfl) ?_
          refine k (mv (g rfl)) ?_
          refine ok_end ?_
          intro a w3 s
          exact ⟨⟨q + 1, hq⟩, by show es.length - (q + 1) < es.length - q; omega, w2, μ2, ⟨by rw [hc]; exact hJ2, fun j hj => by show cntF kd es (q + 1) ≤ j; rw [hc]; have h5 : cntF kd es q ≤ j := hst j hj; have : j ≠ cntF kd es q := fun e => hns (by rw [hj, e]); omega⟩, hle.trans hle2, s.to 0 (le_upd rfl (le_upd rfl (le_upd rfl (le_upd rfl (le_upd (winc (k := q) (by omega)) (le_none _)))))) (eb_upd rfl (eb_upd rfl (eb_upd rfl (eb_upd rfl (eb_upd rfl (eb_none _)))))) rfl rfl rfl⟩
      · refine kg rfl rfl rfl (fun hg => nt (g rfl)) ?_
        refine k (an (g rfl) (fun h => (go rfl (by rw [h]; rfl)))) ?_
        refine ok_end (ok_then ?_)
        refine ok_cond (g rfl) (fun h2 => ?_) (fun h2 => ?_)
        · exact ok_ret (ok_inBlock_ret (ok_then_ret (ok_then_ret (ok_inBlock_ret (iter_ret rfl (hle.trans hle2) (.inr ⟨hJ2, _, hs, cntF_lt hq hb⟩))))))
        · simp [hb'] at h2
    · have hb' : (es[q].kind == kd) = false := by simp [hb]
      refine kg (r := .d (.bool false)) rfl rfl rfl (fun hg => absurd hg (by show ¬ ((es[q].kind == kd) == true) = true; rw [hb']; decide)) ?_
      refine kg rfl rfl rfl (fun hg => nt (go rfl hg)) ?_
      refine k (an (g rfl) (fun h => (go rfl (by rw [h]; rfl)))) ?_
      refine ok_end (ok_then ?_)
      refine ok_cond (g rfl) (fun h2 => ?_) (fun h2 => ?_)
      · simp [hb'] at h2
      · refine ok_skip (ok_inBlock_normal (ok_then ?_))
        refine ok_region rfl ?_
        refine k (bn (g rfl) gi rfl) ?_
        refine k (mv (g rfl)) ?_
        refine ok_end ?_
        intro a w3 s
        exact ⟨⟨q + 1, hq⟩, by show es.length - (q + 1) < es.length - q; omega, w0, μ1, ⟨by rw [cntF_miss hq hb]; exact hJ, fun j hj => by rw [cntF_miss hq hb]; exact hst j hj⟩, hle, s.to 0 (le_upd rfl (le_upd rfl (le_upd rfl (le_upd rfl (le_upd (winc (k := q) (by omega)) (le_none _)))))) (eb_upd rfl (eb_upd rfl (eb_upd rfl (eb_upd rfl (eb_upd rfl (eb_none _)))))) rfl rfl rfl⟩
  · have hq : q = es.length := by simp at h1; omega
    subst hq
    refine ok_exit (ok_then_exit (ok_then_exit (ok_inBlock_exit (iter_end rfl hle (.inl ⟨by rw [← cntF_all]; exact hJ, fun j hj => by rw [← cntF_all]; exact hst j hj⟩)))))
end Go.Aw
