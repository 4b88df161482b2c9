/- Contracts of functions of the program, walked: s_places, c_cenotaphlaw30_places. By an AI agent. -/
import Derived.Test.YtknekkemmbgceaaGreatDoorW26
import Derived.Test.YtknekkemmbgceaaGreatDoorSp
set_option linter.all false
/-! W27 -/
namespace Go.Aw
open Go.RowKit Go.Proofs
private theorem ap24 : AppF Pr 24 3 1 8 := appF_out (by kernel_rfl)
private theorem e24 : elemF Pr 24 = some (3, 1) := by kernel_rfl
private theorem fn59 : Pr.underlying 59 = some (.func #[79] #[] false) := by kernel_rfl
private theorem t24 : tyF Pr 24 = some (1, false) := by kernel_rfl
private theorem z3 : ZeroSz Pr 3 1 := ⟨.int .i64 0, fun _ => by kernel_rfl, rfl⟩
private theorem zn24 : ZeroOk Pr 24 [NIL] := ⟨.slice none 0 0, fun _ => by kernel_rfl, fun μ ρ => (rcc (zv rfl rfl) rcn), by simp [Value.cells, Value.oneCell']⟩
def plF (kd : Int) : Nat → List Ev → List Int
  | _, [] => []
  | n, e :: es => if e.kind = kd then (n : Int) :: plF kd (n + 1) es else plF kd (n + 1) es
theorem plF_length (kd : Int) : ∀ (es : List Ev) (n : Nat), (plF kd n es).length = (ofF kd n es).length
  | [], _ => rfl
  | e :: es, n => by simp only [plF, ofF]; split <;> simp [plF_length kd es (n + 1)]
theorem plF_le (kd : Int) : ∀ (es : List Ev) (n : Nat), (plF kd n es).length ≤ es.length
  | [], _ => Nat.le_refl _
  | e :: es, n => by
    have := plF_le kd es (n + 1)
    simp only [plF]; split <;> simp <;> omega
theorem ofF_get (kd : Int) : ∀ (es : List Ev) (n k : Nat) (ds : List D), (ofF kd n es)[k]? = some ds → ∃ x e, ds = [I x, e.d] ∧ (plF kd n es)[k]? = some x ∧ e ∈ es ∧ e.kind = kd
  | [], n, k, ds, h => by simp [ofF] at h
  | e :: es, n, k, ds, h => by
    simp only [ofF, plF] at h ⊢
    split at h
    · rename_i he
      rw [if_pos he]
      cases k with
      | zero => simp at h; exact ⟨n, e, h.symm, by simp, List.mem_cons_self, he⟩
      | succ k =>
        obtain ⟨x, e', h1, h2, h3, h4⟩ := ofF_get kd es (n + 1) k ds (by simpa using h)
        exact ⟨x, e', h1, by simpa using h2, List.mem_cons_of_mem _ h3, h4⟩
    · rename_i he
      rw [if_neg he]
      obtain ⟨x, e', h1, h2, h3, h4⟩ := ofF_get kd es (n + 1) k ds h
      exact ⟨x, e', h1, h2, List.mem_cons_of_mem _ h3, h4⟩
theorem ofF_two (kd : Int) (es : List Ev) (n : Nat) : ∀ ds ∈ ofF kd n es, ds.length = 2 := fun ds h => by
  obtain ⟨k, hk⟩ := List.mem_iff_getElem?.1 h
  obtain ⟨x, e, rfl, _⟩ := ofF_get kd es n k ds hk
  rfl
theorem take_snoc {α : Type} {l : List α} {k : Nat} {x : α} (h : l[k]? = some x) : l.take k ++ [x] = l.take (k + 1) := by
  rw [List.take_add_one, h]; rfl

private def pX (kd : Int) (es : List Ev) (k : Nat) : List AO := [.box 24 [.row 1], .row 3 1 (((plF kd 0 es).take k).map I)]
set_option maxRecDepth 20000 in
theorem s_places (kd : Int) (es : List Ev) (hl : es.length ≤ 1000000) : Spec Pr 10 [.d (I kd), .d (.list 33 (es.map Ev.d))] [] (.row 1) [.box 24 [.row 1], .row 3 1 ((plF kd 0 es).map I), .dead] := by
  refine specM_of Tryz.func10 (by kernel_rfl) rfl Tryz.ntmps10 (by simp) fun w μ ρ => ?_
  refine ok_seq ?_
  refine ok_region rfl ?_
  refine k (asg (gn 1)) ?_
  refine ok_end (ok_then ?_)
  refine ok_seq ?_
  refine ok_region rfl ?_
  refine kal (n := 0) zn24 rfl ?_
  refine ok_end (ok_then ?_)
  refine ok_seq ?_
  refine ok_region rfl ?_
  refine k (mv (g rfl)) ?_
  refine k (mv (g rfl)) ?_
  refine k (cl (a1 (g rfl) rfl (a1 (g rfl) rfl a0)) (c_trace_Of es kd)) ?_
  refine k (asg (g rfl)) ?_
  refine ok_end (ok_then ?_)
  refine ok_seq ?_
  refine ok_seq ?_
  refine ok_region rfl ?_
  refine k (mv (g rfl)) ?_
  refine k (eqFn fn59 (g rfl) rfl) ?_
  refine ok_end (ok_then ?_)
  refine ok_cond (g rfl) (fun h1 => ?_) (fun h1 => ?_)
  · cases h1
  refine ok_skip (ok_then ?_)
  refine ok_seq ?_
  refine ok_seq ?_
  refine ok_promoteB 0 0 3 1 rfl rfl rfl ?_
  refine ok_region rfl ?_
  refine k (mv (g rfl)) ?_
  refine ok_end (ok_then ?_)
  refine ok_block ?_
  have hpl := plF_le kd es 0
  refine ok_range (ps := [14, 15]) (E' := upd 5 (.box 0 0) none0) 1 2 rfl (g rfl) rfl (i_trace_Of es kd (by omega)) (le_upd rfl (le_none _)) (eb_upd rfl (eb_none _)) (Nat.zero_le _) (by decide) (ofF_two kd es 0) (by show ∀ p ∈ [14, 15], p < 21; decide) (pX kd es) rfl (fun _ => rfl) (fun _ => rfl) none .ret (fun d o => [.dead, .dead, d, o]) (fun _ _ => rfl) (fun _ _ _ => rfl) ?_ ?_ ?_
  · intro q ds hds _ l D r ρ0 μ0
    obtain ⟨x, e, rfl, hx, _, _⟩ := ofF_get kd es 0 q ds hds
    have hq : q < (plF kd 0 es).length := (List.getElem?_eq_some_iff.1 hx).1
    refine ⟨upd 7 (.d (I x)) (upd 5 (.box 0 0) none0), fun d o => pX kd es q ++ [d, o], fun _ _ => rfl, fun _ _ _ => rfl, ?_, fun Qr hnext hstop => ?_⟩
    · refine ok_region rfl ?_
      refine k (asg (g rfl)) ?_
      exact ok_end (ok_to 4 (le_upd rfl (le_upd rfl (le_none _))) (eb_upd rfl (eb_upd rfl (eb_none _))) rfl rfl rfl)
    · refine ok_block ?_
      refine ok_region rfl ?_
      refine k (lb (g rfl) t24 rfl rfl) ?_
      refine k (mv (g rfl)) ?_
      refine k (mk e24 z3 (p1 (g rfl) rfl p0) rfl rfl rfl rfl rfl) ?_
      refine ok_hide 0 1 rfl fun u => ?_
      refine ok_append (g rfl) (g rfl) ap24 rfl (fun _ => rfl) (by simp only [List.length_map, List.length_take, List.length_cons, List.length_nil]; omega) (by simp only [List.length_map, List.length_take, List.length_cons, List.length_nil]; omega) rfl rfl ?_
      refine kst (g rfl) (g rfl) t24 rfl rfl rfl rfl ?_
      refine ok_end (ok_inBlock_normal (hnext (by simp) _ _ ?_))
      show [AO.box 24 [.row 1], .row 3 1 (((plF kd 0 es).take q).map I ++ [I x]), rawD D, _] = [.box 24 [.row 1], .row 3 1 (((plF kd 0 es).take (q + 1)).map I), rawD D, _]
      rw [← take_snoc hx, List.map_append]; rfl
  · intro _ D
    refine ok_inBlock_normal (ok_then ?_)
    rw [show pX kd es (ofF kd 0 es).length ++ [rawD D] = [.box 24 [.row 1], .row 3 1 ((plF kd 0 es).map I), rawD D] by unfold pX; rw [← plF_length, List.take_length]; rfl]
    refine ok_seq ?_
    refine ok_region rfl ?_
    refine k (lb (g rfl) t24 rfl rfl) ?_
    refine k (asg (g rfl)) ?_
    refine ok_end (ok_then ?_)
    exact ok_ret (ex_mark 2 rfl rfl (sret_tmp rfl rfl))
  · intro j hj; cases hj
theorem c_cenotaphlaw30_places (kd : Int) (es : List Ev) (hl : es.length ≤ 1000000) : Pure Pr 10 [I kd, .list 33 (es.map Ev.d)] (.list 1 ((plF kd 0 es).map I)) := pure_of_rowI (s_places kd es hl) rfl (fun y hy => by obtain ⟨x, _, rfl⟩ := List.mem_map.1 hy; rfl)
end Go.Aw
