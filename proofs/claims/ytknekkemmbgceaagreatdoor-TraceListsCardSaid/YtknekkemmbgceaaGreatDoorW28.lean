/- Contracts of functions of the program, walked: s_Answer, c_trace_Answer_some, s_Answer0, c_trace_Answer_none. By an AI agent. -/
import Derived.Test.YtknekkemmbgceaaGreatDoorW27
set_option linter.all false
/-! W28 -/
namespace Go.Aw
open Go.RowKit Go.Proofs
private theorem f39_3 : fldF Pr 39 3 = some (3, 1, false) := by kernel_rfl
private theorem pl39 : placesF Pr 39 = some [(0, 1), (1, 1), (2, 1), (3, 1), (4, 10), (14, 3), (17, 3), (20, 3), (23, 1), (24, 1), (25, 1), (26, 1), (27, 1), (28, 1), (29, 1), (30, 1), (31, 1), (32, 1)] := by kernel_rfl
private theorem t3 : tyF Pr 3 = some (1, false) := by kernel_rfl
private theorem t39 : tyF Pr 39 = some (33, true) := by kernel_rfl
private theorem t4 : tyF Pr 4 = some (1, false) := by kernel_rfl
private theorem zo3 : ZeroOk Pr 3 [.d (.int .i64 0)] := ⟨.int .i64 0, fun _ => by kernel_rfl, fun μ ρ => (rcc zi rcn), by simp [Value.cells, Value.oneCell']⟩
private theorem zo39 : ZeroOk Pr 39 [.d (.int .i64 0), .d (.int .i64 0), .d (.int .i64 0), .d (.int .i64 0), .d (.int .i64 0), .d (.int .i64 0), .d (.str ⟨#[]⟩), .d (.str ⟨#[]⟩), .d (.str ⟨#[]⟩), .d (.int .i64 0), .d (.int .i64 0), .d (.int .i64 0), .d (.int .i64 0), .d (.list 3 []), .d (.list 10 []), .d (.list 10 []), .d (.list 10 []), .d (.int .i64 0), .d (.int .i64 0), .d (.int .i64 0), .d (.int .i64 0), .d (.int .i64 0), .d (.int .i64 0), .d (.bool false), .d (.int .i64 0), .d (.list 1 []), .d (.list 1 []), .d (.int .i64 0), .d (.int .i64 0), .d (.str ⟨#[]⟩), .d (.str ⟨#[]⟩), .d (.list 5 []), .d (.list 3 [])] := ⟨.agg #[.int .i64 0, .int .i64 0, .int .i64 0, .int .i64 0, .int .i64 0, .int .i64 0, .string ⟨#[]⟩, .string ⟨#[]⟩, .string ⟨#[]⟩, .int .i64 0, .int .i64 0, .int .i64 0, .int .i64 0, .slice none 0 0, .slice none 0 0, .slice none 0 0, .slice none 0 0, .int .i64 0, .int .i64 0, .int .i64 0, .int .i64 0, .int .i64 0, .int .i64 0, .bool false, .int .i64 0, .slice none 0 0, .slice none 0 0, .int .i64 0, .int .i64 0, .string ⟨#[]⟩, .string ⟨#[]⟩, .slice none 0 0, .slice none 0 0], fun _ => by kernel_rfl, fun μ ρ => (rcc zi (rcc zi (rcc zi (rcc zi (rcc zi (rcc zi (rcc zs (rcc zs (rcc zs (rcc zi (rcc zi (rcc zi (rcc zi (rcc zl (rcc zl (rcc zl (rcc zl (rcc zi (rcc zi (rcc zi (rcc zi (rcc zi (rcc zi (rcc zb (rcc zi (rcc zl (rcc zl (rcc zi (rcc zi (rcc zs (rcc zs (rcc zl (rcc zl rcn))))))))))))))))))))))))))))))))), by simp [Value.cells, Value.oneCell']⟩
private theorem zo4 : ZeroOk Pr 4 [.d (.bool false)] := ⟨.bool false, fun _ => by kernel_rfl, fun μ ρ => (rcc zb rcn), by simp [Value.cells, Value.oneCell']⟩
theorem ofF_get2 (kd : Int) : ∀ (es : List Ev) (n k : Nat) (ds : List D), (ofF kd n es)[k]? = some ds → ∃ x e, ds = [I x, e.d] ∧ (es.filter fun e => e.kind == kd)[k]? = some e ∧ e ∈ es
  | [], n, k, ds, h => by simp [ofF] at h
  | e :: es, n, k, ds, h => by
    simp only [ofF] at h
    split at h
    · rename_i he
      rw [List.filter_cons_of_pos (by simpa using he)]
      cases k with
      | zero => simp at h; exact ⟨n, e, h.symm, by simp, List.mem_cons_self⟩
      | succ k =>
        obtain ⟨x, e', h1, h2, h3⟩ := ofF_get2 kd es (n + 1) k ds (by simpa using h)
        exact ⟨x, e', h1, by simpa using h2, List.mem_cons_of_mem _ h3⟩
    · rename_i he
      rw [List.filter_cons_of_neg (by simpa using he)]
      obtain ⟨x, e', h1, h2, h3⟩ := ofF_get2 kd es (n + 1) k ds h
      exact ⟨x, e', h1, h2, List.mem_cons_of_mem _ h3⟩
theorem ofF_len (kd : Int) : ∀ (es : List Ev) (n : Nat), (ofF kd n es).length = (es.filter fun e => e.kind == kd).length
  | [], _ => rfl
  | e :: es, n => by
    simp only [ofF]
    split
    · rename_i he; rw [List.filter_cons_of_pos (by simpa using he)]; simp [ofF_len kd es (n + 1)]
    · rename_i he; rw [List.filter_cons_of_neg (by simpa using he)]; exact ofF_len kd es (n + 1)
theorem fidx_hit {l : List Ev} {p : Ev → Bool} {j : Nat} {e : Ev} (hj : l.findIdx? p = some j) (he : l[j]? = some e) : p e = true := by
  obtain ⟨h1, h2, _⟩ := List.findIdx?_eq_some_iff_getElem.1 hj
  have : l[j] = e := by have := List.getElem?_eq_getElem h1; rw [this] at he; simpa using he
  rw [← this]; exact h2
theorem fidx_before {l : List Ev} {p : Ev → Bool} {j q : Nat} {e : Ev} (hj : l.findIdx? p = some j) (hq : q < j) (he : l[q]? = some e) : p e = false := by
  obtain ⟨h1, _, h3⟩ := List.findIdx?_eq_some_iff_getElem.1 hj
  have h4 := h3 q hq
  have : l[q]'(by omega) = e := by have := List.getElem?_eq_getElem (show q < l.length by omega); rw [this] at he; simpa using he
  rw [this] at h4; simpa using h4
/-- The answers of a trace; the first of them to this operation. -/
def ansF (es : List Ev) : List Ev := es.filter fun e => e.kind == 5
theorem pure_of_specD {P : Program} {f : FuncId} {xs : List D} {r : AV} {d : D} {Lq : List AO} (h : Spec P f (xs.map .d) [] r Lq) (hd : r.toD = some d) : Pure P f xs d := by
  refine ⟨h.1, fun w μ vs hm hG hr => ?_⟩
  have pre : HeapOk (fctx P 0 w μ [] []) w μ [] [] := ⟨rfl, fun i o v h => by simp at h, fun i j o o' v v' b _ h => by simp at h, fun i o v b h => by simp at h, hm, ⟨MemLe.refl μ, hG⟩, fun _ _ => rfl, Fr.refl _ _, Nat.le_refl _, fun i hi => rfl⟩
  refine (h.2 w μ [] vs pre (AReps.ofReps hr)).mono fun e w' ⟨v, μ', ρ', he, hq, hrr⟩ => ⟨v, μ', he, ⟨hq.le.le, hq.old, hq.holds, ⟨hq.fr.os, hq.fr.tape, hq.fr.output, hq.fr.size, fun k hk => hq.fr.block k hk (by rintro ⟨i, o, u, h1, _⟩; simp at h1)⟩, hq.fr.dr⟩, AV.toD_rep r d v hd hrr⟩

private def zAV : List AV := [.d (.int .i64 0), .d (.int .i64 0), .d (.int .i64 0), .d (.int .i64 0), .d (.int .i64 0), .d (.int .i64 0), .d (.str ⟨#[]⟩), .d (.str ⟨#[]⟩), .d (.str ⟨#[]⟩), .d (.int .i64 0), .d (.int .i64 0), .d (.int .i64 0), .d (.int .i64 0), .d (.list 3 []), .d (.list 10 []), .d (.list 10 []), .d (.list 10 []), .d (.int .i64 0), .d (.int .i64 0), .d (.int .i64 0), .d (.int .i64 0), .d (.int .i64 0), .d (.int .i64 0), .d (.bool false), .d (.int .i64 0), .d (.list 1 []), .d (.list 1 []), .d (.int .i64 0), .d (.int .i64 0), .d (.str ⟨#[]⟩), .d (.str ⟨#[]⟩), .d (.list 5 []), .d (.list 3 [])]
private def ev0 : Ev := ⟨0, 0, 0, 0, ⟨0, 0, ⟨#[]⟩, ⟨#[]⟩, ⟨#[]⟩, 0, ⟨0, 0, 0⟩, []⟩, ⟨[], [], []⟩, ⟨0, 0, 0⟩, ⟨0, 0, 0⟩, false, 0, [], [], 0, 0, ⟨#[]⟩, ⟨#[]⟩, [], []⟩
private def aX (op : Int) (_ : Nat) : List AO := [.box 3 [.d (I op)], .box 39 zAV, .box 4 [.d (.bool false)]]
private def aE : Env := upd 2 (.box 0 0) (upd 4 (.box 1 0) (upd 5 (.box 2 0) none0))
private def aS (op : Int) (e : Ev) (d o : AO) : List AO := [.box 3 [.d (I op)], .box 39 (evA e (Ct.join ct0 e.c) (.row 8) (.row 9) (.row 10) (.row 11)), .box 4 [.d (.bool true)], d, o, .box 39 (AV.cells (.d e.d)), .dead, .box 39 (evA e (Ct.join ct0 e.c) (.row 8) (.row 9) (.row 10) (.row 11)), .row 3 1 (e.q.map I), .row 3 1 (e.nos.map I), .row 49 5 (e.rows.map Ro.d), .row 29 3 (e.ctx.map St.d)]
set_option maxRecDepth 20000 in
theorem s_Answer (op : Int) (es : List Ev) (hl : es.length ≤ 1000000) (e : Ev) (he : e.fits) (j : Nat) (hj : (ansF es).findIdx? (fun e => e.op == op) = some j) (hje : (ansF es)[j]? = some e) :
    Spec Pr 7 [.d (I op), .d (.list 33 (es.map Ev.d))] [] (.tup [.agg (evA e (Ct.join ct0 e.c) (qA e) (nA e) (rA e) (xA e)), .d (.bool true)]) (((((((aS op e .dead .dead).map (AO.subst 8 (ints e.q))).set 8 .dead).map (AO.subst 9 (ints e.nos))).set 9 .dead |>.map (AO.subst 10 (.list 5 (e.rows.map Ro.d)))).set 10 .dead |>.map (AO.subst 11 (.list 3 (e.ctx.map St.d)))).set 11 .dead) := by
  refine specM_of Tryz.func7 (by kernel_rfl) rfl Tryz.ntmps7 (by simp) fun w μ ρ => ?_
  refine ok_seq ?_
  refine ok_region rfl ?_
  refine kbox (n := 0) (g rfl) rfl rfl ?_
  refine kal (n := 1) zo39 rfl ?_
  refine kal (n := 2) zo4 rfl ?_
  refine ok_end (ok_then ?_)
  refine ok_seq ?_
  refine ok_seq ?_
  refine ok_region rfl ?_
  refine k (mv (g rfl)) ?_
  refine k (cl (a1 gi rfl (a1 (g rfl) rfl a0)) (c_trace_Of es 5)) ?_
  refine ok_end (ok_then ?_)
  refine ok_block ?_
  refine ok_range (ps := [10, 11]) (E' := aE) 3 3 rfl (g rfl) rfl (i_trace_Of es 5 (by omega)) (le_upd rfl (le_upd rfl (le_upd rfl (le_none _)))) (eb_upd rfl (eb_upd rfl (eb_upd rfl (eb_none _)))) (Nat.zero_le _) (by decide) (ofF_two 5 es 0) (by show ∀ p ∈ [10, 11], p < 19; decide) (aX op) rfl (fun _ => rfl) (fun _ => rfl) (some j) .ret (aS op e) (fun _ _ => rfl) (fun _ _ _ => rfl) ?_ ?_ ?_
  · intro q ds hds hqj l D r ρ0 μ0
    obtain ⟨x, e1, rfl, he1, _⟩ := ofF_get2 5 es 0 q ds hds
    refine ⟨upd 7 (.box 5 0) aE, fun d o => aX op q ++ [d, o, .box 39 (AV.cells (.d e1.d))], fun _ _ => rfl, fun _ _ _ => rfl, ?_, fun Qr hnext hstop => ?_⟩
    · refine ok_region rfl ?_
      refine kal (n := 5) zo39 rfl ?_
      refine kst (g rfl) (g rfl) t39 rfl rfl rfl rfl ?_
      exact ok_end (ok_to 6 (le_upd rfl (le_upd rfl (le_upd rfl (le_upd rfl (le_none _))))) (eb_upd rfl (eb_upd rfl (eb_upd rfl (eb_upd rfl (eb_none _))))) rfl rfl rfl)
    · refine ok_block ?_
      refine ok_seq ?_
      refine ok_region rfl ?_
      refine k (fb (g rfl) f39_3) ?_
      refine k (lb (g rfl) t3 rfl rfl) ?_
      refine k (lb (g rfl) t3 rfl rfl) ?_
      refine k (bn (g rfl) (g rfl) rfl) ?_
      refine ok_end (ok_then ?_)
      refine ok_cond (g rfl) (fun h1 => ?_) (fun h1 => ?_)
      · have hjq : q = j := by
          rcases Nat.lt_or_eq_of_le (hqj j rfl) with h | h
          · exfalso
            have := fidx_before hj h he1
            rw [show (e1.op == op) = true from h1] at this; cases this
          · exact h
        subst hjq
        have : e1 = e := by have := he1.symm.trans hje; simpa using this
        subst this
        refine ok_seq ?_
        refine ok_region rfl ?_
        refine k (lB (g rfl) t39 rfl rfl) ?_
        refine ks [] (s1d (g rfl) rfl s0) (c_trace_Copy e1 he) ⟨rfl, trivial⟩ (by simp) rfl rfl ?_
        refine kst (g rfl) (g rfl) t39 rfl rfl rfl rfl ?_
        refine kst (g rfl) gb t4 rfl rfl rfl rfl ?_
        refine ok_end (ok_then ?_)
        exact ok_ret (ok_inBlock_ret (hstop rfl .ret _ _ rfl rfl))
      · refine ok_skip (ok_inBlock_normal (hnext (fun h => ?_) _ _ rfl))
        simp at h
        subst h
        have : e1 = e := by have := he1.symm.trans hje; simpa using this
        subst this
        have := fidx_hit hj he1
        rw [show (e1.op == op) = false from h1] at this; cases this
  · intro h D
    have h1 := h j rfl
    rw [ofF_len] at h1
    have := (List.getElem?_eq_some_iff.1 hje).1
    unfold ansF at this; omega
  · intro j' _ _ D
    refine ok_freezeC (@nofoot Pr 19 w μ ρ) 8 rfl (map_plain (fun _ => rfl) _) ?_
    refine ok_freezeC (@nofoot Pr 19 w μ ρ) 9 rfl (map_plain (fun _ => rfl) _) ?_
    refine ok_freezeC (@nofoot Pr 19 w μ ρ) 10 rfl (map_plain (fun _ => rfl) _) ?_
    refine ok_freezeC (@nofoot Pr 19 w μ ρ) 11 rfl (map_plain (fun _ => rfl) _) ?_
    exact ok_ret (ok_inBlock_ret (ok_then_ret (ex_mark 3 rfl rfl (sret_2 rfl (.cellA rfl rfl t39 rfl) (.cell rfl rfl t4 rfl)))))
theorem c_trace_Answer_some (op : Int) (es : List Ev) (hl : es.length ≤ 1000000) (e : Ev) (he : e.fits) (j : Nat) (hj : (ansF es).findIdx? (fun e => e.op == op) = some j) (hje : (ansF es)[j]? = some e) :
    Pure Pr 7 [I op, .list 33 (es.map Ev.d)] (.tup [({ e with c := Ct.join ct0 e.c } : Ev).d, .bool true]) := pure_of_specD (s_Answer op es hl e he j hj hje) rfl
set_option maxRecDepth 20000 in
theorem s_Answer0 (op : Int) (es : List Ev) (hl : es.length ≤ 1000000) (hj : (ansF es).findIdx? (fun e => e.op == op) = none) :
    Spec Pr 7 [.d (I op), .d (.list 33 (es.map Ev.d))] [] (.tup [.agg zAV, .d (.bool false)]) [.box 3 [.d (I op)], .box 39 zAV, .box 4 [.d (.bool false)], .dead] := by
  refine specM_of Tryz.func7 (by kernel_rfl) rfl Tryz.ntmps7 (by simp) fun w μ ρ => ?_
  refine ok_seq ?_
  refine ok_region rfl ?_
  refine kbox (n := 0) (g rfl) rfl rfl ?_
  refine kal (n := 1) zo39 rfl ?_
  refine kal (n := 2) zo4 rfl ?_
  refine ok_end (ok_then ?_)
  refine ok_seq ?_
  refine ok_seq ?_
  refine ok_region rfl ?_
  refine k (mv (g rfl)) ?_
  refine k (cl (a1 gi rfl (a1 (g rfl) rfl a0)) (c_trace_Of es 5)) ?_
  refine ok_end (ok_then ?_)
  refine ok_block ?_
  refine ok_range (ps := [10, 11]) (E' := aE) 3 3 rfl (g rfl) rfl (i_trace_Of es 5 (by omega)) (le_upd rfl (le_upd rfl (le_upd rfl (le_none _)))) (eb_upd rfl (eb_upd rfl (eb_upd rfl (eb_none _)))) (Nat.zero_le _) (by decide) (ofF_two 5 es 0) (by show ∀ p ∈ [10, 11], p < 19; decide) (aX op) rfl (fun _ => rfl) (fun _ => rfl) none .ret (fun d o => [.dead, .dead, .dead, d, o]) (fun _ _ => rfl) (fun _ _ _ => rfl) ?_ ?_ ?_
  · intro q ds hds hqj l D r ρ0 μ0
    obtain ⟨x, e1, rfl, he1, _⟩ := ofF_get2 5 es 0 q ds hds
    refine ⟨upd 7 (.box 5 0) aE, fun d o => aX op q ++ [d, o, .box 39 (AV.cells (.d e1.d))], fun _ _ => rfl, fun _ _ _ => rfl, ?_, fun Qr hnext hstop => ?_⟩
    · refine ok_region rfl ?_
      refine kal (n := 5) zo39 rfl ?_
      refine kst (g rfl) (g rfl) t39 rfl rfl rfl rfl ?_
      exact ok_end (ok_to 6 (le_upd rfl (le_upd rfl (le_upd rfl (le_upd rfl (le_none _))))) (eb_upd rfl (eb_upd rfl (eb_upd rfl (eb_upd rfl (eb_none _))))) rfl rfl rfl)
    · refine ok_block ?_
      refine ok_seq ?_
      refine ok_region rfl ?_
      refine k (fb (g rfl) f39_3) ?_
      refine k (lb (g rfl) t3 rfl rfl) ?_
      refine k (lb (g rfl) t3 rfl rfl) ?_
      refine k (bn (g rfl) (g rfl) rfl) ?_
      refine ok_end (ok_then ?_)
      refine ok_cond (g rfl) (fun h1 => ?_) (fun h1 => ?_)
      · exfalso
        have := List.findIdx?_eq_none_iff.1 hj e1 (List.mem_of_getElem? he1)
        rw [show (e1.op == op) = true from h1] at this; cases this
      · exact ok_skip (ok_inBlock_normal (hnext (by simp) _ _ rfl))
  · intro _ D
    refine ok_inBlock_normal (ok_then ?_)
    refine ok_seq ?_
    refine ok_region rfl ?_
    refine k (bd zo39 pl39 b0 rfl) ?_
    refine kst (g rfl) (g rfl) t39 rfl rfl rfl rfl ?_
    refine kst (g rfl) gb t4 rfl rfl rfl rfl ?_
    refine ok_end (ok_then ?_)
    exact ok_ret (ex_mark 3 rfl rfl (sret_2 rfl (.cellA rfl rfl t39 rfl) (.cell rfl rfl t4 rfl)))
  · intro j hj; cases hj
def Ev.zero : Ev := ev0
theorem c_trace_Answer_none (op : Int) (es : List Ev) (hl : es.length ≤ 1000000) (hj : (ansF es).findIdx? (fun e => e.op == op) = none) :
    Pure Pr 7 [I op, .list 33 (es.map Ev.d)] (.tup [Ev.zero.d, .bool false]) := pure_of_specD (s_Answer0 op es hl hj) rfl
end Go.Aw
