/- Contracts of functions of the program, walked: c_trace_Answer, c_cenotaphlaw30_TraceLists. By an AI agent. -/
import Derived.Test.YtknekkemmbgceaaGreatDoorW29
import Derived.Test.YtknekkemmbgceaaGreatDoorSp
set_option linter.all false
/-! W30 -/
namespace Go.Aw
open Go.RowKit Go.Proofs
private theorem ap24 : AppF Pr 24 3 1 8 := appF_out (by kernel_rfl)
private theorem bo4 : Pr.underlying 4 = some .bool := by kernel_rfl
private theorem e22 : elemF Pr 22 = some (39, 33) := by kernel_rfl
private theorem e24 : elemF Pr 24 = some (3, 1) := by kernel_rfl
private theorem e30 : elemF Pr 30 = some (29, 3) := by kernel_rfl
private theorem f35_0 : fldF Pr 35 0 = some (0, 1, false) := by kernel_rfl
private theorem f35_1 : fldF Pr 35 1 = some (1, 1, false) := by kernel_rfl
private theorem f35_2 : fldF Pr 35 2 = some (2, 1, false) := by kernel_rfl
private theorem f39_0 : fldF Pr 39 0 = some (0, 1, false) := by kernel_rfl
private theorem f39_17 : fldF Pr 39 17 = some (32, 1, false) := by kernel_rfl
private theorem f39_3 : fldF Pr 39 3 = some (3, 1, false) := by kernel_rfl
private theorem f39_5 : fldF Pr 39 5 = some (14, 3, true) := by kernel_rfl
private theorem t23 : tyF Pr 23 = some (1, false) := by kernel_rfl
private theorem t3 : tyF Pr 3 = some (1, false) := by kernel_rfl
private theorem t30 : tyF Pr 30 = some (1, false) := by kernel_rfl
private theorem t33 : tyF Pr 33 = some (1, false) := by kernel_rfl
private theorem t39 : tyF Pr 39 = some (33, true) := by kernel_rfl
private theorem z3 : ZeroSz Pr 3 1 := ⟨.int .i64 0, fun _ => by kernel_rfl, rfl⟩
private theorem zo39 : ZeroOk Pr 39 [.d (.int .i64 0), .d (.int .i64 0), .d (.int .i64 0), .d (.int .i64 0), .d (.int .i64 0), .d (.int .i64 0), .d (.str ⟨#[]⟩), .d (.str ⟨#[]⟩), .d (.str ⟨#[]⟩), .d (.int .i64 0), .d (.int .i64 0), .d (.int .i64 0), .d (.int .i64 0), .d (.list 3 []), .d (.list 10 []), .d (.list 10 []), .d (.list 10 []), .d (.int .i64 0), .d (.int .i64 0), .d (.int .i64 0), .d (.int .i64 0), .d (.int .i64 0), .d (.int .i64 0), .d (.bool false), .d (.int .i64 0), .d (.list 1 []), .d (.list 1 []), .d (.int .i64 0), .d (.int .i64 0), .d (.str ⟨#[]⟩), .d (.str ⟨#[]⟩), .d (.list 5 []), .d (.list 3 [])] := ⟨.agg #[.int .i64 0, .int .i64 0, .int .i64 0, .int .i64 0, .int .i64 0, .int .i64 0, .string ⟨#[]⟩, .string ⟨#[]⟩, .string ⟨#[]⟩, .int .i64 0, .int .i64 0, .int .i64 0, .int .i64 0, .slice none 0 0, .slice none 0 0, .slice none 0 0, .slice none 0 0, .int .i64 0, .int .i64 0, .int .i64 0, .int .i64 0, .int .i64 0, .int .i64 0, .bool false, .int .i64 0, .slice none 0 0, .slice none 0 0, .int .i64 0, .int .i64 0, .string ⟨#[]⟩, .string ⟨#[]⟩, .slice none 0 0, .slice none 0 0], fun _ => by kernel_rfl, fun μ ρ => (rcc zi (rcc zi (rcc zi (rcc zi (rcc zi (rcc zi (rcc zs (rcc zs (rcc zs (rcc zi (rcc zi (rcc zi (rcc zi (rcc zl (rcc zl (rcc zl (rcc zl (rcc zi (rcc zi (rcc zi (rcc zi (rcc zi (rcc zi (rcc zb (rcc zi (rcc zl (rcc zl (rcc zi (rcc zi (rcc zs (rcc zs (rcc zl (rcc zl rcn))))))))))))))))))))))))))))))))), by simp [Value.cells, Value.oneCell']⟩
def Ev.tame (e : Ev) : Bool := !((((e.great || decide (50 < (e.ctx.length : Int))) || greatL e.c.cells 5) || greatL e.c.wipes 5) || greatL e.c.sibs 5)
/-- What a reading of an event gives. -/
structure Ev.okB (e : Ev) : Prop where
  rows : e.rows.length < 4611686018427387904
  cells : e.c.cells.length < 4611686018427387904
  wipes : e.c.wipes.length < 4611686018427387904
  sibs : e.c.sibs.length < 4611686018427387904
  nos : e.nos.length * 8 ≤ 140737488355328
theorem greatL_no {l : List Mu} {n : Int} (h : greatL l n = false) : (l.length : Int) ≤ n ∧ ∀ m ∈ l, m.big = false := by
  unfold greatL at h
  simp only [Bool.or_eq_false_iff, decide_eq_false_iff_not, List.any_eq_false] at h
  exact ⟨by omega, fun m hm => by simpa using h.2 m hm⟩
theorem big_no {m : Mu} (h : m.big = false) : m.key.size ≤ 200 ∧ m.end_.size ≤ 200 ∧ m.val.size ≤ 200 ∧ m.over.length ≤ 50 := by
  unfold Mu.big at h
  simp only [Bool.or_eq_false_iff, decide_eq_false_iff_not] at h
  omega
theorem tame_out {e : Ev} (h : e.tame = true) : e.m.big = false ∧ e.q.length ≤ 20 ∧ e.rows.length ≤ 20 ∧ (∀ r ∈ e.rows, r.big = false) ∧ e.ctx.length ≤ 50 ∧ greatL e.c.cells 5 = false ∧ greatL e.c.wipes 5 = false ∧ greatL e.c.sibs 5 = false := by
  unfold Ev.tame Ev.great at h
  simp only [Bool.not_eq_true', Bool.or_eq_false_iff, decide_eq_false_iff_not, List.any_eq_false] at h
  obtain ⟨⟨⟨⟨⟨⟨⟨h1, h2⟩, h3⟩, h4⟩, h5⟩, h6⟩, h7⟩, h8⟩ := h
  exact ⟨(greatL_no h1).2 _ (by simp), by omega, by omega, fun r hr => by simpa using h4 r hr, by omega, h6, h7, h8⟩
theorem tame_small {e : Ev} (h : e.tame = true) : e.small := by
  obtain ⟨h1, h2, h3, h4, -⟩ := tame_out h
  have := big_no h1
  refine ⟨⟨by omega, by omega, by omega⟩, by omega, by omega, fun r hr => ?_⟩
  have := h4 r hr
  unfold Ro.big at this
  simp only [Bool.or_eq_false_iff, decide_eq_false_iff_not] at this
  exact ⟨by omega, by omega⟩
theorem tame_fits {e : Ev} (h : e.tame = true) (ho : e.okB) : e.fits := by
  obtain ⟨h1, h2, h3, h4, h5, h6, h7, h8⟩ := tame_out h
  obtain ⟨a1, a2⟩ := greatL_no h6; obtain ⟨b1, b2⟩ := greatL_no h7; obtain ⟨c1, c2⟩ := greatL_no h8
  have := big_no h1
  have hm : ∀ {m : Mu}, m.big = false → m.lite := fun h => by have := big_no h; unfold Mu.lite; omega
  exact ⟨⟨by omega, by omega, by omega⟩, ⟨fun m h => hm (a2 m h), fun m h => hm (b2 m h), fun m h => hm (c2 m h)⟩, hm h1, by omega, ho.nos, by omega, by omega⟩
theorem tame_parts {e : Ev} (h : e.tame = true) : e.c.parts.length ≤ 250000 := by
  obtain ⟨h1, h2, h3, h4, h5, h6, h7, h8⟩ := tame_out h
  have := (greatL_no h6).1; have := (greatL_no h7).1; have := (greatL_no h8).1
  simp only [Ct.parts, List.length_append]; omega
/-- Where the first answer to this operation stands. -/
def isAns (op : Int) (e : Ev) : Bool := e.kind == 5 && e.op == op
def fI (op : Int) (es : List Ev) : Int := match es.findIdx? (isAns op) with | some i => (i : Int) | none => -1
theorem fI_succ {op : Int} {es : List Ev} {q : Nat} (hq : q < es.length) : fI op (es.take (q + 1)) = if fI op (es.take q) < 0 ∧ isAns op es[q] = true then (q : Int) else fI op (es.take q) := by
  unfold fI
  rw [List.take_succ_eq_append_getElem hq, List.findIdx?_append]
  cases h : (es.take q).findIdx? (isAns op) with
  | some i => simp; intro h; omega
  | none =>
    have hl : (es.take q).length = q := by simp; omega
    cases h2 : isAns op es[q] with
    | true => simp [List.findIdx?_cons, h2, hl]
    | false => simp [List.findIdx?_cons, h2]
theorem fI_hit {op : Int} {es : List Ev} {q : Nat} (hq : q < es.length) (h : ((decide (fI op (es.take q) < 0) && (es[q].kind == 5)) && (es[q].op == op)) = true) : (q : Int) = fI op (es.take (q + 1)) := by
  rw [fI_succ hq, if_pos]
  simp only [Bool.and_eq_true, decide_eq_true_eq] at h
  exact ⟨h.1.1, by unfold isAns; rw [h.1.2, h.2]; rfl⟩
theorem fI_miss {op : Int} {es : List Ev} {q : Nat} (hq : q < es.length) (h : ((decide (fI op (es.take q) < 0) && (es[q].kind == 5)) && (es[q].op == op)) = false) : fI op (es.take q) = fI op (es.take (q + 1)) := by
  rw [fI_succ hq, if_neg]
  rintro ⟨h1, h2⟩
  unfold isAns at h2
  simp only [Bool.and_eq_true] at h2
  rw [h2.1, h2.2] at h
  simp [h1] at h
theorem plF_append (kd : Int) : ∀ (a b : List Ev) (n : Nat), plF kd n (a ++ b) = plF kd n a ++ plF kd (n + a.length) b
  | [], b, n => by simp [plF]
  | e :: a, b, n => by
    simp only [List.cons_append, plF, List.length_cons]
    rw [plF_append kd a b (n + 1), show n + 1 + a.length = n + (a.length + 1) by omega]
    split <;> simp
theorem pl_hit {kd : Int} {es : List Ev} {q : Nat} (hq : q < es.length) (h : (es[q].kind == kd) = true) : (plF kd 0 (es.take q)).map I ++ [I (q : Nat)] = (plF kd 0 (es.take (q + 1))).map I := by
  have hl : (es.take q).length = q := by simp; omega
  rw [List.take_succ_eq_append_getElem hq, plF_append]
  simp [plF, hl, show es[q].kind = kd by simpa using h]
theorem pl_miss {kd : Int} {es : List Ev} {q : Nat} (hq : q < es.length) (h : (es[q].kind == kd) = false) : (plF kd 0 (es.take q)).map I = (plF kd 0 (es.take (q + 1))).map I := by
  rw [List.take_succ_eq_append_getElem hq, plF_append]
  simp [plF, show ¬ es[q].kind = kd by simpa using h]
/-- What Answer hands back. -/
def ansB (op : Int) (es : List Ev) : Bool := (es.find? (isAns op)).isSome
def ansE (op : Int) (es : List Ev) : Ev := match es.find? (isAns op) with | some e => { e with c := Ct.join ct0 e.c } | none => Ev.zero
theorem ans_rel (op : Int) : ∀ es : List Ev, match es.findIdx? (isAns op) with
    | none => es.find? (isAns op) = none ∧ (ansF es).findIdx? (fun e => e.op == op) = none
    | some i => ∃ j e, es[i]? = some e ∧ es.find? (isAns op) = some e ∧ (ansF es).findIdx? (fun e => e.op == op) = some j ∧ (ansF es)[j]? = some e
  | [] => ⟨rfl, rfl⟩
  | e :: es => by
    have ih := ans_rel op es
    rw [List.findIdx?_cons]
    cases h : isAns op e with
    | true =>
      have h' := h
      unfold isAns at h
      simp only [Bool.and_eq_true] at h
      refine ⟨0, e, by simp, by simp [List.find?_cons, h'], ?_, ?_⟩
      · unfold ansF; rw [List.filter_cons_of_pos (p := fun e : Ev => e.kind == 5) h.1, List.findIdx?_cons]; simp [h.2]
      · unfold ansF; rw [List.filter_cons_of_pos (p := fun e : Ev => e.kind == 5) h.1]; simp
    | false =>
      simp only [Bool.false_eq_true, if_false]
      have hf : ∀ {α : Type} (f : Nat → α) (o : Option Nat), o.map f = (match o with | some i => some (f i) | none => none) := fun f o => by cases o <;> rfl
      cases hk : e.kind == 5 with
      | false =>
        have e1 : ansF (e :: es) = ansF es := by unfold ansF; rw [List.filter_cons_of_neg (by simp [hk])]
        cases hi : es.findIdx? (isAns op) with
        | none =>
          rw [hi] at ih
          simp only [Option.map_none]
          exact ⟨by rw [List.find?_cons, h]; exact ih.1, by rw [e1]; exact ih.2⟩
        | some i =>
          rw [hi] at ih
          obtain ⟨j, e', a1, a2, a3, a4⟩ := ih
          simp only [Option.map_some]
          exact ⟨j, e', by simpa using a1, by rw [List.find?_cons, h]; exact a2, by rw [e1]; exact a3, by rw [e1]; exact a4⟩
      | true =>
        have e1 : ansF (e :: es) = e :: ansF es := by unfold ansF; rw [List.filter_cons_of_pos (p := fun e : Ev => e.kind == 5) hk]
        have ho : (e.op == op) = false := by unfold isAns at h; rw [hk] at h; simpa using h
        cases hi : es.findIdx? (isAns op) with
        | none =>
          rw [hi] at ih
          simp only [Option.map_none]
          exact ⟨by rw [List.find?_cons, h]; exact ih.1, by rw [e1, List.findIdx?_cons, ho, ih.2]; rfl⟩
        | some i =>
          rw [hi] at ih
          obtain ⟨j, e', a1, a2, a3, a4⟩ := ih
          simp only [Option.map_some]
          exact ⟨j + 1, e', by simpa using a1, by rw [List.find?_cons, h]; exact a2, by rw [e1, List.findIdx?_cons, ho, a3]; rfl, by rw [e1]; simpa using a4⟩
theorem c_trace_Answer (op : Int) (es : List Ev) (hl : es.length ≤ 1000000) (hf : ∀ e ∈ es, e.fits) : Pure Pr 7 [I op, .list 33 (es.map Ev.d)] (.tup [(ansE op es).d, .bool (ansB op es)]) := by
  have h := ans_rel op es
  unfold ansE ansB
  cases hi : es.findIdx? (isAns op) with
  | none =>
    rw [hi] at h
    rw [h.1]
    exact c_trace_Answer_none op es hl h.2
  | some i =>
    rw [hi] at h
    obtain ⟨j, e, a1, a2, a3, a4⟩ := h
    rw [a2]
    exact c_trace_Answer_some op es hl e (hf e (List.mem_of_getElem? a1)) j a3 a4
theorem ans_at {op : Int} {es : List Ev} (h : ansB op es = true) : ∃ (i : Nat) (e : Ev), fI op es = (i : Int) ∧ es[i]? = some e ∧ ansE op es = { e with c := Ct.join ct0 e.c } := by
  have hr := ans_rel op es
  unfold fI ansE
  unfold ansB at h
  cases hi : es.findIdx? (isAns op) with
  | none => rw [hi] at hr; rw [hr.1] at h; cases h
  | some i =>
    rw [hi] at hr
    obtain ⟨j, e, a1, a2, a3, a4⟩ := hr
    exact ⟨i, e, rfl, a1, by rw [a2]⟩
theorem ans_no {op : Int} {es : List Ev} (h : ansB op es = false) : fI op es = -1 := by
  have hr := ans_rel op es
  unfold fI
  unfold ansB at h
  cases hi : es.findIdx? (isAns op) with
  | none => rfl
  | some i =>
    rw [hi] at hr
    obtain ⟨j, e, a1, a2, a3, a4⟩ := hr
    rw [a2] at h; cases h
theorem ans_small {op : Int} {es : List Ev} (ht : ∀ e ∈ es, e.tame = true) (h : ansB op es = true) : (ansE op es).small := by
  obtain ⟨i, e, h1, h2, h3⟩ := ans_at h
  have := tame_small (ht e (List.mem_of_getElem? h2))
  rw [h3]; exact ⟨this.m, this.q, this.r, this.rs⟩
theorem ans_lt {op : Int} {es : List Ev} (h : ansB op es = true) : fI op es = ((fI op es).toNat : Int) ∧ (fI op es).toNat < es.length := by
  obtain ⟨i, e, h1, h2, h3⟩ := ans_at h
  rw [h1]; exact ⟨rfl, (List.getElem?_eq_some_iff.1 h2).1⟩
theorem ans_small' {op : Int} {es : List Ev} (ht : ∀ e ∈ es, e.tame = true) (h : ansB op es = true) : (es.getD (fI op es).toNat Ev.zero).small := by
  obtain ⟨i, e, h1, h2, h3⟩ := ans_at h
  rw [h1, List.getD_eq_getElem?_getD, Int.toNat_natCast, h2]
  exact tame_small (ht e (List.mem_of_getElem? h2))
theorem ans_fin (op : Int) (es : List Ev) : ((ansB op es != decide (0 ≤ fI op es)) || (ansB op es && !sEq (ansE op es).line (es.getD (fI op es).toNat Ev.zero).line)) = false := by
  cases h : ansB op es with
  | false => rw [ans_no h]; rfl
  | true =>
    obtain ⟨i, e, h1, h2, h3⟩ := ans_at h
    rw [h1, List.getD_eq_getElem?_getD, Int.toNat_natCast, h2, h3]
    have : sEq ({ e with c := Ct.join ct0 e.c } : Ev).line e.line = true := sEq_iff.2 rfl
    simp [this]
theorem gand {a b : Bool} (h : (a && (b == true)) = true) : b = true := by cases a <;> cases b <;> simp_all
theorem pl_fin (kd : Int) (es : List Ev) : (sameL (fun x y => x == y) (plF kd 0 es) (plF kd 0 es) && true) = true := by simp [sameL_refl]

set_option maxHeartbeats 4000000 in
set_option maxRecDepth 20000 in
theorem c_cenotaphlaw30_TraceLists (es : List Ev) (kd op : Int) (hok : ∀ e ∈ es, e.okB) : Pure Pr 3 [.list 33 (es.map Ev.d), I kd, I op] (.bool true) := by
  refine pure_of Tryz.func3 (by kernel_rfl) rfl Tryz.ntmps3 (by simp) fun w μ => ?_
  refine ok_seq ?_
  refine ok_region rfl ?_
  refine k (asg gb) ?_
  refine ok_end (ok_then ?_)
  refine ok_seq ?_
  refine ok_seq ?_
  refine ok_region rfl ?_
  refine k (mv (g rfl)) ?_
  refine k (ln (g rfl) e22) ?_
  refine k (bn (g rfl) gi rfl) ?_
  refine ok_end (ok_then ?_)
  refine ok_cond (g rfl) (fun h1 => ?_) (fun h1 => ?_)
  · refine ok_seq ?_
    refine ok_region rfl ?_
    refine k (asg gb) ?_
    refine ok_end (ok_then ?_)
    exact ok_ret (ok_then_ret (ret_tmp rfl rfl rfl))
  · have hl50 : es.length ≤ 50 := by
      have := of_decide_eq_false h1
      rw [List.length_map] at this
      omega
    refine ok_skip (ok_then ?_)
    refine ok_seq ?_
    refine ok_region rfl ?_
    refine k (asg gN) ?_
    refine ok_end (ok_then ?_)
    refine ok_seq ?_
    refine ok_region rfl ?_
    refine k (asg gi) ?_
    refine ok_end (ok_then ?_)
    refine ok_seq ?_
    refine ok_seq ?_
    refine ok_region rfl ?_
    refine k (asg gi) ?_
    refine ok_end (ok_then ?_)
    refine ok_block ?_
    refine ok_promote 7 3 1 (n := 0) rfl rfl ?_
    refine ok_loop (ι := { i : Nat // i ≤ es.length ∧ ∀ e ∈ es.take i, e.tame = true }) 1 (fun i => es.length - i.1) (fun i => (upd 7 (.row 0) (upd 8 (.d (I (fI op (es.take i.1)))) (upd 9 (.d (.int .i64 (i.1 : Nat))) (keepB 1 [0, 1, 2] _))))) (fun i => [.row 3 1 ((plF kd 0 (es.take i.1)).map I)]) ⟨0, Nat.zero_le _, fun e he => by simp at he⟩ (le_upd rfl (le_upd (by rw [show fI op (es.take 0) = -1 from rfl]; rfl) (le_upd rfl le_keep_self))) (eb_upd rfl (eb_upd rfl (eb_upd rfl eb_keep))) rfl rfl rfl ?_
    rintro ⟨q, hk⟩
    refine ok_seq ?_
    refine ok_seq ?_
    refine ok_region rfl ?_
    refine k (mv (g rfl)) ?_
    refine k (mv (g rfl)) ?_
    refine k (ln (g rfl) e22) ?_
    refine k (bn (g rfl) (g rfl) rfl) ?_
    refine ok_end (ok_then ?_)
    refine ok_cond (g rfl) (fun h2 => ?_) (fun h2 => ?_)
    · have hq : q < es.length := by simpa using h2
      have hpl : (plF kd 0 (es.take q)).length ≤ 50 := Nat.le_trans (plF_le _ _ _) (by simp; omega)
      refine ok_skip (ok_then ?_)
      refine ok_seq ?_
      refine ok_block ?_
      refine ok_seq ?_
      refine ok_seq ?_
      refine ok_region rfl ?_
      refine k (mv (g rfl)) ?_
      refine k (mv (g rfl)) ?_
      refine k (ixm (g rfl) (g rfl) e22 hq) ?_
      refine k (lR (g rfl) t39 (Nat.le_of_ble_eq_true rfl)) ?_
      refine k (cl (a1 (g rfl) rfl a0) (c_cenotaphlaw30_great es[q] (hok es[q] (List.getElem_mem hq)).rows)) ?_
      refine k (mv (g rfl)) ?_
      refine kg rfl rfl rfl (fun hg => mv (g rfl)) ?_
      refine kg rfl rfl rfl (fun hg => mv (g rfl)) ?_
      refine kg rfl rfl rfl (fun hg => ixm (go rfl hg) (go rfl hg) e22 hq) ?_
      refine kg rfl rfl rfl (fun hg => fr (go rfl hg) f39_17) ?_
      refine kg rfl rfl rfl (fun hg => lr (go rfl hg) t30 rfl) ?_
      refine kg rfl rfl rfl (fun hg => ln (go rfl hg) e30) ?_
      refine kg rfl rfl rfl (fun hg => bn (go rfl hg) gi rfl) ?_
      refine k (orr (g rfl) (fun h => (go rfl (by rw [h]; rfl)))) ?_
      refine k (mv (g rfl)) ?_
      refine kg rfl rfl rfl (fun hg => mv (g rfl)) ?_
      refine kg rfl rfl rfl (fun hg => mv (g rfl)) ?_
      refine kg rfl rfl rfl (fun hg => ixm (go rfl hg) (go rfl hg) e22 hq) ?_
      refine kg rfl rfl rfl (fun hg => fr (go rfl hg) f39_5) ?_
      refine kg rfl rfl rfl (fun hg => fr (go rfl hg) f35_0) ?_
      refine kg rfl rfl rfl (fun hg => lr (go rfl hg) t33 rfl) ?_
      refine kg rfl rfl rfl (fun hg => cl (a1 (go rfl hg) rfl (a1 gi rfl a0)) (show Pure Pr 5 [mus (es[q]'hq).c.cells, D.int IntKind.i64 5] (D.bool (greatL (es[q]'hq).c.cells 5)) from c_cenotaphlaw08_Great (es[q]'hq).c.cells 5 (hok (es[q]'hq) (List.getElem_mem hq)).cells)) ?_
      refine k (orr (g rfl) (fun h => (go rfl (by rw [h]; rfl)))) ?_
      refine k (mv (g rfl)) ?_
      refine kg rfl rfl rfl (fun hg => mv (g rfl)) ?_
      refine kg rfl rfl rfl (fun hg => mv (g rfl)) ?_
      refine kg rfl rfl rfl (fun hg => ixm (go rfl hg) (go rfl hg) e22 hq) ?_
      refine kg rfl rfl rfl (fun hg => fr (go rfl hg) f39_5) ?_
      refine kg rfl rfl rfl (fun hg => fr (go rfl hg) f35_1) ?_
      refine kg rfl rfl rfl (fun hg => lr (go rfl hg) t33 rfl) ?_
      refine kg rfl rfl rfl (fun hg => cl (a1 (go rfl hg) rfl (a1 gi rfl a0)) (show Pure Pr 5 [mus (es[q]'hq).c.wipes, D.int IntKind.i64 5] (D.bool (greatL (es[q]'hq).c.wipes 5)) from c_cenotaphlaw08_Great (es[q]'hq).c.wipes 5 (hok (es[q]'hq) (List.getElem_mem hq)).wipes)) ?_
      refine k (orr (g rfl) (fun h => (go rfl (by rw [h]; rfl)))) ?_
      refine k (mv (g rfl)) ?_
      refine kg rfl rfl rfl (fun hg => mv (g rfl)) ?_
      refine kg rfl rfl rfl (fun hg => mv (g rfl)) ?_
      refine kg rfl rfl rfl (fun hg => ixm (go rfl hg) (go rfl hg) e22 hq) ?_
      refine kg rfl rfl rfl (fun hg => fr (go rfl hg) f39_5) ?_
      refine kg rfl rfl rfl (fun hg => fr (go rfl hg) f35_2) ?_
      refine kg rfl rfl rfl (fun hg => lr (go rfl hg) t33 rfl) ?_
      refine kg rfl rfl rfl (fun hg => cl (a1 (go rfl hg) rfl (a1 gi rfl a0)) (show Pure Pr 5 [mus (es[q]'hq).c.sibs, D.int IntKind.i64 5] (D.bool (greatL (es[q]'hq).c.sibs 5)) from c_cenotaphlaw08_Great (es[q]'hq).c.sibs 5 (hok (es[q]'hq) (List.getElem_mem hq)).sibs)) ?_
      refine k (orr (g rfl) (fun h => (go rfl (by rw [h]; rfl)))) ?_
      refine ok_end (ok_then ?_)
      refine ok_cond (g rfl) (fun h3 => ?_) (fun h3 => ?_)
      · refine ok_seq ?_
        refine ok_region rfl ?_
        refine k (asg gb) ?_
        refine ok_end (ok_then ?_)
        exact ok_ret (ok_then_ret (ok_inBlock_ret (ok_then_ret (ok_then_ret (ok_inBlock_ret (ok_then_ret (ret_tmp rfl rfl rfl)))))))
      · have htm : (es[q]).tame = true := by unfold Ev.tame; rw [show ((((es[q].great || decide (50 < (es[q].ctx.length : Int))) || greatL es[q].c.cells 5) || greatL es[q].c.wipes 5) || greatL es[q].c.sibs 5) = false by have h33 := h3; rw [List.length_map] at h33; exact h33]; rfl
        have hoq := hok es[q] (List.getElem_mem hq)
        have hnx : ∀ e ∈ es.take (q + 1), e.tame = true := fun e he => by
          rw [List.take_succ_eq_append_getElem hq] at he
          rcases List.mem_append.1 he with he | he
          · exact hk.2 e he
          · rw [List.mem_singleton.1 he]; exact htm
        refine ok_skip (ok_then ?_)
        refine ok_seq ?_
        refine ok_seq ?_
        refine ok_region rfl ?_
        refine k (mv (g rfl)) ?_
        refine k (mv (g rfl)) ?_
        refine k (ixm (g rfl) (g rfl) e22 hq) ?_
        refine k (fr (g rfl) f39_0) ?_
        refine k (lr (g rfl) t23 rfl) ?_
        refine k (mv (g rfl)) ?_
        refine k (bn (g rfl) (g rfl) rfl) ?_
        refine ok_end (ok_then ?_)
        refine ok_cond (g rfl) (fun h4 => ?_) (fun h4 => ?_)
        · refine ok_region rfl ?_
          refine k (mv (g rfl)) ?_
          refine k (mv (g rfl)) ?_
          refine k (mk e24 z3 (p1 (g rfl) rfl p0) rfl rfl rfl rfl rfl) ?_
          refine ok_append (g rfl) (g rfl) ap24 rfl (fun _ => rfl) (by simp only [List.length_map, List.length_cons, List.length_nil]; show ((plF kd 0 (es.take q)).length + (0 + 1)) * 8 ≤ _; omega) (by simp only [List.length_map, List.length_cons, List.length_nil]; show (plF kd 0 (es.take q)).length + (0 + 1) ≤ _; omega) rfl rfl ?_
          refine k (asg (g rfl)) ?_
          refine ok_end (ok_then ?_)
          refine ok_seq ?_
          refine ok_seq ?_
          refine ok_region rfl ?_
          refine k (mv (g rfl)) ?_
          refine k (bn (g rfl) gi rfl) ?_
          refine k (mv (g rfl)) ?_
          refine kg rfl rfl rfl (fun hg => mv (g rfl)) ?_
          refine kg rfl rfl rfl (fun hg => mv (g rfl)) ?_
          refine kg rfl rfl rfl (fun hg => ixm (go rfl hg) (go rfl hg) e22 hq) ?_
          refine kg rfl rfl rfl (fun hg => fr (go rfl hg) f39_0) ?_
          refine kg rfl rfl rfl (fun hg => lr (go rfl hg) t23 rfl) ?_
          refine kg rfl rfl rfl (fun hg => bn (go rfl hg) gi rfl) ?_
          refine k (an (g rfl) (fun h => (go rfl (by rw [h]; rfl)))) ?_
          refine k (mv (g rfl)) ?_
          refine kg rfl rfl rfl (fun hg => mv (g rfl)) ?_
          refine kg rfl rfl rfl (fun hg => mv (g rfl)) ?_
          refine kg rfl rfl rfl (fun hg => ixm (go rfl hg) (go rfl hg) e22 hq) ?_
          refine kg rfl rfl rfl (fun hg => fr (go rfl hg) f39_3) ?_
          refine kg rfl rfl rfl (fun hg => lr (go rfl hg) t3 rfl) ?_
          refine kg rfl rfl rfl (fun hg => mv (g rfl)) ?_
          refine kg rfl rfl rfl (fun hg => bn (go rfl hg) (go rfl hg) rfl) ?_
          refine k (an (g rfl) (fun h => (go rfl (by rw [h]; rfl)))) ?_
          refine ok_end (ok_then ?_)
          refine ok_cond (g rfl) (fun h5 => ?_) (fun h5 => ?_)
          · refine ok_region rfl ?_
            refine k (mv (g rfl)) ?_
            refine k (asg (g rfl)) ?_
            refine ok_end (ok_then ?_)
            refine ok_seq ?_
            refine ok_region rfl ?_
            refine k (mv (g rfl)) ?_
            refine k (mv (g rfl)) ?_
            refine k (ixm (g rfl) (g rfl) e22 hq) ?_
            refine k (lR (g rfl) t39 (Nat.le_of_ble_eq_true rfl)) ?_
            refine k (cl (a1 (g rfl) rfl a0) (c_cenotaphlaw30_copied es[q] (tame_small htm) (tame_fits htm hoq) (tame_parts htm) (join_of _))) ?_
            refine k (nt (g rfl)) ?_
            refine ok_end (ok_then ?_)
            refine ok_cond (g rfl) (fun h6 => ?_) (fun h6 => ?_)
            · exfalso
              cases h6
            · refine ok_skip (ok_inBlock_normal (ok_then ?_))
              refine ok_region rfl ?_
              refine k (mv (g rfl)) ?_
              refine k (bn (g rfl) gi rfl) ?_
              refine k (asg (g rfl)) ?_
              exact ok_end (ok_round 1 ⟨q + 1, hq, hnx⟩ (by show es.length - (q + 1) < es.length - q; omega) (le_upd rfl (le_upd (congrArg (fun z => some (AV.d (I z))) (fI_hit hq h5)) (le_upd (winc (k := q) (by omega)) (le_keep ⟨rfl, rfl, rfl, trivial⟩)))) (eb_upd rfl (eb_upd rfl (eb_upd rfl eb_keep))) (congrArg (fun z => [AO.row 3 1 z]) (pl_hit hq h4)) rfl rfl)
          · refine ok_skip (ok_then ?_)
            refine ok_seq ?_
            refine ok_region rfl ?_
            refine k (mv (g rfl)) ?_
            refine k (mv (g rfl)) ?_
            refine k (ixm (g rfl) (g rfl) e22 hq) ?_
            refine k (lR (g rfl) t39 (Nat.le_of_ble_eq_true rfl)) ?_
            refine k (cl (a1 (g rfl) rfl a0) (c_cenotaphlaw30_copied es[q] (tame_small htm) (tame_fits htm hoq) (tame_parts htm) (join_of _))) ?_
            refine k (nt (g rfl)) ?_
            refine ok_end (ok_then ?_)
            refine ok_cond (g rfl) (fun h7 => ?_) (fun h7 => ?_)
            · exfalso
              cases h7
            · refine ok_skip (ok_inBlock_normal (ok_then ?_))
              refine ok_region rfl ?_
              refine k (mv (g rfl)) ?_
              refine k (bn (g rfl) gi rfl) ?_
              refine k (asg (g rfl)) ?_
              exact ok_end (ok_round 1 ⟨q + 1, hq, hnx⟩ (by show es.length - (q + 1) < es.length - q; omega) (le_upd rfl (le_upd (congrArg (fun z => some (AV.d (I z))) (fI_miss hq h5)) (le_upd (winc (k := q) (by omega)) (le_keep ⟨rfl, rfl, rfl, trivial⟩)))) (eb_upd rfl (eb_upd rfl (eb_upd rfl eb_keep))) (congrArg (fun z => [AO.row 3 1 z]) (pl_hit hq h4)) rfl rfl)
        · refine ok_skip (ok_then ?_)
          refine ok_seq ?_
          refine ok_seq ?_
          refine ok_region rfl ?_
          refine k (mv (g rfl)) ?_
          refine k (bn (g rfl) gi rfl) ?_
          refine k (mv (g rfl)) ?_
          refine kg rfl rfl rfl (fun hg => mv (g rfl)) ?_
          refine kg rfl rfl rfl (fun hg => mv (g rfl)) ?_
          refine kg rfl rfl rfl (fun hg => ixm (go rfl hg) (go rfl hg) e22 hq) ?_
          refine kg rfl rfl rfl (fun hg => fr (go rfl hg) f39_0) ?_
          refine kg rfl rfl rfl (fun hg => lr (go rfl hg) t23 rfl) ?_
          refine kg rfl rfl rfl (fun hg => bn (go rfl hg) gi rfl) ?_
          refine k (an (g rfl) (fun h => (go rfl (by rw [h]; rfl)))) ?_
          refine k (mv (g rfl)) ?_
          refine kg rfl rfl rfl (fun hg => mv (g rfl)) ?_
          refine kg rfl rfl rfl (fun hg => mv (g rfl)) ?_
          refine kg rfl rfl rfl (fun hg => ixm (go rfl hg) (go rfl hg) e22 hq) ?_
          refine kg rfl rfl rfl (fun hg => fr (go rfl hg) f39_3) ?_
          refine kg rfl rfl rfl (fun hg => lr (go rfl hg) t3 rfl) ?_
          refine kg rfl rfl rfl (fun hg => mv (g rfl)) ?_
          refine kg rfl rfl rfl (fun hg => bn (go rfl hg) (go rfl hg) rfl) ?_
          refine k (an (g rfl) (fun h => (go rfl (by rw [h]; rfl)))) ?_
          refine ok_end (ok_then ?_)
          refine ok_cond (g rfl) (fun h8 => ?_) (fun h8 => ?_)
          · refine ok_region rfl ?_
            refine k (mv (g rfl)) ?_
            refine k (asg (g rfl)) ?_
            refine ok_end (ok_then ?_)
            refine ok_seq ?_
            refine ok_region rfl ?_
            refine k (mv (g rfl)) ?_
            refine k (mv (g rfl)) ?_
            refine k (ixm (g rfl) (g rfl) e22 hq) ?_
            refine k (lR (g rfl) t39 (Nat.le_of_ble_eq_true rfl)) ?_
            refine k (cl (a1 (g rfl) rfl a0) (c_cenotaphlaw30_copied es[q] (tame_small htm) (tame_fits htm hoq) (tame_parts htm) (join_of _))) ?_
            refine k (nt (g rfl)) ?_
            refine ok_end (ok_then ?_)
            refine ok_cond (g rfl) (fun h9 => ?_) (fun h9 => ?_)
            · exfalso
              cases h9
            · refine ok_skip (ok_inBlock_normal (ok_then ?_))
              refine ok_region rfl ?_
              refine k (mv (g rfl)) ?_
              refine k (bn (g rfl) gi rfl) ?_
              refine k (asg (g rfl)) ?_
              exact ok_end (ok_round 1 ⟨q + 1, hq, hnx⟩ (by show es.length - (q + 1) < es.length - q; omega) (le_upd rfl (le_upd (congrArg (fun z => some (AV.d (I z))) (fI_hit hq h8)) (le_upd (winc (k := q) (by omega)) (le_keep ⟨rfl, rfl, rfl, trivial⟩)))) (eb_upd rfl (eb_upd rfl (eb_upd rfl eb_keep))) (congrArg (fun z => [AO.row 3 1 z]) (pl_miss hq h4)) rfl rfl)
          · refine ok_skip (ok_then ?_)
            refine ok_seq ?_
            refine ok_region rfl ?_
            refine k (mv (g rfl)) ?_
            refine k (mv (g rfl)) ?_
            refine k (ixm (g rfl) (g rfl) e22 hq) ?_
            refine k (lR (g rfl) t39 (Nat.le_of_ble_eq_true rfl)) ?_
            refine k (cl (a1 (g rfl) rfl a0) (c_cenotaphlaw30_copied es[q] (tame_small htm) (tame_fits htm hoq) (tame_parts htm) (join_of _))) ?_
            refine k (nt (g rfl)) ?_
            refine ok_end (ok_then ?_)
            refine ok_cond (g rfl) (fun h10 => ?_) (fun h10 => ?_)
            · exfalso
              cases h10
            · refine ok_skip (ok_inBlock_normal (ok_then ?_))
              refine ok_region rfl ?_
              refine k (mv (g rfl)) ?_
              refine k (bn (g rfl) gi rfl) ?_
              refine k (asg (g rfl)) ?_
              exact ok_end (ok_round 1 ⟨q + 1, hq, hnx⟩ (by show es.length - (q + 1) < es.length - q; omega) (le_upd rfl (le_upd (congrArg (fun z => some (AV.d (I z))) (fI_miss hq h8)) (le_upd (winc (k := q) (by omega)) (le_keep ⟨rfl, rfl, rfl, trivial⟩)))) (eb_upd rfl (eb_upd rfl (eb_upd rfl eb_keep))) (congrArg (fun z => [AO.row 3 1 z]) (pl_miss hq h4)) rfl rfl)
    · have hq2 : es.length ≤ q := by simpa using h2
      have htk : es.take q = es := List.take_of_length_le hq2
      have htm : ∀ e ∈ es, e.tame = true := fun e he => hk.2 e (by rw [htk]; exact he)
      have hfit : ∀ e ∈ es, e.fits := fun e he => tame_fits (htm e he) (hok e he)
      have htkf : fI op (es.take q) = fI op es := by rw [htk]
      have hpl2 : (plF kd 0 es).length ≤ 50 := Nat.le_trans (plF_le _ _ _) hl50
      refine ok_exit (ok_then_exit (ok_then_exit (ok_inBlock_exit (ok_then ?_))))
      refine ok_seq ?_
      refine ok_region rfl ?_
      refine k (mv (g rfl)) ?_
      refine k (mv (g rfl)) ?_
      refine k (cl (a1 (g rfl) rfl (a1 (g rfl) rfl a0)) (c_trace_Answer op es (by omega) hfit)) ?_
      refine k (mv (g rfl)) ?_
      refine k (ex (g rfl) rfl) ?_
      refine k (ex (g rfl) rfl) ?_
      refine kal (n := 1) zo39 rfl ?_
      refine kst (g rfl) (g rfl) t39 rfl rfl rfl rfl ?_
      refine k (asg (g rfl)) ?_
      refine ok_end (ok_then ?_)
      refine ok_seq ?_
      refine ok_seq ?_
      refine ok_draw [105, 106, 107, 108, 109, 110, 111, 112, 113, 114, 115, 116, 117, 118, 119, 120, 121] rfl (by kernel_rfl) ?_
      refine dr (mv (g rfl)) ?_
      refine dr (mv (g rfl)) ?_
      refine dr (bn (g rfl) gi rfl) ?_
      refine dr (bbn bo4 (g rfl) (g rfl)) ?_
      refine dr (mv (g rfl)) ?_
      refine dg rfl rfl rfl (fun hg => mv (g rfl)) ?_
      refine dg rfl rfl rfl (fun hg => mv (go rfl hg)) ?_
      refine dg rfl rfl rfl (fun hg => lB (g rfl) t39 rfl rfl) ?_
      refine dg rfl rfl rfl (fun hg => cl (a1 (go rfl hg) rfl a0) (c_trace_Line (ansE op es) (ans_small htm (gand hg)))) ?_
      refine dg rfl rfl rfl (fun hg => mv (g rfl)) ?_
      refine dg rfl rfl rfl (fun hg => mv (g rfl)) ?_
      refine dg rfl rfl rfl (fun hg => ixd Ev.zero (go rfl hg) (go rfl hg) e22 (by show fI op (es.take q) = _; rw [htkf]; exact (ans_lt (gand hg)).1) (ans_lt (gand hg)).2) ?_
      refine dg rfl rfl rfl (fun hg => lR (go rfl hg) t39 (Nat.le_of_ble_eq_true rfl)) ?_
      refine dg rfl rfl rfl (fun hg => cl (a1 (go rfl hg) rfl a0) (c_trace_Line (es.getD (fI op es).toNat Ev.zero) (ans_small' htm (gand hg)))) ?_
      refine dg rfl rfl rfl (fun hg => bn (go rfl hg) (go rfl hg) rfl) ?_
      refine dg rfl rfl rfl (fun hg => an (go rfl hg) (fun h => (go rfl (by rw [hg, h]; rfl)))) ?_
      refine dr (orr (g rfl) (fun h => (go rfl (by rw [h]; rfl)))) ?_
      refine draw_end mixed (ok_then ?_)
      refine ok_cond (g rfl) (fun h11 => ?_) (fun h11 => ?_)
      · exfalso
        have h12 := ans_fin op es
        rw [← htkf] at h12
        have h13 : (_ || _) = true := h11
        rw [show fI op (es.take q) = fI op es from htkf] at h12
        exact absurd h11 (by show ¬ ((ansB op es != decide (0 ≤ fI op (es.take q))) || (ansB op es && !sEq (ansE op es).line (es.getD (fI op es).toNat Ev.zero).line)) = true; rw [htkf, h12]; decide)
      · refine ok_skip (ok_then ?_)
        refine ok_seq ?_
        refine ok_region rfl ?_
        refine k (mv (g rfl)) ?_
        refine k (mv (g rfl)) ?_
        refine k (cl (a1 (g rfl) rfl (a1 (g rfl) rfl a0)) (c_cenotaphlaw30_places kd es (by omega))) ?_
        refine k (mv (g rfl)) ?_
        refine k (clL (n1 (g rfl) rfl (nr (g rfl) rfl (map_plain (fun _ => rfl) _) n0)) (c_slices_Equal_sint_int (plF kd 0 es) (plF kd 0 (es.take q)) (by omega)) rfl) ?_
        refine k (mv (g rfl)) ?_
        refine kg rfl rfl rfl (fun hg => cl a0 (c_cenotaphlaw30_alive ())) ?_
        refine k (an (g rfl) (fun h => (go rfl (by rw [h]; rfl)))) ?_
        refine k (asg (g rfl)) ?_
        refine ok_end (ok_then ?_)
        exact ok_ret (ret_tmp rfl rfl (congrArg (fun z => some (D.bool z)) (by rw [htk]; exact pl_fin kd es)))
end Go.Aw
