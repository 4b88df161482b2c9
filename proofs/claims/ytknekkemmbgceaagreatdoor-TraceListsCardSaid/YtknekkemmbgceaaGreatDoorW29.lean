/- Contracts of functions of the program, walked: c_cenotaphlaw30_copied. By an AI agent. -/
import Derived.Test.YtknekkemmbgceaaGreatDoorW28
import Derived.Test.YtknekkemmbgceaaGreatDoorSp
set_option linter.all false
/-! W29 -/
namespace Go.Aw
open Go.RowKit Go.Proofs
private theorem ap33 : AppF Pr 33 32 10 120 := appF_out (by kernel_rfl)
private theorem e24 : elemF Pr 24 = some (3, 1) := by kernel_rfl
private theorem e33 : elemF Pr 33 = some (32, 10) := by kernel_rfl
private theorem e37 : elemF Pr 37 = some (49, 5) := by kernel_rfl
private theorem f35_0 : fldF Pr 35 0 = some (0, 1, false) := by kernel_rfl
private theorem f35_1 : fldF Pr 35 1 = some (1, 1, false) := by kernel_rfl
private theorem f35_2 : fldF Pr 35 2 = some (2, 1, false) := by kernel_rfl
private theorem f39_0 : fldF Pr 39 0 = some (0, 1, false) := by kernel_rfl
private theorem f39_1 : fldF Pr 39 1 = some (1, 1, false) := by kernel_rfl
private theorem f39_10 : fldF Pr 39 10 = some (25, 1, false) := by kernel_rfl
private theorem f39_11 : fldF Pr 39 11 = some (26, 1, false) := by kernel_rfl
private theorem f39_16 : fldF Pr 39 16 = some (31, 1, false) := by kernel_rfl
private theorem f39_17 : fldF Pr 39 17 = some (32, 1, false) := by kernel_rfl
private theorem f39_3 : fldF Pr 39 3 = some (3, 1, false) := by kernel_rfl
private theorem f39_4 : fldF Pr 39 4 = some (4, 10, true) := by kernel_rfl
private theorem f39_5 : fldF Pr 39 5 = some (14, 3, true) := by kernel_rfl
private theorem f39_6 : fldF Pr 39 6 = some (17, 3, true) := by kernel_rfl
private theorem f49_1 : fldF Pr 49 1 = some (1, 1, false) := by kernel_rfl
private theorem fq29 : EqF Pr 29 3 [.int .i64, .int .i64, .int .i64] := ⟨by kernel_rfl, by kernel_rfl, by kernel_rfl⟩
private theorem t23 : tyF Pr 23 = some (1, false) := by kernel_rfl
private theorem t24 : tyF Pr 24 = some (1, false) := by kernel_rfl
private theorem t29 : tyF Pr 29 = some (3, true) := by kernel_rfl
private theorem t3 : tyF Pr 3 = some (1, false) := by kernel_rfl
private theorem t30 : tyF Pr 30 = some (1, false) := by kernel_rfl
private theorem t32 : tyF Pr 32 = some (10, true) := by kernel_rfl
private theorem t33 : tyF Pr 33 = some (1, false) := by kernel_rfl
private theorem t35 : tyF Pr 35 = some (3, true) := by kernel_rfl
private theorem t37 : tyF Pr 37 = some (1, false) := by kernel_rfl
private theorem t39 : tyF Pr 39 = some (33, true) := by kernel_rfl
private theorem t9 : tyF Pr 9 = some (1, false) := by kernel_rfl
private theorem z32 : ZeroSz Pr 32 10 := ⟨.agg #[.int .i64 0, .int .i64 0, .string ⟨#[]⟩, .string ⟨#[]⟩, .string ⟨#[]⟩, .int .i64 0, .int .i64 0, .int .i64 0, .int .i64 0, .slice none 0 0], fun _ => by kernel_rfl, rfl⟩
private theorem zo39 : ZeroOk Pr 39 [.d (.int .i64 0), .d (.int .i64 0), .d (.int .i64 0), .d (.int .i64 0), .d (.int .i64 0), .d (.int .i64 0), .d (.str ⟨#[]⟩), .d (.str ⟨#[]⟩), .d (.str ⟨#[]⟩), .d (.int .i64 0), .d (.int .i64 0), .d (.int .i64 0), .d (.int .i64 0), .d (.list 3 []), .d (.list 10 []), .d (.list 10 []), .d (.list 10 []), .d (.int .i64 0), .d (.int .i64 0), .d (.int .i64 0), .d (.int .i64 0), .d (.int .i64 0), .d (.int .i64 0), .d (.bool false), .d (.int .i64 0), .d (.list 1 []), .d (.list 1 []), .d (.int .i64 0), .d (.int .i64 0), .d (.str ⟨#[]⟩), .d (.str ⟨#[]⟩), .d (.list 5 []), .d (.list 3 [])] := ⟨.agg #[.int .i64 0, .int .i64 0, .int .i64 0, .int .i64 0, .int .i64 0, .int .i64 0, .string ⟨#[]⟩, .string ⟨#[]⟩, .string ⟨#[]⟩, .int .i64 0, .int .i64 0, .int .i64 0, .int .i64 0, .slice none 0 0, .slice none 0 0, .slice none 0 0, .slice none 0 0, .int .i64 0, .int .i64 0, .int .i64 0, .int .i64 0, .int .i64 0, .int .i64 0, .bool false, .int .i64 0, .slice none 0 0, .slice none 0 0, .int .i64 0, .int .i64 0, .string ⟨#[]⟩, .string ⟨#[]⟩, .slice none 0 0, .slice none 0 0], fun _ => by kernel_rfl, fun μ ρ => (rcc zi (rcc zi (rcc zi (rcc zi (rcc zi (rcc zi (rcc zs (rcc zs (rcc zs (rcc zi (rcc zi (rcc zi (rcc zi (rcc zl (rcc zl (rcc zl (rcc zl (rcc zi (rcc zi (rcc zi (rcc zi (rcc zi (rcc zi (rcc zb (rcc zi (rcc zl (rcc zl (rcc zi (rcc zi (rcc zs (rcc zs (rcc zl (rcc zl rcn))))))))))))))))))))))))))))))))), by simp [Value.cells, Value.oneCell']⟩
def Ev.wc (e : Ev) (c : Ct) : Ev := { e with c := c }
def Ct.parts (c : Ct) : List Mu := c.cells ++ c.wipes ++ c.sibs
theorem app3 {α β : Type} (f : α → β) (a b c : List α) : (a.map f ++ b.map f) ++ c.map f = (a ++ b ++ c).map f := by simp
def incQ (q : List Int) (i : Nat) : List Int := (q.take i).map (fun x => IntKind.i64.wrap (x + 1)) ++ q.drop i
theorem incQ_len (q : List Int) (i : Nat) : (incQ q i).length = q.length := by simp [incQ]; omega
theorem incQ_get {q : List Int} {i : Nat} (h : i < q.length) : ((incQ q i).map I)[i]? = some (I q[i]) := by
  have : (incQ q i)[i]? = some q[i] := by
    unfold incQ
    rw [List.getElem?_append_right (by simp; omega)]
    simp [show i - min i q.length = 0 by omega, h]
  rw [List.getElem?_map, this]; rfl
theorem upd_at {α : Type} {f : α → α} {l : List α} {i : Nat} (h : i < l.length) : ((l.take i).map f ++ l.drop i).set i (f l[i]) = (l.take (i + 1)).map f ++ l.drop (i + 1) := by
  have hl : ((l.take i).map f).length = i := by simp; omega
  rw [List.set_append_right _ _ (by omega), hl, Nat.sub_self, List.drop_eq_getElem_cons h, List.set_cons_zero, List.take_succ_eq_append_getElem h, List.map_append]
  simp
theorem incQ_step {q : List Int} {i : Nat} (h : i < q.length) : ((incQ q i).map I).set i (I (IntKind.i64.wrap (q[i] + 1))) = (incQ q (i + 1)).map I := by
  rw [← List.map_set]; congr 1; exact upd_at (f := fun x => IntKind.i64.wrap (x + 1)) h
def Ro.oth (r : Ro) : Ro := { r with val := ⟨#[111, 116, 104, 101, 114]⟩ }
def othR (l : List Ro) (i : Nat) : List Ro := (l.take i).map Ro.oth ++ l.drop i
theorem othR_len (l : List Ro) (i : Nat) : (othR l i).length = l.length := by simp [othR]; omega
theorem othR_get {l : List Ro} {i : Nat} (h : i < l.length) : ((othR l i).map Ro.d)[i]? = some (l[i]).d := by
  have : (othR l i)[i]? = some l[i] := by
    unfold othR
    rw [List.getElem?_append_right (by simp; omega)]
    simp [show i - min i l.length = 0 by omega, h]
  rw [List.getElem?_map, this]; rfl
theorem othR_step {l : List Ro} {i : Nat} (h : i < l.length) : ((othR l i).map Ro.d).set i (l[i]).oth.d = (othR l (i + 1)).map Ro.d := by
  rw [← List.map_set]; congr 1; exact upd_at (f := Ro.oth) h
theorem St.eqb_refl (s : St) : St.eqb s s = true := by simp [St.eqb]
theorem Ro.eqb_refl (r : Ro) : Ro.eqb r r = true := by simp [Ro.eqb, sEq_iff.2 rfl]

private def cL (e e1 : Ev) (q r : List D) : List AO := [.box 39 (AV.cells (.d e1.d)), .dead, .dead, .dead, .dead, .dead, .box 39 (evA e1 e1.c (.row 7) (.row 8) (.row 9) (.row 10)), .row 3 1 q, .row 3 1 (e.nos.map I), .row 49 5 r, .row 29 3 (e.ctx.map St.d), .box 39 (evA e1 e1.c (.row 7) (.row 8) (.row 9) (.row 10))]

set_option maxHeartbeats 4000000 in
set_option maxRecDepth 20000 in
theorem c_cenotaphlaw30_copied (e : Ev) (hs : e.small) (hf : e.fits) (hp : e.c.parts.length ≤ 250000) (hJ : Ct.join ct0 (Ct.of e.c.parts) = Ct.of e.c.parts) : Pure Pr 6 [e.d] (.bool true) := by
  have hpm : ∀ m ∈ e.c.parts, m.lite := fun m hm => by
    simp only [Ct.parts, List.mem_append] at hm
    exact hm.elim (fun h => h.elim (hf.cl.cells m) (hf.cl.wipes m)) (hf.cl.sibs m)
  have hpl : e.c.parts.length = e.c.cells.length + e.c.wipes.length + e.c.sibs.length := by simp [Ct.parts]; omega
  have hc1 : (Ct.of e.c.parts).le 250000 := Ct.le_mono (fold_le (ct0_le 0) (Nat.le_refl _)) (by omega)
  have hc2 : (Ct.of e.c.parts).lite := fold_lite ct0_lite hpm
  have hfit : (e.wc (Ct.of e.c.parts)).fits := ⟨hc1, hc2, hf.m, hf.q, hf.nos, hf.rows, hf.ctx⟩
  have hsm : (e.wc (Ct.of e.c.parts)).small := ⟨hs.m, hs.q, hs.r, hs.rs⟩
  have hcp := c_trace_Copy (e.wc (Ct.of e.c.parts)) hfit
  rw [show Ct.join ct0 (e.wc (Ct.of e.c.parts)).c = (e.wc (Ct.of e.c.parts)).c from hJ] at hcp
  have hq := hf.q
  have hn := hf.nos
  have hr := hf.rows
  have hx := hf.ctx
  have hmo : e.m.over.length ≤ 1000000 := hf.m
  refine pure_of Tryz.func6 (by kernel_rfl) rfl Tryz.ntmps6 (by simp) fun w μ => ?_
  refine ok_seq ?_
  refine ok_region rfl ?_
  refine kbox (n := 0) (g rfl) rfl rfl ?_
  refine k (asg gb) ?_
  refine ok_end (ok_then ?_)
  refine ok_seq ?_
  refine ok_drawF [fun L => L ++ [.row 32 10 []], fun L => L.set 1 .dead ++ [.row 32 10 (e.c.cells.map Mu.d)], fun L => L.set 2 .dead ++ [.row 32 10 (e.c.cells.map Mu.d ++ e.c.wipes.map Mu.d)], fun L => L.set 3 .dead ++ [.row 32 10 (e.c.parts.map Mu.d)], fun L => L.set 4 .dead, fun L => L.set 0 (.box 39 (AV.cells (.d (e.wc (Ct.of e.c.parts)).d)))] [7, 8, 9, 10, 11, 12, 13, 14, 15, 16, 17, 18, 19, 20, 21] [0, 4, 8, 12, 13, 15] [0, 0, 2, 6, 15, 0, 32, 96, 255, 0, 512, 1536, 4095, 8191, 16383, 32767] rfl (by kernel_rfl) ?_
  refine se 0 rfl (bsr e33 z32 p0 rfl rfl rfl rfl rfl rfl) ?_
  refine ss [0, 1] rfl rfl ⟨fb (g rfl) f39_5, fb (g rfl) f39_5, trivial⟩ ?_
  refine ss [0, 1] rfl rfl ⟨fb (g rfl) f35_0, fb (g rfl) f35_0, trivial⟩ ?_
  refine ss [0, 1] rfl rfl ⟨lb (g rfl) t33 rfl rfl, lb (g rfl) t33 rfl rfl, trivial⟩ ?_
  refine se 1 rfl (aprE (g rfl) (g rfl) ap33 rfl (fun _ => rfl) (by simp; omega) (by simp; omega) rfl rfl rfl rfl) ?_
  refine ss [0, 1, 2] rfl rfl ⟨fb (g rfl) f39_5, fb (g rfl) f39_5, fb (g rfl) f39_5, trivial⟩ ?_
  refine ss [0, 1, 2] rfl rfl ⟨fb (g rfl) f35_1, fb (g rfl) f35_1, fb (g rfl) f35_1, trivial⟩ ?_
  refine ss [0, 1, 2] rfl rfl ⟨lb (g rfl) t33 rfl rfl, lb (g rfl) t33 rfl rfl, lb (g rfl) t33 rfl rfl, trivial⟩ ?_
  refine se 2 rfl (aprE (g rfl) (g rfl) ap33 rfl (fun _ => rfl) (by simp; omega) (by simp; omega) rfl rfl rfl rfl) ?_
  refine ss [0, 1, 2, 3] rfl rfl ⟨fb (g rfl) f39_5, fb (g rfl) f39_5, fb (g rfl) f39_5, fb (g rfl) f39_5, trivial⟩ ?_
  refine ss [0, 1, 2, 3] rfl rfl ⟨fb (g rfl) f35_2, fb (g rfl) f35_2, fb (g rfl) f35_2, fb (g rfl) f35_2, trivial⟩ ?_
  refine ss [0, 1, 2, 3] rfl rfl ⟨lb (g rfl) t33 rfl rfl, lb (g rfl) t33 rfl rfl, lb (g rfl) t33 rfl rfl, lb (g rfl) t33 rfl rfl, trivial⟩ ?_
  refine se 3 rfl (aprE (g rfl) (g rfl) ap33 rfl (fun _ => rfl) (by simp; omega) (by simp; omega) rfl rfl rfl (by rw [app3]; rfl)) ?_
  refine se 4 rfl (clG (fun _ => id) (g rfl) rfl (mus_plain _) (c_state_Of e.c.parts (by omega) hpm) rfl) ?_
  refine ss [5] rfl rfl ⟨fb (g rfl) f39_5, trivial⟩ ?_
  refine se0 5 rfl (stbE (g rfl) (g rfl) t35 rfl rfl rfl rfl rfl) ?_
  refine draws_end mixed (by kernel_rfl) rfl rfl (ok_then ?_)
  refine ok_seq ?_
  refine ok_region rfl ?_
  refine k (lB (g rfl) t39 rfl rfl) ?_
  refine ks [] (s1d (g rfl) rfl s0) hcp ⟨rfl, trivial⟩ (by simp) rfl rfl ?_
  refine kal (n := 11) zo39 rfl ?_
  refine kst (g rfl) (g rfl) t39 rfl rfl rfl rfl ?_
  refine ok_end (ok_then ?_)
  refine ok_seq ?_
  refine ok_seq ?_
  refine ok_draw [24, 25, 26, 27, 28, 29, 30, 31, 32, 33, 34, 35, 36, 37, 38, 39, 40, 41, 42, 43, 44, 45, 46, 47, 48, 49, 50, 51, 52, 53, 54, 55, 56, 57, 58, 59, 60, 61, 62, 63, 64, 65, 66, 67, 68, 69, 70, 71, 72, 73, 74, 75, 76, 77, 78, 79, 80, 81, 82, 83, 84, 85, 86, 87, 88, 89, 90, 91, 92, 93, 94, 95, 96, 97, 98, 99] rfl (by kernel_rfl) ?_
  refine dr (fb (g rfl) f39_0) ?_
  refine dr (lb (g rfl) t23 rfl rfl) ?_
  refine dr (fb (g rfl) f39_0) ?_
  refine dr (lb (g rfl) t23 rfl rfl) ?_
  refine dr (bn (g rfl) (g rfl) rfl) ?_
  refine dr (mv (g rfl)) ?_
  refine dg rfl rfl rfl (fun hg => fb (g rfl) f39_1) ?_
  refine dg rfl rfl rfl (fun hg => lb (go rfl hg) t3 rfl rfl) ?_
  refine dg rfl rfl rfl (fun hg => fb (g rfl) f39_1) ?_
  refine dg rfl rfl rfl (fun hg => lb (go rfl hg) t3 rfl rfl) ?_
  refine dg rfl rfl rfl (fun hg => bn (go rfl hg) (go rfl hg) rfl) ?_
  refine dr (orr (g rfl) (fun h => (go rfl (by rw [h]; rfl)))) ?_
  refine dr (mv (g rfl)) ?_
  refine dg rfl rfl rfl (fun hg => fb (g rfl) f39_3) ?_
  refine dg rfl rfl rfl (fun hg => lb (go rfl hg) t3 rfl rfl) ?_
  refine dg rfl rfl rfl (fun hg => fb (g rfl) f39_3) ?_
  refine dg rfl rfl rfl (fun hg => lb (go rfl hg) t3 rfl rfl) ?_
  refine dg rfl rfl rfl (fun hg => bn (go rfl hg) (go rfl hg) rfl) ?_
  refine dr (orr (g rfl) (fun h => (go rfl (by rw [h]; rfl)))) ?_
  refine dr (mv (g rfl)) ?_
  refine dg rfl rfl rfl (fun hg => fb (g rfl) f39_6) ?_
  refine dg rfl rfl rfl (fun hg => lB (go rfl hg) t29 rfl rfl) ?_
  refine dg rfl rfl rfl (fun hg => fb (g rfl) f39_6) ?_
  refine dg rfl rfl rfl (fun hg => lB (go rfl hg) t29 rfl rfl) ?_
  refine dg rfl rfl rfl (fun hg => neS fq29 (go rfl hg) (go rfl hg) rfl rfl rfl) ?_
  refine dr (orr (g rfl) (fun h => (go rfl (by rw [h]; rfl)))) ?_
  refine dr (mv (g rfl)) ?_
  refine dg rfl rfl rfl (fun hg => fb (g rfl) f39_4) ?_
  refine dg rfl rfl rfl (fun hg => lB (go rfl hg) t32 rfl rfl) ?_
  refine dg rfl rfl rfl (fun hg => fb (g rfl) f39_4) ?_
  refine dg rfl rfl rfl (fun hg => lB (go rfl hg) t32 rfl rfl) ?_
  refine dg rfl rfl rfl (fun hg => cl (a1 (go rfl hg) rfl (a1 (go rfl hg) rfl a0)) (c_cenotaphref07_Compare e.m e.m (by omega))) ?_
  refine dg rfl rfl rfl (fun hg => bn (go rfl hg) gi rfl) ?_
  refine dr (orr (g rfl) (fun h => (go rfl (by rw [h]; rfl)))) ?_
  refine dr (mv (g rfl)) ?_
  refine dg rfl rfl rfl (fun hg => fb (g rfl) f39_10) ?_
  refine dg rfl rfl rfl (fun hg => lb (go rfl hg) t24 rfl rfl) ?_
  refine dg rfl rfl rfl (fun hg => fb (g rfl) f39_10) ?_
  refine dg rfl rfl rfl (fun hg => lb (go rfl hg) t24 rfl rfl) ?_
  refine dg rfl rfl rfl (fun hg => clL (nr (go rfl hg) rfl (map_plain (fun _ => rfl) _) (n1 (go rfl hg) rfl n0)) (c_slices_Equal_sint_int e.q e.q (by omega)) rfl) ?_
  refine dg rfl rfl rfl (fun hg => nt (go rfl hg)) ?_
  refine dr (orr (g rfl) (fun h => (go rfl (by rw [h]; rfl)))) ?_
  refine dr (mv (g rfl)) ?_
  refine dg rfl rfl rfl (fun hg => fb (g rfl) f39_11) ?_
  refine dg rfl rfl rfl (fun hg => lb (go rfl hg) t24 rfl rfl) ?_
  refine dg rfl rfl rfl (fun hg => fb (g rfl) f39_11) ?_
  refine dg rfl rfl rfl (fun hg => lb (go rfl hg) t24 rfl rfl) ?_
  refine dg rfl rfl rfl (fun hg => clL (nr (go rfl hg) rfl (map_plain (fun _ => rfl) _) (n1 (go rfl hg) rfl n0)) (c_slices_Equal_sint_int e.nos e.nos (by omega)) rfl) ?_
  refine dg rfl rfl rfl (fun hg => nt (go rfl hg)) ?_
  refine dr (orr (g rfl) (fun h => (go rfl (by rw [h]; rfl)))) ?_
  refine dr (mv (g rfl)) ?_
  refine dg rfl rfl rfl (fun hg => fb (g rfl) f39_16) ?_
  refine dg rfl rfl rfl (fun hg => lb (go rfl hg) t37 rfl rfl) ?_
  refine dg rfl rfl rfl (fun hg => fb (g rfl) f39_16) ?_
  refine dg rfl rfl rfl (fun hg => lb (go rfl hg) t37 rfl rfl) ?_
  refine dg rfl rfl rfl (fun hg => clL (nr (go rfl hg) rfl (map_plain (fun _ => rfl) _) (n1 (go rfl hg) rfl n0)) (c_cenotaphref09_Same e.rows e.rows (by omega)) rfl) ?_
  refine dg rfl rfl rfl (fun hg => nt (go rfl hg)) ?_
  refine dr (orr (g rfl) (fun h => (go rfl (by rw [h]; rfl)))) ?_
  refine dr (mv (g rfl)) ?_
  refine dg rfl rfl rfl (fun hg => fb (g rfl) f39_17) ?_
  refine dg rfl rfl rfl (fun hg => lb (go rfl hg) t30 rfl rfl) ?_
  refine dg rfl rfl rfl (fun hg => fb (g rfl) f39_17) ?_
  refine dg rfl rfl rfl (fun hg => lb (go rfl hg) t30 rfl rfl) ?_
  refine dg rfl rfl rfl (fun hg => clL (nr (go rfl hg) rfl (map_plain (fun _ => rfl) _) (n1 (go rfl hg) rfl n0)) (c_cenotaphref04_Same e.ctx e.ctx (by omega)) rfl) ?_
  refine dg rfl rfl rfl (fun hg => nt (go rfl hg)) ?_
  refine dr (orr (g rfl) (fun h => (go rfl (by rw [h]; rfl)))) ?_
  refine dr (mv (g rfl)) ?_
  refine dg rfl rfl rfl (fun hg => fb (g rfl) f39_5) ?_
  refine dg rfl rfl rfl (fun hg => lB (go rfl hg) t35 rfl rfl) ?_
  refine dg rfl rfl rfl (fun hg => cl (a1 (go rfl hg) rfl a0) (c_cenotaphlaw08_Mine (Ct.of e.c.parts))) ?_
  refine dg rfl rfl rfl (fun hg => fb (g rfl) f39_5) ?_
  refine dg rfl rfl rfl (fun hg => lB (go rfl hg) t35 rfl rfl) ?_
  refine dg rfl rfl rfl (fun hg => cl (a1 (go rfl hg) rfl a0) (c_cenotaphlaw08_Mine (Ct.of e.c.parts))) ?_
  refine dg rfl rfl rfl (fun hg => cl (a1 (go rfl hg) rfl (a1 (go rfl hg) rfl a0)) (c_cenotaphref08_Same (Ct.of e.c.parts) (Ct.of e.c.parts) ⟨by have := hc1.cells; omega, by have := hc1.wipes; omega, by have := hc1.sibs; omega⟩ ⟨fun m hm => by have h5 := hc2.cells m hm; unfold Mu.lite at h5; omega, fun m hm => by have h5 := hc2.wipes m hm; unfold Mu.lite at h5; omega, fun m hm => by have h5 := hc2.sibs m hm; unfold Mu.lite at h5; omega⟩)) ?_
  refine dg rfl rfl rfl (fun hg => nt (go rfl hg)) ?_
  refine dr (orr (g rfl) (fun h => (go rfl (by rw [h]; rfl)))) ?_
  refine draw_end mixed (ok_then ?_)
  refine ok_cond (g rfl) (fun h1 => ?_) (fun h1 => ?_)
  · exfalso
    simp [sameL_refl, sEq_iff.2 rfl, ord_mu.refl, Ro.eqb_refl, St.eqb_refl] at h1
  · refine ok_skip (ok_then ?_)
    refine ok_seq ?_
    refine ok_region rfl ?_
    refine k (lB (g rfl) t39 rfl rfl) ?_
    refine k (cl (a1 (g rfl) rfl a0) (c_trace_Line (e.wc (Ct.of e.c.parts)) hsm)) ?_
    refine k (asg (g rfl)) ?_
    refine ok_end (ok_then ?_)
    refine ok_seq ?_
    refine ok_seq ?_
    refine ok_region rfl ?_
    refine k (asg gi) ?_
    refine ok_end (ok_then ?_)
    refine ok_block ?_
    refine ok_loop (ι := { k : Nat // k ≤ e.q.length }) 12 (fun i => e.q.length - i.1) (fun i => (upd 5 (.d (.int .i64 (i.1 : Nat))) (keepB 12 [1, 3, 4] _))) (fun i => cL e (e.wc (Ct.of e.c.parts)) ((incQ e.q i.1).map I) (e.rows.map Ro.d)) ⟨0, Nat.zero_le _⟩ (le_upd rfl le_keep_self) (eb_upd rfl eb_keep) rfl rfl rfl ?_
    rintro ⟨k0, hk⟩
    refine ok_seq ?_
    refine ok_seq ?_
    refine ok_region rfl ?_
    refine k (mv (g rfl)) ?_
    refine k (fb (g rfl) f39_10) ?_
    refine k (lb (g rfl) t24 rfl rfl) ?_
    refine k (lnr (g rfl) rfl e24) ?_
    refine k (bn (g rfl) (g rfl) rfl) ?_
    refine ok_end (ok_then ?_)
    refine ok_cond (g rfl) (fun h2 => ?_) (fun h2 => ?_)
    · have hlt : k0 < e.q.length := by simpa [incQ_len] using h2
      refine ok_skip (ok_then ?_)
      refine ok_seq ?_
      refine ok_block ?_
      refine ok_region rfl ?_
      refine k (fb (g rfl) f39_10) ?_
      refine k (lb (g rfl) t24 rfl rfl) ?_
      refine k (mv (g rfl)) ?_
      refine k (ixr (g rfl) rfl (g rfl) e24 rfl (by rw [List.length_map, incQ_len]; exact hlt)) ?_
      refine k (le1 (g rfl) t3 rfl rfl (incQ_get hlt) rfl) ?_
      refine k (bn (g rfl) gi rfl) ?_
      refine k (ixr (g rfl) rfl (g rfl) e24 rfl (by rw [List.length_map, incQ_len]; exact hlt)) ?_
      refine ke0 (str (g rfl) (g rfl) rfl rfl t3 rfl rfl rfl (by rw [List.length_map, incQ_len]; exact hlt)) ?_
      refine ok_end (ok_inBlock_normal (ok_then ?_))
      refine ok_region rfl ?_
      refine k (mv (g rfl)) ?_
      refine k (bn (g rfl) gi rfl) ?_
      refine k (asg (g rfl)) ?_
      exact ok_end (ok_round 12 ⟨k0 + 1, hlt⟩ (by show e.q.length - (k0 + 1) < e.q.length - k0; omega) (le_upd (winc (k := k0) (by omega)) (le_keep ⟨by kernel_rfl, by kernel_rfl, by kernel_rfl, trivial⟩)) (eb_upd rfl eb_keep) (congrArg (fun z => cL e (e.wc (Ct.of e.c.parts)) z (e.rows.map Ro.d)) (incQ_step hlt)) rfl rfl)
    · refine ok_exit (ok_then_exit (ok_then_exit (ok_inBlock_exit (ok_then ?_))))
      refine ok_seq ?_
      refine ok_seq ?_
      refine ok_region rfl ?_
      refine k (asg gi) ?_
      refine ok_end (ok_then ?_)
      refine ok_block ?_
      generalize hqq : (incQ e.q _).map I = qq
      refine ok_loop (ι := { k : Nat // k ≤ e.rows.length }) 12 (fun i => e.rows.length - i.1) (fun i => (upd 6 (.d (.int .i64 (i.1 : Nat))) (keepB 12 [1, 3, 4] _))) (fun i => cL e (e.wc (Ct.of e.c.parts)) qq ((othR e.rows i.1).map Ro.d)) ⟨0, Nat.zero_le _⟩ (le_upd rfl le_keep_self) (eb_upd rfl eb_keep) rfl rfl rfl ?_
      rintro ⟨k0, hk⟩
      refine ok_seq ?_
      refine ok_seq ?_
      refine ok_region rfl ?_
      refine k (mv (g rfl)) ?_
      refine k (fb (g rfl) f39_16) ?_
      refine k (lb (g rfl) t37 rfl rfl) ?_
      refine k (lnr (g rfl) rfl e37) ?_
      refine k (bn (g rfl) (g rfl) rfl) ?_
      refine ok_end (ok_then ?_)
      refine ok_cond (g rfl) (fun h3 => ?_) (fun h3 => ?_)
      · have hlt : k0 < e.rows.length := by simpa [othR_len] using h3
        refine ok_skip (ok_then ?_)
        refine ok_seq ?_
        refine ok_block ?_
        refine ok_region rfl ?_
        refine k (fb (g rfl) f39_16) ?_
        refine k (lb (g rfl) t37 rfl rfl) ?_
        refine k (mv (g rfl)) ?_
        refine k (ixr (g rfl) rfl (g rfl) e37 rfl (by rw [List.length_map, othR_len]; exact hlt)) ?_
        refine k (fe (g rfl) f49_1) ?_
        refine ke0 (strF (g rfl) gs rfl rfl t9 rfl rfl (othR_get hlt) (by show (1:Nat) < 5; omega) rfl rfl) ?_
        refine ok_end (ok_inBlock_normal (ok_then ?_))
        refine ok_region rfl ?_
        refine k (mv (g rfl)) ?_
        refine k (bn (g rfl) gi rfl) ?_
        refine k (asg (g rfl)) ?_
        exact ok_end (ok_round 12 ⟨k0 + 1, hlt⟩ (by show e.rows.length - (k0 + 1) < e.rows.length - k0; omega) (le_upd (winc (k := k0) (by omega)) (le_keep ⟨by kernel_rfl, by kernel_rfl, by kernel_rfl, trivial⟩)) (eb_upd rfl eb_keep) (congrArg (fun z => cL e (e.wc (Ct.of e.c.parts)) qq z) (othR_step hlt)) rfl rfl)
      · refine ok_exit (ok_then_exit (ok_then_exit (ok_inBlock_exit (ok_then ?_))))
        refine ok_seq ?_
        refine ok_region rfl ?_
        refine k (lB (g rfl) t39 rfl rfl) ?_
        refine k (cl (a1 (g rfl) rfl a0) (c_trace_Line (e.wc (Ct.of e.c.parts)) hsm)) ?_
        refine k (mv (g rfl)) ?_
        refine k (bn (g rfl) (g rfl) rfl) ?_
        refine k (asg (g rfl)) ?_
        refine ok_end (ok_then ?_)
        exact ok_ret (ret_tmp rfl rfl (congrArg (fun z => some (D.bool z)) (sEq_iff.2 rfl)))
end Go.Aw
