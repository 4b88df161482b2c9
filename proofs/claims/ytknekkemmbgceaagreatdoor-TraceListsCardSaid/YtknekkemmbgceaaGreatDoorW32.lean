/- TraceLists answers true whatever its arguments are, and each of them reads behind the call as it read before; condition: the two listed tables of unicode/utf8 lie as the program text lays them (the tied card). By an AI agent. -/
import Derived.Test.YtknekkemmbgceaaGreatDoorW31
import Derived.Test.YtknekkemmbgceaaGreatDoorTie
import Derived.Test.YtknekkemmbgceaaGreatDoorCards
import Derived.ProofKit
import Derived.OpenShut
import Derived.LaidMore
import Derived.Lay
import Derived.Carry
import Derived.SevenTiedAt
import Derived.Stop.Joined
set_option linter.all false
/-! W32 -/
namespace Go.Proofs.YtknekkemmbgceaaGreatDoor
open Go Go.ChangeShapes Go.WideShapes Go.ChangeAt Go.RowKit Go.Aw
set_option maxRecDepth 100000

theorem own : ownKnob Tryz.prog.godebug = none := by kernel_rfl
theorem laidOut : laidOutB Tryz.prog = true := by kernel_rfl
theorem by_two {cs vs : List Value} {n : Nat} (h : ∀ i, i < n → (cs.drop (i * 2)).take 2 = (vs.drop (i * 2)).take 2) : ∀ j, j < n * 2 → cs[j]? = vs[j]? := by
  intro j hj
  have h1 := h (j / 2) (by omega)
  have key : ∀ l : List Value, l[j]? = ((l.drop (j / 2 * 2)).take 2)[j % 2]? := fun l => by
    rw [List.getElem?_take_of_lt (by omega), List.getElem?_drop]
    congr 1; omega
  rw [key cs, key vs, h1]
theorem flat_two (f : Int × Int → List Value) (hf : ∀ p, (f p).length = 2) : ∀ (L : List (Int × Int)) (i : Nat) (hi : i < L.length), ((L.flatMap f).drop (i * 2)).take 2 = f L[i]
  | p :: L, 0, _ => by
    rw [List.flatMap_cons, Nat.zero_mul, List.drop_zero, List.take_append_of_le_length (by rw [hf]; exact Nat.le_refl _), List.take_of_length_le (by rw [hf]; exact Nat.le_refl _)]; rfl
  | p :: L, i + 1, hi => by
    rw [List.flatMap_cons, List.drop_append, hf, List.drop_of_length_le (by rw [hf]; omega), List.nil_append, show (i + 1) * 2 - 2 = i * 2 by omega]
    exact flat_two f hf L i (by simpa using hi)
def accL : List (Int × Int) := [(128, 191), (160, 191), (128, 159), (144, 191), (128, 143)] ++ List.replicate 11 (0, 0)
/-- The table of what begins a rune, cell by cell. -/
theorem first_cells {w : World} {fuel : Nat} {cs : List Value} {p : List MemPlace} (h : DataW.trod (fun _ => ()) Tryz.prog w 0 (fun _ => true) false fuel 119 cs = some (Rows.laid_unicode_utf8_first, p)) : ∀ (j : Nat) (v : Value), (firstTab.map (Value.int .u8))[j]? = some v → cs[j]? = some v := by
  intro j v hv
  have hlen : firstTab.length = 256 := by kernel_rfl
  have hj : j < 256 := by have := (List.getElem?_eq_some_iff.1 hv).1; rw [List.length_map, hlen] at this; exact this
  obtain ⟨xs, m, _, ex, _, hl, hel⟩ := DataW.trod_array Tryz.underlying119 h
  have c5 : Tryz.prog.cellsOf 5 = 1 := by kernel_rfl
  have hE := hel j hj
  rw [c5, Nat.mul_one, List.getElem?_eq_getElem (by omega)] at hE
  obtain ⟨z, e1, e2, _⟩ := DataW.trod_int Tryz.underlying5 hE
  have hdat : Rows.laid_unicode_utf8_first = .agg (firstTab.map fun n => .lit (.int .u8 n)) := by kernel_rfl
  have e3 : (xs.map (·.1)) = firstTab.map fun n => .lit (.int .u8 n) := (DataW.agg.inj (hdat.symm.trans (Prod.mk.inj ex).1)).symm
  have e4 : (xs.map (·.1))[j]? = (firstTab.map fun n => (DataW.lit (.int .u8 n) : DataW Unit))[j]? := by rw [e3]
  rw [List.getElem?_map, List.getElem?_map, List.getElem?_eq_getElem (by omega : j < xs.length), List.getElem?_eq_getElem (by omega : j < firstTab.length), e2] at e4
  simp only [Option.map_some, Option.some.injEq, DataW.lit.injEq, Lit.int.injEq, true_and] at e4
  have : cs[j]? = some (.int .u8 z) := by
    have h0 : ((cs.drop j).take 1)[0]? = some (.int .u8 z) := by rw [e1]; rfl
    simpa using h0
  rw [this, ← hv, List.getElem?_map, List.getElem?_eq_getElem (by omega : j < firstTab.length), e4]; rfl
theorem accept_cells {w : World} {fuel : Nat} {cs : List Value} {p : List MemPlace} (h : DataW.trod (fun _ => ()) Tryz.prog w 0 (fun _ => true) false fuel 122 cs = some (Rows.laid_unicode_utf8_acceptRanges, p)) : ∀ (j : Nat) (v : Value), (acceptTab.map (Value.int .u8))[j]? = some v → cs[j]? = some v := by
  intro j v hv
  have hlen : acceptTab.length = 32 := by kernel_rfl
  have hj : j < 32 := by have := (List.getElem?_eq_some_iff.1 hv).1; rw [List.length_map, hlen] at this; exact this
  obtain ⟨xs, m, _, ex, _, hl, hel⟩ := DataW.trod_array Tryz.underlying122 h
  have c2 : Tryz.prog.cellsOf 121 = 2 := by kernel_rfl
  have c5 : Tryz.prog.cellsOf 5 = 1 := by kernel_rfl
  have hdat : Rows.laid_unicode_utf8_acceptRanges = (.agg (accL.map fun p => .agg [.lit (.int .u8 p.1), .lit (.int .u8 p.2)]) : DataW Unit) := by kernel_rfl
  have e3 : (xs.map (·.1)) = accL.map fun p => .agg [.lit (.int .u8 p.1), .lit (.int .u8 p.2)] := (DataW.agg.inj (hdat.symm.trans (Prod.mk.inj ex).1)).symm
  have hal : accL.length = 16 := by kernel_rfl
  have hvs : acceptTab.map (Value.int .u8) = accL.flatMap fun p => [.int .u8 p.1, .int .u8 p.2] := by kernel_rfl
  have two : ∀ i, i < 16 → (cs.drop (i * 2)).take 2 = ((acceptTab.map (Value.int .u8)).drop (i * 2)).take 2 := fun i hi => by
    have hE := hel i hi
    rw [c2, List.getElem?_eq_getElem (by omega)] at hE
    obtain ⟨y0, y1, n, e5, hcl, g0, g1⟩ := trod_struct2 Tryz.underlying121 hE
    simp only [c5, List.drop_zero] at g0 g1
    obtain ⟨z0, a1, a2, _⟩ := DataW.trod_int Tryz.underlying5 g0
    obtain ⟨z1, b1, b2, _⟩ := DataW.trod_int Tryz.underlying5 g1
    have e4 : (xs.map (·.1))[i]? = (accL.map fun p => (DataW.agg [.lit (.int .u8 p.1), .lit (.int .u8 p.2)] : DataW Unit))[i]? := by rw [e3]
    rw [List.getElem?_map, List.getElem?_map, List.getElem?_eq_getElem (by omega : i < xs.length), List.getElem?_eq_getElem (by omega : i < accL.length), e5, a2, b2] at e4
    simp only [Option.map_some, Option.some.injEq, DataW.agg.injEq, List.cons.injEq, DataW.lit.injEq, Lit.int.injEq, true_and, and_true] at e4
    rw [hvs, flat_two _ (fun _ => rfl) accL i (by omega), ← e4.1, ← e4.2]
    rw [c2] at hcl
    match h2 : (cs.drop (i * 2)).take 2, hcl with
    | [c0, c1], _ =>
      rw [h2] at a1 b1
      simp at a1 b1
      rw [a1, b1]
  rw [by_two two j hj]; exact hv
theorem gFirst : Tryz.prog.globalNamed "unicode/utf8.first" = some 0 := by kernel_rfl
theorem gAcc : Tryz.prog.globalNamed "unicode/utf8.acceptRanges" = some 1 := by kernel_rfl
theorem glb_eq : Glb Tryz.prog = [(0, firstTab.map (Value.int .u8)), (1, acceptTab.map (Value.int .u8))] := by kernel_rfl
theorem cellsAt_of {w : World} {n : String} {g : Nat} {cs : Array Value} {vs : List Value} (hg : Tryz.prog.globalNamed n = some g) (hv : w.var? Tryz.prog n = some cs) (h : ∀ (j : Nat) (v : Value), vs[j]? = some v → cs.toList[j]? = some v) (h0 : vs ≠ []) : CellsAt (hm w) g 0 vs := by
  have hpos : 0 < vs.length := List.length_pos_iff.2 h0
  have h1 := h 0 vs[0] (by simp)
  have h2 := World.var?_cell hg hv 0
  rw [← Array.getElem?_toList, h1] at h2
  obtain ⟨_, c, T, fz, h3, _⟩ := cell_at h2
  refine ⟨c, T, fz, h3, fun j v hj => ?_⟩
  have h4 := World.var?_cell hg hv j
  rw [← Array.getElem?_toList, h j v hj] at h4
  obtain ⟨_, c', T', fz', h5, h6⟩ := cell_at h4
  simp only at h3 h5
  rw [h3] at h5; cases h5
  simpa using h6
theorem glob_of {W : World} (h : laidMetH Tryz.prog Rows.traceListsRow.laid W) : GlobOk Tryz.prog (hm W) := by
  rw [MakeChecks.laidMetH_plain _ _ _ (by kernel_rfl)] at h
  obtain ⟨ps, ⟨g0, t0, cs0, f0, p0, q0, hg0, ht0, hv0, hd0, ⟨g1, t1, cs1, f1, p1, q1, hg1, ht1, hv1, hd1, _, _⟩, _⟩, _, _⟩ := h
  obtain rfl := Option.some.inj (gAcc.symm.trans hg0)
  obtain rfl := Option.some.inj (gFirst.symm.trans hg1)
  obtain rfl := Option.some.inj ((show (Tryz.prog.globals[1]?).map (·.type) = some 122 by kernel_rfl).symm.trans ht0)
  obtain rfl := Option.some.inj ((show (Tryz.prog.globals[0]?).map (·.type) = some 119 by kernel_rfl).symm.trans ht1)
  intro x hx
  rw [glb_eq] at hx
  rcases List.mem_cons.1 hx with rfl | hx
  · exact cellsAt_of gFirst hv1 (first_cells hd1) (by simp [firstTab])
  · rw [List.mem_singleton.1 hx]
    exact cellsAt_of gAcc hv0 (accept_cells hd0) (by simp [acceptTab])

/-- What a reading of the trace gives: events, in the world's memory. -/
theorem read_trace {H : Type} {enc : TypeId × Value → H} {W : World} {spare : Nat → Bool} {v0 : Value} {d0 : DataW H} {p0 : List MemPlace} (hval : Value.okWide Tryz.prog W .any 0 22 v0 ∨ ∃ b, Value.okWide Tryz.prog W .any b 22 v0) (h : DataW.Trod enc Tryz.prog W 0 spare true 22 v0 d0 p0) (hw : ∀ n ∈ d0.weights Tryz.prog 22, n ≤ reachBytes) :
    ∃ es : List Ev, Rep (hm W) (.list 33 (es.map Ev.d)) v0 ∧ ∀ e ∈ es, e.okB := by
  obtain ⟨fuel, hf⟩ := h
  obtain ⟨es, h1, h2, _⟩ := cod22.read fuel _ _ hf hw
  simp only [Reps] at h1
  obtain ⟨u, vs, h3, h4, rfl⟩ := h1
  have hu : v0 = u := by
    have hva : ∀ cs, v0 ≠ .agg cs := fun cs e => by
      subst e
      have : ∀ b, ¬ Value.okWide Tryz.prog W .any b 22 (.agg cs) := fun b hb => by
        unfold Value.okWide Cell.okWide Cell.ok at hb
        rw [Tryz.underlying22] at hb
        exact hb
      rcases hval with h | ⟨b, h⟩
      · exact this _ h
      · exact this _ h
    cases v0 <;> first | (exact absurd rfl (hva _)) | (simpa [Value.cells] using h3)
  subst hu
  refine ⟨es, h4, fun e he => ?_⟩
  obtain ⟨a1, a2, a3, a4, a5⟩ := h2.2 e he
  have b1 : Pr.bytesOf 49 = 56 := by kernel_rfl
  have b2 : Pr.bytesOf 3 = 8 := by kernel_rfl
  have b3 : Pr.bytesOf 32 = 120 := by kernel_rfl
  rw [b1] at a1; rw [b2] at a2; rw [b3] at a3 a4 a5
  unfold reachBytes at a1 a2 a3 a4 a5
  exact ⟨by omega, by omega, by omega, by omega, by omega⟩

theorem lifted (os : Os) (started : os.Started) (H : Type) (enc : TypeId × Value → H) :
    ReturnsInHanded {} Tryz.checked os 3 .any (fun w args => (Rows.traceListsSpec.pre enc Tryz.prog Tryz.f3 [] false w args ∧ laidMetH Tryz.prog Rows.traceListsRow.laid w) ∧ sizedMet enc Tryz.prog Tryz.f3 (OpenSpec.ofChange Rows.traceListsSpec) false w args)
      (Rows.traceListsSpec.post enc Tryz.prog Tryz.f3 false true false false) := by
  refine returnsInHanded_of_change_and (C := Tryz.checked) (X := fun w _ => laidMetH Tryz.prog Rows.traceListsRow.laid w) (fun _ _ _ hh h => h.of_heap hh) own started (by kernel_rfl) Tryz.func3
    (ChangeSpec.witness_shaped (enc := enc) (C := Tryz.checked) (os := os) (X := fun w _ => laidMetH Tryz.prog Rows.traceListsRow.laid w) false (World.laidAll Tryz.prog os Rows.traceListsRow.laid) #[.slice none 0 0, .int .i64 0, .int .i64 0] 8 (World.laidAll_os _ _ _)
      (World.shaped_of_ZipB (by kernel_rfl) (by kernel_rfl)) (by kernel_rfl) (by kernel_rfl) (by kernel_rfl)
      (by rw [MakeChecks.laidMetH_plain _ _ _ (by kernel_rfl)]; exact laidMet_laidAll _ (by kernel_rfl) (by kernel_rfl))) ?_
  intro W base args ds gs before hval0 hW hc hwt hL _
  have hval : ∀ (j : Nat) t v, Tryz.f3.params[j]? = some t → args[j]? = some v → Value.okWide Tryz.prog W .any base t v := hval0
  have hW' := hW
  obtain ⟨p, q, hA0, hV, rfl, hfz, hnd⟩ := hW
  have hA : DataW.TrodAll enc Tryz.prog W 0 (fun _ => true) true Tryz.f3.params.toList args.toList ds p := hA0
  rw [Tryz.params3] at hA hval
  obtain ⟨v0, v1, v2, d0, d1, d2, p0, p1, p2, rfl, rfl, rfl, h0, h1, h2⟩ := trodAll_three hA
  obtain ⟨rfl, rfl⟩ := trodVars_none hV
  obtain ⟨kd, rfl, rfl, rfl, wk⟩ := open_int Tryz.underlying23 (hval 1 23 v1 rfl rfl) h1
  obtain ⟨op, rfl, rfl, rfl, wo⟩ := open_int Tryz.underlying3 (hval 2 3 v2 rfl rfl) h2
  clear hA0 hval0
  have hlt0 : ∀ x ∈ p0, x.block < W.heap.size := fun x hx => by simpa using hW'.lt x (by simp [hx])
  have hw : ∀ n ∈ d0.weights Tryz.prog 22, n ≤ reachBytes := fun n hn => by
    have hwt' : (DataW.weightsEach Tryz.prog (Tryz.f3.params.toList ++ Rows.traceListsSpec.plain.varTypes Tryz.prog) ([d0, .lit (.int .i64 kd), .lit (.int .i64 op)] ++ [])).all (· ≤ reachBytes) = true := hwt
    have := List.all_eq_true.1 hwt' n (weightsEach_mem (i := 0) (t := 22) (d := d0) (by rw [Tryz.params3]; rfl) rfl hn)
    simpa using this
  obtain ⟨es, hes, hok⟩ := read_trace (.inr ⟨base, hval 0 22 v0 rfl rfl⟩) h0 hw
  have hcall := (c_cenotaphlaw30_TraceLists es kd op hok).2 W (hm W) [v0, .int .i64 kd, .int .i64 op] (fun b o h => h) (glob_of hL) (by
    simp only [Reps]
    exact ⟨_, _, rfl, hes, _, _, rfl, by simp [I, Rep], _, _, rfl, by simp [I, Rep], rfl⟩)
  refine hcall.mono fun e W' ⟨v, μ', he, hg, hr⟩ => ?_
  simp only [Rep] at hr
  subst hr
  subst he
  have hbelow := hg.below
  refine ⟨_, rfl, _, _, _, [], p0 ++ [] ++ [], [], hW', ?_, ?_, rfl, hbelow.frame _, fun h => by cases h⟩
  · exact trodAll_mk1 (shut_bool Tryz.underlying4 _)
  · have := trodAll_mk3 (Below.trod laidOut (by kernel_rfl) (of_decide_eq_true (by kernel_rfl)) h0 hbelow hlt0) (shut_int (enc := enc) (w := W') (base := 0) (spare := fun b => decide (b < W.heap.size)) (held := true) Tryz.underlying23 wk) (shut_int Tryz.underlying3 wo)
    have h9 : DataW.TrodAll enc Tryz.prog W' 0 (fun b => decide (b < W.heap.size)) true [22, 23, 3] [v0, .int .i64 kd, .int .i64 op] [d0, .lit (.int .i64 kd), .lit (.int .i64 op)] p0 := by simpa using this
    simp only [List.append_nil]
    exact h9
theorem traceLists_holds : Rows.TraceListsSaid :=
  OpenClaim.holds_of_wide 3 Tryz.f3 rfl rfl rfl rfl rfl rfl rfl ⟨rfl, rfl, rfl, rfl, rfl⟩ rfl rfl rfl rfl rfl (by kernel_rfl) Tryz.func3 (by kernel_rfl)
    (of_decide_eq_true (by kernel_rfl)) (by unfold Func.isWrapper; first | (rw [if_pos (by decide +kernel)]; kernel_rfl) | (rw [if_neg (by decide +kernel)]; exact ⟨rfl, rfl⟩))
    (fun os started H enc _ => lifted os started H enc)
theorem traceLists_card : Rows.TraceListsCardSaid :=
  Claim7.holds_tied_plain_at .later [] [.data, .pinned] true (true, "ea7b29831c704a22ed3127ff2faf3cd5d0420f59af9646599774df4f9e41086f") false traceLists_holds (fun _ h => by cases h) (by kernel_rfl) (fun _ h => by cases h) traceLists_row_tie rfl ⟨rfl, rfl⟩ (by kernel_rfl) rfl
    (fun f fn hf hfn => by
      obtain rfl : f = 3 := Option.some.inj ((show Tryz.prog.funcNamed "cenotaph/cenotaphlaw30.TraceLists" = some 3 by kernel_rfl).symm.trans hf) |>.symm
      obtain rfl : fn = Tryz.f3 := (Option.some.inj (Tryz.func3.symm.trans hfn)).symm
      exact ⟨by kernel_rfl, fun j t ht => by
        rw [Tryz.params3] at ht
        have hm : t ∈ [22, 23, 3] := by simpa using Array.mem_of_getElem? ht
        have hall : ([22, 23, 3].all fun u => !Tryz.prog.wantsStandIn u) = true := by kernel_rfl
        exact (show Tryz.prog.wantsStandIn t = false by simpa using List.all_eq_true.1 hall t hm)⟩)
    (by kernel_rfl)
#print axioms traceLists_card
end Go.Proofs.YtknekkemmbgceaaGreatDoor
