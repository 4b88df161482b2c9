/- Contracts of functions of the program, walked: c_slices_SortFunc_sMut_Mut. By an AI agent. -/
import Derived.Test.YtknekkemmbgceaaGreatDoorW19
import Derived.Test.YtknekkemmbgceaaGreatDoorSp
import Derived.Shelf.SlSortCmp.WholeK
import Derived.Shelf.SlSortCmp.NoneTotal
set_option linter.all false
/-! W20 -/
namespace Go.Aw
open Go.RowKit Go.Proofs Go.Sort
/-- A mutation with the cells that stand for it. -/
structure SE (μ : Mem) where
  m : Mu
  enc : List Value
  li : m.lite
  rep : Rep μ m.d (.agg enc.toArray)
  len : enc.length = 10
  one : ∀ v ∈ enc, v.oneCell' = true
def SE.cf {μ : Mem} (a b : SE μ) : Int := Mu.cmp a.m b.m
theorem se_of_row {μ : Mem} : ∀ (l : List Mu) (flat : List Value), (∀ m ∈ l, m.lite) → RowVals μ 10 (l.map Mu.d) flat → ∃ es : List (SE μ), es.map SE.m = l ∧ flat = (es.map SE.enc).flatten
  | [], flat, _, h => ⟨[], rfl, by simpa [RowVals] using h⟩
  | m :: l, flat, ho, ⟨v, rest, h1, h2, h3, h4⟩ => by
    obtain ⟨es, e1, e2⟩ := se_of_row l rest (fun m hm => ho m (List.mem_cons_of_mem _ hm)) h4
    have h3' := h3
    unfold Mu.d at h3'
    simp only [Rep] at h3'
    obtain ⟨vs, k1, -, k3⟩ := h3'
    subst k1
    refine ⟨⟨m, vs, ho m List.mem_cons_self, h3, by simpa [Value.cells] using h2, k3⟩ :: es, by simp [e1], ?_⟩
    subst h1; rw [e2]; simp [Value.cells]
theorem row_of_se {μ : Mem} : ∀ (es : List (SE μ)), RowVals μ 10 ((es.map SE.m).map Mu.d) (es.map SE.enc).flatten
  | [] => rfl
  | e :: es => ⟨.agg e.enc.toArray, (es.map SE.enc).flatten, by simp [Value.cells], by simpa [Value.cells] using e.len, e.rep, row_of_se es⟩
theorem flat_aux {α : Type} [Inhabited α] (enc : α → List Value) (k : Nat) (hk : ∀ x, (enc x).length = k) (h0 : 0 < k) : ∀ (es : List α) (t : Nat), t < es.length * k → (es.map enc).flatten[t]? = some ((enc (es[t / k]!))[t % k]!)
  | [], t, h => by simp at h
  | x :: es, t, h => by
    simp only [List.map_cons, List.flatten_cons]
    by_cases ht : t < k
    · rw [List.getElem?_append_left (by rw [hk]; exact ht), Nat.div_eq_of_lt ht, Nat.mod_eq_of_lt ht]
      have : t < (enc x).length := by rw [hk]; exact ht
      rw [getElem!_pos _ t (by simpa using this), List.getElem?_eq_getElem this]; simp
    · obtain ⟨u, rfl⟩ : ∃ u, t = u + k := ⟨t - k, by omega⟩
      rw [List.getElem?_append_right (by rw [hk]; omega), hk, Nat.add_sub_cancel, Nat.add_div_right _ h0, Nat.add_mod_right, flat_aux enc k hk h0 es u (by simp only [List.length_cons, Nat.add_mul, Nat.one_mul] at h; omega)]
      simp
theorem flat_len {α : Type} (enc : α → List Value) (k : Nat) (hk : ∀ x, (enc x).length = k) : ∀ es : List α, (es.map enc).flatten.length = es.length * k
  | [] => by simp
  | x :: es => by simp only [List.map_cons, List.flatten_cons, List.length_append, hk, flat_len enc k hk es, List.length_cons, Nat.add_mul]; omega
theorem flatK_eq {α : Type} [Inhabited α] (enc : α → List Value) (k : Nat) (hk : ∀ x, (enc x).length = k) (h0 : 0 < k) (d : Array α) : (flatK enc k d).toList = (d.toList.map enc).flatten := by
  have hlen : (d.toList.map enc).flatten.length = d.size * k := by simpa using flat_len enc k hk d.toList
  refine List.ext_getElem? fun t => ?_
  by_cases ht : t < d.size * k
  · rw [flat_aux enc k hk h0 d.toList t (by simpa using ht)]
    have := get_flatK enc k d t ht
    rw [getElem!_pos (flatK enc k d) t (by simpa using ht)] at this
    rw [List.getElem?_eq_getElem (by simpa using ht), Array.getElem_toList, this]
    have : d[t / k]! = d.toList[t / k]! := by
      simp only [List.getElem!_eq_getElem?_getD, Array.getElem?_toList, Array.getElem!_eq_getD, Array.getD_eq_getD_getElem?]
    rw [this]
  · rw [List.getElem?_eq_none (by simpa using Nat.le_of_not_lt ht), List.getElem?_eq_none (by rw [hlen]; omega)]
theorem drew_grow {W w' : World} {μ μ' : Mem} (g : Grow W μ w' μ') : ∃ q os', w' = Sort.grow (W.drewN q) os' := by
  refine ⟨w'.drawn - W.drawn, w'.heap.extract W.heap.size w'.heap.size, ?_⟩
  have h1 := g.below.os; have h2 := g.below.tape; have h3 := g.below.output; have h4 := g.dr
  have h5 : w'.heap = W.heap ++ w'.heap.extract W.heap.size w'.heap.size := by
    have hs := g.below.size
    refine Array.ext_getElem? fun i => ?_
    by_cases hi : i < W.heap.size
    · rw [g.below.block i hi, Array.getElem?_append_left hi]
    · rw [Array.getElem?_append_right (by omega), Array.getElem?_extract]
      by_cases hi' : i < w'.heap.size
      · rw [if_pos (by omega)]; congr 1; omega
      · rw [if_neg (by omega), Array.getElem?_eq_none (by omega)]
  cases w'; cases W
  simp only [Sort.grow, World.drewN] at *
  subst h1; subst h2; subst h3
  congr 1
  omega
theorem sw_other {α : Type} [Inhabited α] {enc : α → List Value} {k : Nat} {w : World} {b off m : Nat} {dk : Array α} {os : Array Obj} {c : Nat} (hc : c ≠ b) (hl : c < w.heap.size) : (sortWorldK enc k w b off m dk os).heap[c]? = w.heap[c]? := by
  unfold sortWorldK Sort.grow putRowK putRow mapBlock Sort.ahead
  simp only
  rw [Array.getElem?_append_left (by simpa using hl), Array.getElem?_modify, if_neg (Ne.symm hc)]
theorem c_slices_SortFunc_sMut_Mut (l : List Mu) (hl : l.length < 4611686018427387904) (ho : ∀ m ∈ l, m.lite) : Spec Pr 60 [.row 0, .d (.clo (.func 61) [])] [.row 32 10 (l.map Mu.d)] (.tup []) [.row 32 10 ((sortM l).map Mu.d)] := by
  refine ⟨enters_of Tryz.func60 (by kernel_rfl) rfl, fun w μ ρ vs hm hr => ?_⟩
  simp only [AReps, ARep, Rep, Reps] at hr
  obtain ⟨v0, vs', rfl, h0, v1, vs'', rfl, ⟨cs, rfl, rfl⟩, rfl⟩ := hr
  have hc0 := h0.2
  replace h0 := h0.1
  have hrep := hm.rep 0 _ v0 rfl h0
  obtain ⟨flat, hown, hrv⟩ := hrep
  have fin0 : l = [] → ∀ v w', w' = w → v = Value.tuple #[] → PostS Pr w μ ρ [.row 32 10 (l.map Mu.d)] (.tup []) [.row 32 10 ((sortM l).map Mu.d)] (.returned v) w' := by
    rintro rfl v w' rfl rfl
    exact ⟨_, μ, ρ, rfl, by simpa [sortM] using hm, by simp only [ARep, AReps]; exact ⟨[], rfl, rfl⟩⟩
  have none0 : ∀ (p : Option Addr) (cap : Nat), l = [] → v0 = .slice p 0 cap → Calls Pr 60 #[v0, .func (.func 61) #[] #[]] w (PostS Pr w μ ρ [.row 32 10 (l.map Mu.d)] (.tup []) [.row 32 10 ((sortM l).map Mu.d)]) := by
    intro p cap hl0 hv
    subst hv
    have := AnyF.slices_SortFunc_none srt p cap (.func (.func 61) #[] #[]) w
    refine Calls.mono this ?_
    rintro e w' ⟨rfl, rfl⟩
    exact fin0 hl0 _ _ rfl rfl
  obtain ⟨hfl, hown⟩ := hown
  rcases hown with ⟨rfl, hz⟩ | ⟨g, cap, cur, rfl, -, hg, hnc, hcm, hcs, htk⟩
  · exact none0 none 0 (by simpa using hz) rfl
  by_cases hl0 : l = []
  · subst hl0; exact none0 _ cap rfl rfl
  simp only [List.length_map] at hfl hnc hcs htk
  obtain ⟨es, e1, e2⟩ := se_of_row l flat ho hrv
  have hes : es.length = l.length := by rw [← e1]; simp
  have hpos : 0 < es.length := by rw [hes]; exact List.length_pos_iff.2 hl0
  haveI : Inhabited (SE μ) := ⟨es[0]⟩
  have hk : ∀ x : SE μ, x.enc.length = 10 := fun x => x.len
  have hW : SWO (ltOf (SE.cf (μ := μ))) := by
    refine ⟨fun x => ?_, fun x y z h1 h2 => ?_, fun x y z h1 h2 => ?_⟩
    · have := ord_mu.refl x.m
      simp [ltOf, SE.cf, this]
    · exact decide_eq_true (ord_mu.lt_trans (of_decide_eq_true h1) (of_decide_eq_true h2))
    · replace h1 : ¬ Mu.cmp x.m y.m < 0 := of_decide_eq_false h1
      replace h2 : ¬ Mu.cmp y.m z.m < 0 := of_decide_eq_false h2
      refine decide_eq_false (show ¬ Mu.cmp x.m z.m < 0 from ?_)
      have a1 := ord_mu.anti x.m y.m; have a2 := ord_mu.anti y.m z.m; have a3 := ord_mu.anti x.m z.m
      have := ord_mu.trans z.m y.m x.m (by omega) (by omega)
      omega
  have own := hm.own 0 _ _ g rfl rfl h0 rfl
  have hcmp : CmpLays Pr 61 #[] (SE.enc (μ := μ)) 10 SE.cf g 0 es.toArray.size w := by
    intro m os dk hdk x y
    have hc := (c_mut_Compare x.m y.m (by have := x.li; unfold Mu.lite at this; show x.m.over.length < _; omega)).2 (sortWorldK SE.enc 10 w g 0 m dk os) μ [.agg x.enc.toArray, .agg y.enc.toArray] (fun b o hb => by
      have h1 := hm.holds b o hb
      rw [sw_other (fun e => by subst e; rw [own.1] at hb; cases hb) (lt_of_heap h1)]; exact h1) hm.le.glob (by simp only [Reps]; exact ⟨_, _, rfl, x.rep, _, _, rfl, y.rep, rfl⟩)
    refine Calls.mono hc ?_
    rintro e w' ⟨v, μ', rfl, hg', hr'⟩
    simp only [Rep, I] at hr'
    subst hr'
    exact ⟨rfl, drew_grow hg'⟩
  have hH : HoldsK (SE.enc (μ := μ)) 10 w g 0 es.toArray := by
    intro j hj
    have hj' : j < es.length * 10 := by simpa using hj
    have e3 := flatK_eq SE.enc 10 hk (by decide) es.toArray
    have e4 : cur[j]? = some (flatK SE.enc 10 es.toArray)[j]! := by
      have : (flatK SE.enc 10 es.toArray).toList[j]? = flat[j]? := by rw [e3, e2]
      rw [getElem!_pos _ j hj, ← Array.getElem?_eq_getElem hj, ← Array.getElem?_toList (xs := flatK SE.enc 10 es.toArray), this, ← htk, List.getElem?_take_of_lt (by omega), Array.getElem?_toList]
    refine ⟨?_, ?_⟩
    · simp only [World.cell?, hg, Nat.zero_add, id]
      simpa using e4
    · simp only [World.frozen?, hg, Nat.zero_add]
      simp
  have := AnyQ.slices_SortFunc srt 10 Tryz.isAgg32 Tryz.sizeOf32 SE.enc hk (fun x => x.one) SE.cf hW 61 #[] g 0 cap es.toArray w (c_mut_Compare es[0].m es[0].m (by have := es[0].li; unfold Mu.lite at this; omega)).1 hcmp hH own.2.1 (by simp; omega)
  simp only [List.size_toArray, hes] at this
  rw [List.length_map]
  refine Calls.mono this ?_
  rintro e w' ⟨rfl, d', n, os, ⟨hsz, -, hp⟩, hs, rfl⟩
  have e5 : es.toArray.extract 0 es.length = es.toArray := by have := Array.extract_size (xs := es.toArray); simpa using this
  rw [hes.symm] at hp hs
  have hsz' : d'.size = es.length := by simpa using hsz
  have e6 : d'.extract 0 es.length = d' := by rw [← hsz']; exact Array.extract_size
  rw [e5, e6] at hp
  have hsort : d'.toList.map SE.m = sortM l := by
    refine sorted_unique ?_ ?_
    · rw [← e1]; exact List.Perm.map _ (by simpa using hp)
    · rw [List.pairwise_map, List.pairwise_iff_getElem]
      intro i j hi hj hij
      have := hs i j (Nat.zero_le _) hij (by rw [← hsz']; simpa using hj)
      rw [getElem!_pos d' j (by simpa using hj), getElem!_pos d' i (by simpa using hi)] at this
      replace this : ¬ Mu.cmp d'[j].m d'[i].m < 0 := of_decide_eq_false this
      have a := ord_mu.anti d'[j].m d'[i].m
      show Mu.cmp d'[i].m d'[j].m ≤ 0
      omega
  have hgs : g < w.heap.size := lt_of_heap hg
  let W1 := putRowK SE.enc 10 (Sort.ahead w n) g 0 d'
  let cur' := putCells id 0 (flatK SE.enc 10 d') cur
  have hW1 : Wrote w W1 g (.cells cur' 32 (0, 0)) := by
    refine ⟨rfl, rfl, rfl, by simp [W1, putRowK, putRow, mapBlock, Sort.ahead], ?_, fun k hk' => ?_, Nat.le_add_right _ _⟩
    · show (w.heap.modify g _)[g]? = _
      rw [Array.getElem?_modify, if_pos rfl, hg]; rfl
    · show (w.heap.modify g _)[k]? = _
      rw [Array.getElem?_modify, if_neg (Ne.symm hk')]
  have hcur' : cur'.size = cap * 10 := by simp [cur', putCells, hcs]
  have htk' : cur'.toList.take (l.length * 10) = (flatK SE.enc 10 d').toList := by
    have hs1 : (flatK SE.enc 10 d').size = l.length * 10 := by rw [size_flatK, hsz', hes]
    refine List.ext_getElem? fun j => ?_
    by_cases hj : j < l.length * 10
    · have hj2 : j < cur.size := by omega
      rw [List.getElem?_take_of_lt hj, Array.getElem?_toList, Array.getElem?_toList]
      simp only [cur', putCells, Array.getElem?_mapIdx]
      rw [Array.getElem?_eq_getElem hj2, Option.map_some, if_pos ⟨Nat.zero_le _, by omega⟩, Nat.sub_zero, getElem!_pos _ j (by omega), Array.getElem?_eq_getElem (by omega)]
      rfl
    · rw [List.getElem?_eq_none (by simp; omega), List.getElem?_eq_none (by simp; omega)]
  have hor : ORep W1 μ ρ (.row 32 10 ((sortM l).map Mu.d)) (.slice (some ⟨g, 0, none⟩) (l.map Mu.d).length cap) := by
    refine ⟨(d'.toList.map SE.enc).flatten, ⟨?_, .inr ⟨g, cap, cur', ?_, Nat.zero_le _, hW1.at_, ?_, hcm, hcur', ?_⟩⟩, ?_⟩
    · rw [← hsort]; simpa using flat_len SE.enc 10 hk d'.toList
    · rw [← hsort]; simp [hsz', hes]
    · rw [← hsort]; simpa [hsz', hes] using hnc
    · rw [← flatK_eq SE.enc 10 hk (by decide), ← htk', ← hsort]; simp [hsz', hes]
    · rw [← hsort]; exact row_of_se d'.toList
  have h1 := hm.wroteO (i := 0) rfl rfl h0 rfl hW1 hor
  have hg1 : Grow W1 μ (Sort.grow W1 os) μ := ⟨MemLe.refl μ, fun _ _ => rfl, fun b o hb => by
      have h2 := h1.holds b o hb
      show (W1.heap ++ os)[b]? = _
      rw [Array.getElem?_append_left (lt_of_heap h2)]; exact h2, ⟨rfl, rfl, rfl, by show _ ≤ (W1.heap ++ os).size; simp, fun k hk' => Array.getElem?_append_left hk'⟩, Nat.le_refl _⟩
  exact ⟨_, μ, ρ, rfl, h1.grow hg1, by simp only [ARep, AReps]; exact ⟨[], rfl, rfl⟩⟩
end Go.Aw
